/- The program's ShowProgram returns what the reference's returns, for all programs, and leaves its argument as it is. No condition beside what the statement itself asks. -/
import Derived.Test.YtcoapbnbakmkoaaGreatDoorPFnExactShowProgramx19
import Derived.Test.YtcoapbnbakmkoaaGreatDoorRdFnExactShowProgram
import Derived.Lib.ItoaNum
import Derived.Lib.ItoaLen
import Derived.Lib.Join
set_option linter.unusedVariables false
set_option linter.unusedSimpArgs false
namespace Go.Proofs.YtcoapbnbakmkoaaGreatDoor.Pure
open Go.RowKit Go.Proofs.YtcoapbnbakmkoaaGreatDoor.PFnExactShowProgram Go.Proofs.YtcoapbnbakmkoaaGreatDoor.RdFnExactShowProgram Go.Proofs.YtcoapbnbakmkoaaGreatDoorW.PrintWords Go.Proofs.YtcoapbnbakmkoaaGreatDoorW.PrintLast

theorem Zm {x : Int} (h0 : -9223372036854775808 ≤ x) (h1 : x ≤ 9223372036854775807) : wrap64 x = x := by unfold wrap64; omega
theorem Zjc {x : Int} (h : (Lit.int .i64 x).wf = true) : -9223372036854775808 ≤ x ∧ x ≤ 9223372036854775807 := by
  simp only [Lit.wf, Bool.and_eq_true, decide_eq_true_eq] at h
  have h1 : IntKind.i64.min = -9223372036854775808 := by decide
  have h2 : IntKind.i64.max = 9223372036854775807 := by decide
  omega
theorem Zjo {x y : Int} (h : 0 ≤ x) : Int.tmod x y = x % y := Int.tmod_eq_emod_of_nonneg h
theorem Zjm {x y : Int} (h : 0 ≤ x) : Int.tdiv x y = x / y := Int.tdiv_eq_ediv_of_nonneg h
theorem Zci {α : Type} {F : Nat → Option α} {r : α} (H : ∀ k, F k = some r) : Ev F r := ⟨0, fun k _ => H k⟩
theorem Zd {α : Type} {F : Nat → Option α} {r : α} (H : ∀ k, F (k + 1) = some r) : Ev F r := by
  refine ⟨1, fun k hk => ?_⟩
  obtain ⟨m, rfl⟩ : ∃ m, k = m + 1 := ⟨k - 1, by omega⟩
  exact H m
theorem Zj {α β : Type} {F : Nat → Option α} {r : α} {g : Nat → Option β} {a : β} (ha : Ev g a) (H : ∀ k, g k = some a → F k = some r) : Ev F r := by
  obtain ⟨K, ha⟩ := ha
  exact ⟨K, fun k hk => H k (ha k hk)⟩
theorem Zb {α β : Type} {F : Nat → Option α} {r : α} {g : Nat → Option β} {a : β} (ha : Ev g a) (H : ∀ k, g k = some a → F (k + 1) = some r) : Ev F r := by
  obtain ⟨K, ha⟩ := ha
  refine ⟨K + 1, fun k hk => ?_⟩
  obtain ⟨m, rfl⟩ : ∃ m, k = m + 1 := ⟨k - 1, by omega⟩
  exact H m (ha m (by omega))
theorem Zdw {α β : Type} {g : Nat → Option α} {f : Nat → Option β} {a : α} {b : β} (ha : Ev g a) (hb : Ev f b) : ∃ K, ∀ k, K ≤ k → g k = some a ∧ f k = some b := by
  obtain ⟨K, ha⟩ := ha
  obtain ⟨K', hb⟩ := hb
  exact ⟨max K K', fun k hk => ⟨ha k (by omega), hb k (by omega)⟩⟩
theorem Zax {α β γ : Type} {F : Nat → Option α} {r : α} {g : Nat → Option β} {a : β} {f : Nat → Option γ} {b : γ} (ha : Ev g a) (hb : Ev f b) (H : ∀ k, g k = some a → f k = some b → F k = some r) : Ev F r := by
  obtain ⟨K, h⟩ := Zdw ha hb
  exact ⟨K, fun k hk => H k (h k hk).1 (h k hk).2⟩
theorem Zh {α β γ : Type} {F : Nat → Option α} {r : α} {g : Nat → Option β} {a : β} {f : Nat → Option γ} {b : γ} (ha : Ev g a) (hb : Ev f b) (H : ∀ k, g k = some a → f k = some b → F (k + 1) = some r) : Ev F r := by
  obtain ⟨K, h⟩ := Zdw ha hb
  refine ⟨K + 1, fun k hk => ?_⟩
  obtain ⟨m, rfl⟩ : ∃ m, k = m + 1 := ⟨k - 1, by omega⟩
  exact H m (h m (by omega)).1 (h m (by omega)).2
theorem Zjf {α β γ δ : Type} {F : Nat → Option α} {r : α} {g : Nat → Option β} {a : β} {f : Nat → Option γ} {b : γ} {e : Nat → Option δ} {c : δ} (ha : Ev g a) (hb : Ev f b) (hc : Ev e c) (H : ∀ k, g k = some a → f k = some b → e k = some c → F k = some r) : Ev F r := by
  obtain ⟨K, h⟩ := Zdw ha hb
  obtain ⟨K', h'⟩ := hc
  exact ⟨max K K', fun k hk => H k (h k (by omega)).1 (h k (by omega)).2 (h' k (by omega))⟩
theorem Zdc {α β γ δ : Type} {F : Nat → Option α} {r : α} {g : Nat → Option β} {a : β} {f : Nat → Option γ} {b : γ} {e : Nat → Option δ} {c : δ} (ha : Ev g a) (hb : Ev f b) (hc : Ev e c) (H : ∀ k, g k = some a → f k = some b → e k = some c → F (k + 1) = some r) : Ev F r := by
  obtain ⟨K, h⟩ := Zdw ha hb
  obtain ⟨K', h'⟩ := hc
  refine ⟨max K K' + 1, fun k hk => ?_⟩
  obtain ⟨m, rfl⟩ : ∃ m, k = m + 1 := ⟨k - 1, by omega⟩
  exact H m (h m (by omega)).1 (h m (by omega)).2 (h' m (by omega))
def evp {α β : Type} (x : Option α) (y : Option β) : Option (α × β) := x.bind fun a => y.bind fun b => some (a, b)
theorem Zji {α β : Type} {g : Nat → Option α} {f : Nat → Option β} {a : α} {b : β} (ha : Ev g a) (hb : Ev f b) : Ev (fun k => evp (g k) (f k)) (a, b) :=
  Zax ha hb (fun k e e2 => by simp [evp, e, e2])
theorem Ziq {α β : Type} {x : Option α} {y : Option β} {a : α} {b : β} (h : evp x y = some (a, b)) : x = some a := by
  unfold evp at h
  cases x with
  | none => simp at h
  | some x => cases y with
    | none => simp at h
    | some y => simp at h; simp [h.1]
theorem Zir {α β : Type} {x : Option α} {y : Option β} {a : α} {b : β} (h : evp x y = some (a, b)) : y = some b := by
  unfold evp at h
  cases x with
  | none => simp at h
  | some x => cases y with
    | none => simp at h
    | some y => simp at h; simp [h.2]

theorem Ziu {α : Type} : ∀ (a : List α) (b : α) (r : List α) (v : α) (i : Nat), a.length = i → (a ++ b :: r).set i v = a ++ v :: r
  | [], b, r, v, i, h => by subst h; rfl
  | x :: a, b, r, v, i, h => by
    subst h
    simp only [List.cons_append, List.length_cons, List.set_cons_succ, Ziu a b r v a.length rfl]
theorem Zcf {α β : Type} (f : α → β) (xs : List α) (z : β) (i : Nat) (h : i < xs.length) :
    ((xs.take i).map f ++ List.replicate (xs.length - i) z).set i (f xs[i]) = (xs.take (i + 1)).map f ++ List.replicate (xs.length - (i + 1)) z := by
  rw [show xs.length - i = (xs.length - (i + 1)) + 1 by omega, List.replicate_succ, Ziu _ _ _ _ i (by simp; omega), List.take_succ_eq_append_getElem h, List.map_append, List.append_assoc]
  rfl
theorem Zbf (xs : List Int) (i : Nat) (h : i < xs.length) : rd xs (i : Int) = xs[i] := by
  unfold rd
  rw [Int.toNat_natCast, List.getD_eq_getElem?_getD, List.getElem?_eq_getElem h]; rfl
theorem Zbq {α : Type} (xs : List α) (z : α) (i : Nat) (h : i < xs.length) : xs.getD ((i : Int)).toNat z = xs[i] := by
  rw [Int.toNat_natCast, List.getD_eq_getElem?_getD, List.getElem?_eq_getElem h]; rfl
theorem Zf {i : Nat} (h : i < 4611686018427387904) : wrap64 ((i : Int) + 1) = ((i + 1 : Nat) : Int) := by unfold wrap64; omega
theorem Zcw (l : List Int) (hl : l.length ≤ 1048576) : ∀ (d i : Nat), i + d = l.length →
    Ev (fun k => laws_toIntS.l0 k l ((l.take i).map id ++ List.replicate (l.length - i) 0) (i : Int)) l
  | 0, i, h => by
    refine Zd (fun k => ?_)
    simp only [laws_toIntS.l0]
    rw [if_neg (by omega), show l.length - i = 0 by omega, show i = l.length by omega]; simp
  | d + 1, i, h => by
    refine Zb (Zcw l hl d (i + 1) (by omega)) (fun k e => ?_)
    have hi : i < l.length := by omega
    simp only [laws_toIntS.l0]
    rw [if_pos (by omega), if_pos (by omega), if_pos (by simp; omega), Int.toNat_natCast, Zbf l i hi, show l[i] = id l[i] from rfl, Zcf id l 0 i hi, Zf (by omega)]
    exact e
theorem Zgj (l : List Int) (hl : l.length ≤ 1048576) : Ev (fun k => laws_toIntS.f k l) l := by
  refine Zj (Zcw l hl l.length 0 (by omega)) (fun k e => ?_)
  simp only [laws_toIntS.f]
  rw [if_pos (by omega), Int.toNat_natCast, if_pos (by omega)]
  simpa using e
theorem Zcz (a : List Int) (hl : a.length ≤ 1048576) : ∀ (d i : Nat), i + d = a.length → Ev (fun k => laws_eqIntS.l0 k a a (i : Int)) true
  | 0, i, h => by
    refine Zd (fun k => ?_)
    simp only [laws_eqIntS.l0]
    rw [if_neg (by omega)]
  | d + 1, i, h => by
    refine Zb (Zcz a hl d (i + 1) (by omega)) (fun k e => ?_)
    simp only [laws_eqIntS.l0, if_true]
    rw [if_pos (by omega), if_pos (by omega), if_pos (by omega), Zf (by omega)]
    exact e
theorem Zge (a : List Int) (hl : a.length ≤ 1048576) : Ev (fun k => laws_eqIntS.f k a a) true := by
  refine Zj (Zcz a hl a.length 0 (by omega)) (fun k e => ?_)
  simp only [laws_eqIntS.f, if_true]
  exact e

theorem Zgh {i : Nat} (h : i < 9223372036854775807) : wrap64 ((i : Int) + 1) = ((i + 1 : Nat) : Int) := by unfold wrap64; omega
theorem Zbs (a : Int) (n : Nat) (h0 : 0 ≤ a) (h1 : a ≤ 1048576) (hn : n ≤ maxLen) : wrap64 (a - (n : Int)) = a - n := by
  unfold maxLen at hn
  exact Zm (by omega) (by omega)
theorem Zgl (l : List Int) (a : Int) (h0 : 0 ≤ a) (h1 : a ≤ 1048576) (hl : l.length ≤ maxLen) : ∃ r, laws_szIntS.f l a = some r ∧ (r < 0 ∨ (0 ≤ r ∧ r ≤ a ∧ l.length ≤ 1048576)) := by
  rw [laws_szIntS.f, Zbs a _ h0 h1 hl]
  by_cases c : a - (l.length : Int) < 0
  · rw [if_pos c]; exact ⟨_, rfl, .inl (by omega)⟩
  · rw [if_neg c]; exact ⟨_, rfl, .inr ⟨by omega, by omega, by omega⟩⟩
abbrev Zbe := S80
abbrev Za := S62
def Zad (x : Zbe) : Za := ⟨x.f0, x.f1, x.f2, x.f3⟩
def Zga (x : Zbe) : Prop := x.f2.size ≤ maxLen ∧ x.f3.length ≤ maxLen
def Zv (x : Za) : Prop := x.f2.size ≤ 1048576 ∧ x.f3.length ≤ 1048576
theorem Zfd (xs : List Zbe) (i : Nat) (h : i < xs.length) : rd_T80 xs (i : Int) = xs[i] := by
  unfold rd_T80
  exact Zbq xs _ i h
theorem Zag (xs : List Za) (i : Nat) (h : i < xs.length) : rd_T62 xs (i : Int) = xs[i] := by
  unfold rd_T62
  exact Zbq xs _ i h
theorem Zgi (x : Zbe) (a : Int) (h0 : 0 ≤ a) (h1 : a ≤ 1048576) (w : Zga x) : ∃ r, laws_szNode.f x.f0 x.f1 x.f2 x.f3 a = some r ∧ (r < 0 ∨ (0 ≤ r ∧ r ≤ a ∧ Zv (Zad x))) := by
  rw [laws_szNode.f, Zbs a _ h0 h1 w.1]
  by_cases c : a - (x.f2.size : Int) < 0
  · rw [if_pos c]; exact ⟨_, rfl, .inl (by omega)⟩
  · rw [if_neg c]
    obtain ⟨r, e, h⟩ := Zgl x.f3 (a - (x.f2.size : Int)) (by omega) (by omega) w.2
    rw [e, Option.bind_some]
    by_cases d : r < 0
    · rw [if_pos d]; exact ⟨_, rfl, .inl (by omega)⟩
    · rw [if_neg d]
      rcases h with h | h
      · exact absurd h d
      · exact ⟨_, rfl, .inr ⟨h.1, by omega, ⟨by show x.f2.size ≤ 1048576; omega, h.2.2⟩⟩⟩
theorem Zcm (l : List Zbe) (hl : l.length ≤ maxLen) (hw : ∀ x ∈ l, Zga x) : ∀ (d i : Nat) (a : Int), i + d = l.length → 0 ≤ a → a ≤ 1048576 →
    ∃ r, Ev (fun k => laws_szNodeS.l0 k l a (i : Int)) r ∧ (r < 0 ∨ (0 ≤ r ∧ r ≤ a ∧ ∀ x ∈ l.drop i, Zv (Zad x)))
  | 0, i, a, h, h0, h1 => ⟨a, Zd (fun k => by simp only [laws_szNodeS.l0]; rw [if_neg (by omega)]), .inr ⟨h0, by omega, by rw [List.drop_eq_nil_of_le (by omega)]; simp⟩⟩
  | d + 1, i, a, h, h0, h1 => by
    have hi : i < l.length := by omega
    have hl' := hl
    unfold maxLen at hl'
    obtain ⟨r, e, hr⟩ := Zgi l[i] a h0 h1 (hw _ (List.getElem_mem hi))
    have q1 : (i : Int) < (l.length : Int) := by omega
    have q2 : (0 : Int) ≤ (i : Int) := by omega
    by_cases c : r < 0
    · exact ⟨-1, Zd (fun k => by simp only [laws_szNodeS.l0]; rw [if_pos q1, if_pos q2, Zfd l i hi, e, Option.bind_some, if_pos c]), .inl (by omega)⟩
    · rcases hr with hr | hr
      · exact absurd hr c
      · obtain ⟨r2, E, h2⟩ := Zcm l hl hw d (i + 1) r (by omega) hr.1 (by omega)
        refine ⟨r2, Zb E (fun k e' => ?_), ?_⟩
        · simp only [laws_szNodeS.l0]; rw [if_pos q1, if_pos q2, Zfd l i hi, e, Option.bind_some, if_neg c, Zgh (by omega)]; exact e'
        · rcases h2 with h2 | h2
          · exact .inl h2
          · refine .inr ⟨h2.1, by omega, ?_⟩
            rw [List.drop_eq_getElem_cons hi]
            intro x hx
            rcases List.mem_cons.mp hx with hx | hx
            · rw [hx]; exact hr.2.2
            · exact h2.2.2 x hx
theorem Zft (l : List Zbe) (a : Int) (h0 : 0 ≤ a) (h1 : a ≤ 1048576) (hl : l.length ≤ maxLen) (hw : ∀ x ∈ l, Zga x) :
    ∃ r, Ev (fun k => laws_szNodeS.f k l a) r ∧ (r < 0 ∨ (0 ≤ r ∧ r ≤ a ∧ l.length ≤ 1048576 ∧ ∀ x ∈ l, Zv (Zad x))) := by
  have e := Zbs a _ h0 h1 hl
  by_cases c : a - (l.length : Int) < 0
  · exact ⟨-1, Zci (fun k => by simp only [laws_szNodeS.f]; rw [e, if_pos c]), .inl (by omega)⟩
  · obtain ⟨r, E, h⟩ := Zcm l hl hw l.length 0 (a - (l.length : Int)) (by omega) (by omega) (by omega)
    refine ⟨r, Zj E (fun k e' => by simp only [laws_szNodeS.f]; rw [e, if_neg c]; exact e'), ?_⟩
    rcases h with h | h
    · exact .inl h
    · exact .inr ⟨h.1, by omega, by omega, fun x hx => h.2.2 x (by simpa using hx)⟩
theorem Zcg (l : List Zbe) (hl : l.length ≤ 1048576) (hk : ∀ x ∈ l, Zv (Zad x)) : ∀ (d i : Nat), i + d = l.length →
    Ev (fun k => laws_toNodeS.l0 k l ((l.take i).map Zad ++ List.replicate (l.length - i) z62) (i : Int)) (l.map Zad)
  | 0, i, h => by
    refine Zd (fun k => ?_)
    simp only [laws_toNodeS.l0]
    rw [if_neg (by omega), show l.length - i = 0 by omega, show i = l.length by omega]; simp
  | d + 1, i, h => by
    have hi : i < l.length := by omega
    refine Zh (Zcg l hl hk d (i + 1) (by omega)) (Zgj l[i].f3 (hk _ (List.getElem_mem hi)).2) (fun k e e2 => ?_)
    simp only [laws_toNodeS.l0, laws_toNode.f]
    rw [if_pos (by omega), if_pos (by omega), Zfd l i hi, e2]
    simp only [Option.bind_some]
    rw [if_pos (by simp; omega), Int.toNat_natCast, show (⟨l[i].f0, l[i].f1, l[i].f2, l[i].f3⟩ : Za) = Zad l[i] from rfl, Zcf Zad l z62 i hi, Zf (by omega)]
    exact e
theorem Zfi (l : List Zbe) (hl : l.length ≤ 1048576) (hk : ∀ x ∈ l, Zv (Zad x)) : Ev (fun k => laws_toNodeS.f k l) (l.map Zad) := by
  refine Zj (Zcg l hl hk l.length 0 (by omega)) (fun k e => ?_)
  simp only [laws_toNodeS.f]
  rw [if_pos (by omega), Int.toNat_natCast, if_pos (by omega)]
  simpa using e
theorem Zcn (a : List Za) (hl : a.length ≤ 1048576) (hk : ∀ x ∈ a, Zv x) : ∀ (d i : Nat), i + d = a.length → Ev (fun k => laws_eqNodeS.l0 k a a (i : Int)) true
  | 0, i, h => by
    refine Zd (fun k => ?_)
    simp only [laws_eqNodeS.l0]
    rw [if_neg (by omega)]
  | d + 1, i, h => by
    have hi : i < a.length := by omega
    refine Zh (Zcn a hl hk d (i + 1) (by omega)) (Zge a[i].f3 (hk _ (List.getElem_mem hi)).2) (fun k e e2 => ?_)
    simp only [laws_eqNodeS.l0, laws_eqNode.f, if_true]
    rw [if_pos (by omega), if_pos (by omega), if_pos (by omega), Zag a i hi, e2]
    simp only [Option.bind_some, if_true]
    rw [Zf (by omega)]
    exact e
theorem Zfo (a : List Za) (hl : a.length ≤ 1048576) (hk : ∀ x ∈ a, Zv x) : Ev (fun k => laws_eqNodeS.f k a a) true := by
  refine Zj (Zcn a hl hk a.length 0 (by omega)) (fun k e => ?_)
  simp only [laws_eqNodeS.f, if_true]
  exact e

open Given
def Zan (l : List ByteArray) (s : ByteArray) : Bool := l.any fun w => decide (w.toList = s.toList)
theorem Zfx (l : List ByteArray) (i : Nat) (h : i < l.length) (s : ByteArray) : Zan (l.drop i) s = if (rdOf ByteArray.empty l (i : Int)).toList = s.toList then true else Zan (l.drop (i + 1)) s := by
  rw [List.drop_eq_getElem_cons h]
  have e : rdOf ByteArray.empty l (i : Int) = l[i] := by simp [rdOf, List.getD, List.getElem?_eq_getElem h]
  rw [e]
  unfold Zan
  rw [List.any_cons]
  by_cases c : l[i].toList = s.toList
  · rw [if_pos c, decide_eq_true c]; rfl
  · rw [if_neg c, decide_eq_false c]; rfl
theorem Zbi (s : ByteArray) (l : List ByteArray) (hl : l.length ≤ 1000) : ∀ n i : Nat, l.length - i = n → i ≤ l.length → Ev (fun k => spec_KeyWord.l0 k s l (i : Int)) (Zan (l.drop i) s)
  | 0, i, hn, hi => Zd fun k => by
    have : ¬ (i : Int) < (l.length : Int) := by omega
    have e : l.drop i = [] := List.drop_eq_nil_of_le (by omega)
    rw [spec_KeyWord.l0, if_neg this, e]; rfl
  | n + 1, i, hn, hi => Zb (Zbi s l hl n (i + 1) (by omega) (by omega)) fun k h => by
    have q1 : (i : Int) < (l.length : Int) := by omega
    have q2 : (0 : Int) ≤ i := by omega
    have q3 : i < l.length := by omega
    have e : wrap64 ((i : Int) + 1) = ((i + 1 : Nat) : Int) := by rw [Zm (by omega) (by omega)]; omega
    rw [spec_KeyWord.l0, if_pos q1, if_pos q2, e, Zfx l i q3 s]
    by_cases c : (rdOf ByteArray.empty l (i : Int)).toList = s.toList
    · rw [if_pos c, if_pos c]
    · rw [if_neg c, if_neg c]; exact h
theorem Zbu (s : ByteArray) (l : List ByteArray) (hl : l.length ≤ 1000) : ∀ n i : Nat, l.length - i = n → i ≤ l.length → Ev (fun k => impl_oneOf.l0 k s l (l.length : Int) (i : Int)) (Zan (l.drop i) s)
  | 0, i, hn, hi => Zd fun k => by
    have : ¬ (i : Int) < (l.length : Int) := by omega
    have e : l.drop i = [] := List.drop_eq_nil_of_le (by omega)
    rw [impl_oneOf.l0, if_neg this, e]; rfl
  | n + 1, i, hn, hi => Zb (Zbu s l hl n (i + 1) (by omega) (by omega)) fun k h => by
    have q1 : (i : Int) < (l.length : Int) := by omega
    have q2 : (0 : Int) ≤ i := by omega
    have q3 : i < l.length := by omega
    have e : wrap64 ((i : Int) + 1) = ((i + 1 : Nat) : Int) := by rw [Zm (by omega) (by omega)]; omega
    rw [impl_oneOf.l0, if_pos q1, if_pos q2, if_pos q1, e, Zfx l i q3 s]
    by_cases c : (rdOf ByteArray.empty l (i : Int)).toList = s.toList
    · rw [if_pos c, if_pos c]
    · rw [if_neg c, if_neg c]; exact h
def Zt : List ByteArray := [⟨#[102, 110]⟩, ⟨#[108, 101, 116]⟩, ⟨#[105, 102]⟩, ⟨#[101, 108, 115, 101]⟩, ⟨#[119, 104, 105, 108, 101]⟩, ⟨#[112, 114, 105, 110, 116]⟩, ⟨#[100, 111]⟩, ⟨#[110, 101, 119]⟩, ⟨#[99, 108, 111, 110, 101]⟩, ⟨#[109, 117, 116]⟩, ⟨#[105, 110, 112, 117, 116]⟩, ⟨#[105, 110, 116]⟩, ⟨#[98, 111, 120]⟩, ⟨#[114, 101, 116]⟩]
theorem Zhq : spec_l03Keys.f = some Zt := rfl
theorem Zhb : strings_Split.f (⟨#[102, 110, 32, 108, 101, 116, 32, 105, 102, 32, 101, 108, 115, 101, 32, 119, 104, 105, 108, 101, 32, 112, 114, 105, 110, 116, 32, 100, 111, 32, 110, 101, 119, 32, 99, 108, 111, 110, 101, 32, 109, 117, 116, 32, 105, 110, 112, 117, 116, 32, 105, 110, 116, 32, 98, 111, 120, 32, 114, 101, 116]⟩ : ByteArray) (⟨#[32]⟩ : ByteArray) = some Zt := by
  kernel_rfl
theorem Zfn (s : ByteArray) : Ev (fun k => spec_KeyWord.f k s) (Zan Zt s) :=
  Zj (Zbi s Zt (by decide) 14 0 rfl (by decide)) fun k h => by
    rw [spec_KeyWord.f, Zhq]; exact h
theorem Zfm (s : ByteArray) : Ev (fun k => impl_KeyWord.f k s) (Zan Zt s) :=
  Zj (Zbu s Zt (by decide) 14 0 rfl (by decide)) fun k h => by
    rw [impl_KeyWord.f, impl_oneOf.f, Zhb, Option.bind_some]
    have h' : impl_oneOf.l0 k s Zt (Zt.length : Int) 0 = some (Zan Zt s) := h
    rw [h']; rfl

def isLe (x : Int) : Bool := decide (97 ≤ x ∧ x ≤ 122)
def isFi (x : Int) : Bool := decide (48 ≤ x ∧ x ≤ 57)
theorem Zbb (x : Int) : spec_l03Letter.f x = some (isLe x) := by
  unfold spec_l03Letter.f isLe
  by_cases c : x ≥ 97
  · rw [if_pos c]; by_cases d : x ≤ 122 <;> simp [d, c]
  · rw [if_neg c]; simp; intro h; omega
theorem Zcs (x : Int) : spec_l03Figure.f x = some (isFi x) := by
  unfold spec_l03Figure.f isFi
  by_cases c : x ≥ 48
  · rw [if_pos c]; by_cases d : x ≤ 57 <;> simp [d, c]
  · rw [if_neg c]; simp; intro h; omega
theorem Zct (x : Int) : impl_isLetter.f x = some (isLe x) := Zbb x
theorem Zgk (x : Int) : impl_isFigure.f x = some (isFi x) := Zcs x

theorem Zc (x y z : Int) : spec_l01In.f x y z = some (decide (y ≤ x ∧ x ≤ z)) := by
  unfold spec_l01In.f
  by_cases c : x ≥ y
  · rw [if_pos c]; by_cases d : x ≤ z <;> simp [d, c]
  · rw [if_neg c]; simp; intro h; omega

theorem Ze (x y z : Int) : impl_in.f x y z = some (decide (y ≤ x ∧ x ≤ z)) := by
  unfold impl_in.f
  by_cases c : x ≥ y
  · rw [if_pos c]; by_cases d : x ≤ z <;> simp [d, c]
  · rw [if_neg c]; simp; intro h; omega

def Zav (s : ByteArray) : Nat → Nat → Bool
  | 0, _ => true
  | n + 1, i => if isLe (bt s (i : Int)) = true then Zav s n (i + 1) else if isFi (bt s (i : Int)) = true then Zav s n (i + 1) else false
theorem Zbl (s : ByteArray) (hs : s.size ≤ 1000) : ∀ n i : Nat, s.size - i = n → i ≤ s.size → Ev (fun k => spec_NameOk.l0 k s (i : Int)) (Zav s n i)
  | 0, i, hn, hi => Zd fun k => by
    have : ¬ (i : Int) < (s.size : Int) := by omega
    rw [spec_NameOk.l0, if_neg this]; rfl
  | n + 1, i, hn, hi => Zb (Zbl s hs n (i + 1) (by omega) (by omega)) fun k h => by
    have q1 : (i : Int) < (s.size : Int) := by omega
    have q2 : (0 : Int) ≤ i := by omega
    have e : wrap64 ((i : Int) + 1) = ((i + 1 : Nat) : Int) := by rw [Zm (by omega) (by omega)]; omega
    rw [spec_NameOk.l0, if_pos q1, if_pos q2, e, Zbb, Zcs, Option.bind_some, Option.bind_some, h, Zav]
    cases isLe (bt s (i : Int)) <;> cases isFi (bt s (i : Int)) <;> rfl
theorem Zbm (s : ByteArray) (hs : s.size ≤ 1000) : ∀ n i : Nat, s.size - i = n → i ≤ s.size → Ev (fun k => impl_NameOk.l0 k s (i : Int)) (Zav s n i && !Zan Zt s)
  | 0, i, hn, hi => Zb (Zfm s) fun k h => by
    have : ¬ (i : Int) < (s.size : Int) := by omega
    have h2 := impl_KeyWord.mono s k _ h
    rw [impl_NameOk.l0, if_neg this, h]; rfl
  | n + 1, i, hn, hi => Zb (Zbm s hs n (i + 1) (by omega) (by omega)) fun k h => by
    have q1 : (i : Int) < (s.size : Int) := by omega
    have q2 : (0 : Int) ≤ i := by omega
    have e : wrap64 ((i : Int) + 1) = ((i + 1 : Nat) : Int) := by rw [Zm (by omega) (by omega)]; omega
    rw [impl_NameOk.l0, if_pos q1, if_pos q2, e, Zct, Zgk, Option.bind_some, Option.bind_some, h, Zav]
    cases isLe (bt s (i : Int)) <;> cases isFi (bt s (i : Int)) <;> rfl
def Zo (s : ByteArray) : Bool := decide (1 ≤ s.size ∧ s.size ≤ 8) && isLe (bt s 0) && Zav s s.size 0 && !Zan Zt s
theorem Zay (s : ByteArray) : Ev (fun k => spec_NameOk.f k s) (Zo s) := by
  by_cases q : 1 ≤ s.size ∧ s.size ≤ 8
  · have q1 : 0 < (s.size : Int) := by omega
    have q2 : (1 : Int) ≤ (s.size : Int) ∧ (s.size : Int) ≤ 8 := by omega
    obtain ⟨K, H⟩ := Zdw (Zfn s) (Zbl s (by omega) s.size 0 (by omega) (by omega))
    refine ⟨K + 1, fun k hk => ?_⟩
    obtain ⟨m, rfl⟩ : ∃ m, k = m + 1 := ⟨k - 1, by omega⟩
    have h1 := (H (m + 1) (by omega)).1
    have h2 := (H m (by omega)).2
    have h2' : spec_NameOk.l0 m s 0 = some (Zav s s.size 0) := h2
    show spec_NameOk.f (m + 1) s = _
    rw [spec_NameOk.f, Zc, Option.bind_some, decide_eq_true q2, if_pos rfl, if_pos q1, Zbb, Option.bind_some, h1, Option.bind_some, Zo, decide_eq_true q, spec_NameOk.j0, spec_NameOk.j0, h2']
    cases isLe (bt s 0) <;> cases Zan Zt s <;> cases Zav s s.size 0 <;> rfl
  · have q2 : ¬ ((1 : Int) ≤ (s.size : Int) ∧ (s.size : Int) ≤ 8) := by omega
    refine ⟨1, fun k hk => ?_⟩
    obtain ⟨m, rfl⟩ : ∃ m, k = m + 1 := ⟨k - 1, by omega⟩
    show spec_NameOk.f (m + 1) s = _
    rw [spec_NameOk.f, Zc, Option.bind_some, decide_eq_false q2, Zo, decide_eq_false q, spec_NameOk.j0]
    rfl
theorem Zba (s : ByteArray) : Ev (fun k => impl_NameOk.f k s) (Zo s) := by
  by_cases q : 1 ≤ s.size ∧ s.size ≤ 8
  · have q1 : 0 < (s.size : Int) := by omega
    have q2 : (1 : Int) ≤ (s.size : Int) ∧ (s.size : Int) ≤ 8 := by omega
    obtain ⟨K, H⟩ := Zbm s (by omega) s.size 0 (by omega) (by omega)
    refine ⟨K + 1, fun k hk => ?_⟩
    obtain ⟨m, rfl⟩ : ∃ m, k = m + 1 := ⟨k - 1, by omega⟩
    have h2' : impl_NameOk.l0 m s 0 = some (Zav s s.size 0 && !Zan Zt s) := H m (by omega)
    show impl_NameOk.f (m + 1) s = _
    rw [impl_NameOk.f, Ze, Option.bind_some, decide_eq_true q2, if_pos rfl, if_pos q1, Zct, Option.bind_some, Zo, decide_eq_true q, impl_NameOk.j0, h2']
    cases isLe (bt s 0) <;> cases Zan Zt s <;> cases Zav s s.size 0 <;> rfl
  · have q2 : ¬ ((1 : Int) ≤ (s.size : Int) ∧ (s.size : Int) ≤ 8) := by omega
    refine ⟨1, fun k hk => ?_⟩
    obtain ⟨m, rfl⟩ : ∃ m, k = m + 1 := ⟨k - 1, by omega⟩
    show impl_NameOk.f (m + 1) s = _
    rw [impl_NameOk.f, Ze, Option.bind_some, decide_eq_false q2, Zo, decide_eq_false q, impl_NameOk.j0]
    rfl

def inB (x lo hi : Int) : Bool := decide (lo ≤ x ∧ x ≤ hi)
def Zk (a : Int) : Int × Int :=
  if a = 8 ∨ a = 13 ∨ a = 14 ∨ a = 15 ∨ a = 18 ∨ a = 19 then (1, 1) else if a = 9 ∨ a = 10 ∨ a = 11 ∨ a = 17 then (2, 2) else if a = 12 then (0, 3) else if a = 16 then (3, 3) else if a = 20 then (0, 12) else (0, 0)
theorem Zhu (a : Int) : Ev (fun k => spec_l04Kids.f k a) (Zk a) := by
  refine ⟨2, fun k hk => ?_⟩
  obtain ⟨m, rfl⟩ : ∃ m, k = m + 2 := ⟨k - 2, by omega⟩
  show spec_l04Kids.f (m + 2) a = _
  by_cases h8 : a = 8
  · subst h8; rfl
  by_cases h13 : a = 13
  · subst h13; rfl
  by_cases h14 : a = 14
  · subst h14; rfl
  by_cases h15 : a = 15
  · subst h15; rfl
  by_cases h18 : a = 18
  · subst h18; rfl
  by_cases h19 : a = 19
  · subst h19; rfl
  by_cases h9 : a = 9
  · subst h9; rfl
  by_cases h10 : a = 10
  · subst h10; rfl
  by_cases h11 : a = 11
  · subst h11; rfl
  by_cases h17 : a = 17
  · subst h17; rfl
  by_cases h12 : a = 12
  · subst h12; rfl
  by_cases h16 : a = 16
  · subst h16; rfl
  by_cases h20 : a = 20
  · subst h20; rfl
  simp [spec_l04Kids.f, spec_l04Kids.j0, spec_l04Kids.j1, Zk, h8, h13, h14, h15, h18, h19, h9, h10, h11, h17, h12, h16, h20]
theorem Zhc (a : Int) : Ev (fun k => impl_shape.f k a) (Zk a) := by
  refine ⟨2, fun k hk => ?_⟩
  obtain ⟨m, rfl⟩ : ∃ m, k = m + 2 := ⟨k - 2, by omega⟩
  show impl_shape.f (m + 2) a = _
  by_cases h8 : a = 8
  · subst h8; rfl
  by_cases h13 : a = 13
  · subst h13; rfl
  by_cases h14 : a = 14
  · subst h14; rfl
  by_cases h15 : a = 15
  · subst h15; rfl
  by_cases h18 : a = 18
  · subst h18; rfl
  by_cases h19 : a = 19
  · subst h19; rfl
  by_cases h9 : a = 9
  · subst h9; rfl
  by_cases h10 : a = 10
  · subst h10; rfl
  by_cases h11 : a = 11
  · subst h11; rfl
  by_cases h17 : a = 17
  · subst h17; rfl
  by_cases h12 : a = 12
  · subst h12; rfl
  by_cases h16 : a = 16
  · subst h16; rfl
  by_cases h20 : a = 20
  · subst h20; rfl
  simp [impl_shape.f, impl_shape.j0, impl_shape.j1, Zk, h8, h13, h14, h15, h18, h19, h9, h10, h11, h17, h12, h16, h20]
def Zbh (a : Int) : Bool := inB a 2 6 || inB a 12 15
theorem Zar (a : Int) : spec_l04Named.f a = some (Zbh a) := by
  by_cases h : 2 ≤ a ∧ a ≤ 6
  · have : a = 2 ∨ a = 3 ∨ a = 4 ∨ a = 5 ∨ a = 6 := by omega
    rcases this with h | h | h | h | h <;> subst h <;> rfl
  by_cases h2 : 12 ≤ a ∧ a ≤ 15
  · have : a = 12 ∨ a = 13 ∨ a = 14 ∨ a = 15 := by omega
    rcases this with h | h | h | h <;> subst h <;> rfl
  rw [spec_l04Named.f, if_neg (by omega), if_neg (by omega), if_neg (by omega), if_neg (by omega), if_neg (by omega), if_neg (by omega), if_neg (by omega), if_neg (by omega), if_neg (by omega), Zbh, inB, inB, decide_eq_false h, decide_eq_false h2]
  rfl
theorem Zhd (a : Int) : impl_hasName.f a = some (Zbh a) := by
  rw [impl_hasName.f, Ze, Ze, Option.bind_some, Zbh, inB, inB]
  cases decide (2 ≤ a ∧ a ≤ 6) <;> rfl
def Zaa (kind i kid : Int) : Bool := if kind = 20 then inB kid 13 19 else if (kind = 16 ∨ kind = 17) ∧ i > 0 then kid == 20 else if kind = 19 then kid == 12 else inB kid 1 12
theorem Zhs (kind i kid : Int) : Ev (fun k => spec_l04Fits.f k kind i kid) (Zaa kind i kid) := by
  refine ⟨1, fun k hk => ?_⟩
  obtain ⟨m, rfl⟩ : ∃ m, k = m + 1 := ⟨k - 1, by omega⟩
  show spec_l04Fits.f (m + 1) kind i kid = _
  rw [spec_l04Fits.f, spec_l04Statement.f, Zc, Zaa]
  by_cases h20 : kind = 20
  · rw [if_pos h20, if_pos h20]; rfl
  rw [if_neg h20, if_neg h20]
  by_cases h16 : kind = 16
  · rw [if_pos h16, h16, spec_l04Fits.j0, if_pos (show ((16 : Int) == 16) = true from rfl), spec_l04Value.f, Zc]
    by_cases hi : i > 0
    · rw [if_pos hi, if_pos ⟨.inl rfl, hi⟩]
    · rw [if_neg hi, if_neg (fun h => hi h.2), if_neg (by decide)]; rfl
  rw [if_neg h16, spec_l04Fits.j0, spec_l04Value.f, Zc]
  by_cases h17 : kind = 17
  · rw [h17, if_pos (show ((17 : Int) == 17) = true from rfl)]
    by_cases hi : i > 0
    · rw [if_pos hi, if_pos ⟨.inr rfl, hi⟩]
    · rw [if_neg hi, if_neg (fun h => hi h.2), if_neg (by decide)]; rfl
  have e : (kind == 17) = false := beq_eq_false_iff_ne.mpr h17
  rw [e, if_neg (by decide), if_neg (show ¬ ((kind = 16 ∨ kind = 17) ∧ i > 0) from fun h => h.1.elim h16 h17)]
  by_cases h19 : kind = 19
  · rw [if_pos h19, if_pos h19]
  · rw [if_neg h19, if_neg h19]; rfl
theorem Zho (kind i kid : Int) : Ev (fun k => impl_kidFits.f k kind i kid) (Zaa kind i kid) := by
  refine ⟨1, fun k hk => ?_⟩
  obtain ⟨m, rfl⟩ : ∃ m, k = m + 1 := ⟨k - 1, by omega⟩
  show impl_kidFits.f (m + 1) kind i kid = _
  rw [impl_kidFits.f, impl_isStep.f, Ze, Zaa]
  by_cases h20 : kind = 20
  · rw [if_pos h20, if_pos h20]; rfl
  rw [if_neg h20, if_neg h20]
  by_cases h16 : kind = 16
  · rw [if_pos h16, h16, impl_kidFits.j0, impl_isValue.f, Ze]
    by_cases hi : i > 0
    · rw [decide_eq_true hi, if_pos rfl, if_pos ⟨.inl rfl, hi⟩]
    · rw [decide_eq_false hi, if_neg (by decide), if_neg (by decide), if_neg (fun h => hi h.2), if_neg (by decide)]; rfl
  rw [if_neg h16]
  by_cases h17 : kind = 17
  · rw [if_pos h17, h17, impl_kidFits.j0, impl_isValue.f, Ze]
    by_cases hi : i > 0
    · rw [decide_eq_true hi, if_pos rfl, if_pos ⟨.inr rfl, hi⟩]
    · rw [decide_eq_false hi, if_neg (by decide), if_neg (by decide), if_neg (fun h => hi h.2), if_neg (by decide)]; rfl
  rw [if_neg h17, impl_kidFits.j0, impl_isValue.f, Ze, if_neg (by decide), if_neg (show ¬ ((kind = 16 ∨ kind = 17) ∧ i > 0) from fun h => h.1.elim h16 h17)]
  by_cases h19 : kind = 19
  · rw [if_pos h19, if_pos h19]
  · rw [if_neg h19, if_neg h19]; rfl
def dupR (kids : List Int) (v : Int) : Nat → Nat → Bool
  | 0, _ => false
  | n + 1, j => if v = rd kids (j : Int) then true else dupR kids v n (j + 1)
theorem Zjg (kids : List Int) (p j : Nat) (hj : j < p) (hp : p ≤ kids.length) : rd (kids.take p) (j : Int) = rd kids (j : Int) := by
  rw [Zbf _ j (by rw [List.length_take]; omega), Zbf kids j (by omega), List.getElem_take]
theorem Zcv (kids : List Int) (p : Nat) (hp : p ≤ kids.length) (hk : kids.length ≤ 1048576) (v : Int) : ∀ n j : Nat, p - j = n → j ≤ p →
    Ev (fun k => impl_hasInt.l0 k v (kids.take p) ((kids.take p).length : Int) (j : Int)) (dupR kids v n j)
  | 0, j, hn, hj => Zd fun k => by
    have hl : (kids.take p).length = p := by rw [List.length_take]; omega
    rw [impl_hasInt.l0, hl, if_neg (by omega)]; rfl
  | n + 1, j, hn, hj => Zb (Zcv kids p hp hk v n (j + 1) (by omega) (by omega)) fun k h => by
    have hl : (kids.take p).length = p := by rw [List.length_take]; omega
    rw [hl] at h
    rw [impl_hasInt.l0, hl, if_pos (by omega), if_pos (by omega), if_pos (by omega), Zjg kids p j (by omega) hp, Zf (by omega), h, dupR]
    by_cases c : rd kids (j : Int) = v
    · rw [if_pos c, if_pos c.symm]
    · rw [if_neg c, if_neg (fun e => c e.symm)]
theorem Zgn (kids : List Int) (p : Nat) (hp : p ≤ kids.length) (hk : kids.length ≤ 1048576) (v : Int) : Ev (fun k => impl_hasInt.f k (kids.take p) v) (dupR kids v p 0) :=
  Zj (Zcv kids p hp hk v p 0 (by omega) (by omega)) fun k h => h
def Zs (ns : List Za) (K kind : Int) (kids : List Int) : Nat → Nat → Bool
  | 0, _ => true
  | n + 1, p => inB (rd kids (p : Int)) 0 (K - 1) && Zaa kind (p : Int) (rd_T62 ns (rd kids (p : Int))).f0 && !dupR kids (rd kids (p : Int)) p 0 && Zs ns K kind kids n (p + 1)
theorem Zeu (ns : List Za) (i : Nat) (hi : i < ns.length) (hn : ns.length ≤ 1048576) (kind num : Int) (name : ByteArray) (kids : List Int) (hk : kids.length ≤ 1048576) (p : Nat) (hp : p < kids.length) (R : Bool) (H : Ev (fun k => spec_NodeOk.l0 k ns (i : Int) ((p + 1 : Nat) : Int) kind num name kids) R) : ∀ n j : Nat, p - j = n → j ≤ p →
    Ev (fun k => spec_NodeOk.l1 k ns (i : Int) (p : Int) (j : Int) kind num name kids) (!dupR kids (rd kids (p : Int)) n j && R)
  | 0, j, hn', hj => Zb H fun k h => by
    rw [spec_NodeOk.l1, if_neg (by omega), Zf (by omega), h]; rfl
  | n + 1, j, hn', hj => Zb (Zeu ns i hi hn kind num name kids hk p hp R H n (j + 1) (by omega) (by omega)) fun k h => by
    rw [spec_NodeOk.l1, if_pos (by omega), if_pos (by omega), if_pos (by omega), if_pos (by omega), if_pos (by omega), Zf (by omega), h, dupR]
    by_cases c : rd kids (p : Int) = rd kids (j : Int)
    · rw [if_pos c, if_pos c]; rfl
    · rw [if_neg c, if_neg c]
theorem Zef (ns : List Za) (i : Nat) (hi : i < ns.length) (hn : ns.length ≤ 1048576) (kind num : Int) (name : ByteArray) (kids : List Int) (hk : kids.length ≤ 1048576) : ∀ n p : Nat, kids.length - p = n → p ≤ kids.length → Ev (fun k => spec_NodeOk.l0 k ns (i : Int) (p : Int) kind num name kids) (Zs ns (i : Int) kind kids n p)
  | 0, p, hn', hp => Zd fun k => by rw [spec_NodeOk.l0, if_neg (by omega)]; rfl
  | n + 1, p, hn', hp => by
    have q1 : (p : Int) < (kids.length : Int) := by omega
    have q2 : (0 : Int) ≤ (p : Int) := by omega
    have w1 : wrap64 ((i : Int) - 1) = (i : Int) - 1 := Zm (by omega) (by omega)
    have ih := Zef ns i hi hn kind num name kids hk n (p + 1) (by omega) (by omega)
    have hd := Zeu ns i hi hn kind num name kids hk p (by omega) _ ih p 0 (by omega) (by omega)
    rw [Zs]
    cases hb : inB (rd kids (p : Int)) 0 ((i : Int) - 1) with
    | false =>
      have h4 : Ev (fun k => spec_NodeOk.j4 k ns (i : Int) (p : Int) true kind num name kids) false := Zd fun k => by rw [spec_NodeOk.j4, if_pos rfl]
      refine Zb h4 fun k h => ?_
      unfold inB at hb
      rw [spec_NodeOk.l0, if_pos q1, if_pos q2, w1, Zc, Option.bind_some, hb, if_neg (by decide)]
      exact h
    | true =>
      have hb' : 0 ≤ rd kids (p : Int) ∧ rd kids (p : Int) ≤ (i : Int) - 1 := by simpa [inB] using hb
      have p1 := hb'.1
      have p2 : rd kids (p : Int) < (ns.length : Int) := by have := hb'.2; omega
      have hf := Zhs kind (p : Int) (rd_T62 ns (rd kids (p : Int))).f0
      unfold inB at hb
      cases hv : Zaa kind (p : Int) (rd_T62 ns (rd kids (p : Int))).f0 with
      | false =>
        rw [hv] at hf
        have h4 : Ev (fun k => spec_NodeOk.j4 k ns (i : Int) (p : Int) true kind num name kids) false := Zd fun k => by rw [spec_NodeOk.j4, if_pos rfl]
        refine Zh hf h4 fun k h h' => ?_
        rw [spec_NodeOk.l0, if_pos q1, if_pos q2, w1, Zc, Option.bind_some, hb, if_pos rfl, if_pos p1, if_pos p2, h, Option.bind_some]
        exact h'
      | true =>
        rw [hv] at hf
        have h4 : Ev (fun k => spec_NodeOk.j4 k ns (i : Int) (p : Int) false kind num name kids) (!dupR kids (rd kids (p : Int)) p 0 && Zs ns (i : Int) kind kids n (p + 1)) := Zb hd fun k h => by rw [spec_NodeOk.j4, if_neg (by decide)]; exact h
        refine Zh hf h4 fun k h h' => ?_
        rw [spec_NodeOk.l0, if_pos q1, if_pos q2, w1, Zc, Option.bind_some, hb, if_pos rfl, if_pos p1, if_pos p2, h, Option.bind_some]
        rw [Bool.and_self, Bool.true_and]
        exact h'
def Zas (kind : Int) (name : ByteArray) : Bool := if Zbh kind = true then Zo name else name.toList == ([] : List UInt8)
def Zaq (kind num : Int) : Bool := if kind = 1 then inB num 0 1000000000 else num == 0
theorem Zio (s : ByteArray) (h : s.toList = []) : Zo s = false := by
  have e : s.size = 0 := by
    have e1 : s.data.toList.length = s.size := rfl
    rw [← e1, ← Lib.toList_data, h]; rfl
  unfold Zo
  rw [decide_eq_false (by omega)]
  rfl
theorem Zdg (ns : List Za) (i : Nat) (hi : i < ns.length) (hn : ns.length ≤ 1048576) (kind num : Int) (name : ByteArray) (kids : List Int) (hk : kids.length ≤ 1048576) (b : Bool) : Ev (fun k => spec_NodeOk.j2 k ns (i : Int) b kind num name kids) (!b && Zs ns (i : Int) kind kids kids.length 0) := by
  cases b with
  | true => exact Zd fun k => by rw [spec_NodeOk.j2, if_pos rfl]; rfl
  | false => exact Zb (Zef ns i hi hn kind num name kids hk kids.length 0 (by omega) (by omega)) fun k h => by rw [spec_NodeOk.j2, if_neg (by decide)]; exact h
theorem Zie (ns : List Za) (i : Nat) (hi : i < ns.length) (hn : ns.length ≤ 1048576) (kind num : Int) (name : ByteArray) (kids : List Int) (hk : kids.length ≤ 1048576) (b : Bool) : Ev (fun k => spec_NodeOk.j1 k ns (i : Int) b kind num name kids) (!b && (Zas kind name && Zs ns (i : Int) kind kids kids.length 0)) := by
  cases b with
  | true => exact Zd fun k => by rw [spec_NodeOk.j1, if_pos rfl]; rfl
  | false =>
    have jt := Zdg ns i hi hn kind num name kids hk true
    have jf := Zdg ns i hi hn kind num name kids hk false
    by_cases e : name.toList = ([] : List UInt8)
    · have e1 : (name.toList != ([] : List UInt8)) = false := by rw [e]; rfl
      have e2 : (name.toList == ([] : List UInt8)) = true := by rw [e]; rfl
      cases hv : Zbh kind with
      | true =>
        refine Zb jt fun k h => ?_
        rw [spec_NodeOk.j1, if_neg (by decide), Zar, Option.bind_some, hv, e1, if_pos (by decide), h, Zas, if_pos hv, Zio name e]; rfl
      | false =>
        refine Zb jf fun k h => ?_
        rw [spec_NodeOk.j1, if_neg (by decide), Zar, Option.bind_some, hv, e1, if_neg (by decide), if_pos e, h, Zas, if_neg (by rw [hv]; decide), e2]; rfl
    · have e1 : (name.toList != ([] : List UInt8)) = true := by simpa using e
      have e2 : (name.toList == ([] : List UInt8)) = false := by simpa using e
      cases hv : Zbh kind with
      | true =>
        have hN := Zay name
        have jN := Zdg ns i hi hn kind num name kids hk (!Zo name)
        refine Zh hN jN fun k h h' => ?_
        rw [spec_NodeOk.j1, if_neg (by decide), Zar, Option.bind_some, hv, e1, if_neg (by decide), if_neg e, h, Option.bind_some, h', Zas, if_pos hv]
        cases Zo name <;> rfl
      | false =>
        refine Zb jt fun k h => ?_
        rw [spec_NodeOk.j1, if_neg (by decide), Zar, Option.bind_some, hv, e1, if_pos (by decide), h, Zas, if_neg (by rw [hv]; decide), e2]; rfl
def Zi (ns : List Za) (a : Int) : Bool :=
  inB a 0 ((ns.length : Int) - 1) && (inB (rd_T62 ns a).f0 1 20 && (inB ((rd_T62 ns a).f3.length : Int) (Zk (rd_T62 ns a).f0).1 (Zk (rd_T62 ns a).f0).2 &&
    (Zaq (rd_T62 ns a).f0 (rd_T62 ns a).f1 && (Zas (rd_T62 ns a).f0 (rd_T62 ns a).f2 && Zs ns a (rd_T62 ns a).f0 (rd_T62 ns a).f3 (rd_T62 ns a).f3.length 0))))
theorem Zgp (ns : List Za) (hn : ns.length ≤ 1048576) (hk : ∀ x ∈ ns, Zv x) (a : Int) : Ev (fun k => spec_NodeOk.f k ns a) (Zi ns a) := by
  have w1 : wrap64 ((ns.length : Int) - 1) = (ns.length : Int) - 1 := Zm (by omega) (by omega)
  have jt : Ev (fun k => spec_NodeOk.j0 k ns a true) false := Zd fun k => by rw [spec_NodeOk.j0, if_pos rfl]
  by_cases ha : 0 ≤ a ∧ a ≤ (ns.length : Int) - 1
  · obtain ⟨i, rfl⟩ := Int.eq_ofNat_of_zero_le ha.1
    have hi : i < ns.length := by omega
    have q1 : (0 : Int) ≤ (i : Int) := by omega
    have q2 : (i : Int) < (ns.length : Int) := by omega
    have hb : inB (i : Int) 0 ((ns.length : Int) - 1) = true := decide_eq_true ha
    have hkk : (rd_T62 ns (i : Int)).f3.length ≤ 1048576 := by rw [Zag ns i hi]; exact (hk _ (List.getElem_mem hi)).2
    generalize hX : rd_T62 ns (i : Int) = X at hkk
    have j1 := fun b => Zie ns i hi hn X.f0 X.f1 X.f2 X.f3 hkk b
    have hs := Zhu X.f0
    rw [Zi, hb, Bool.true_and, hX]
    cases hkind : inB X.f0 1 20 with
    | false =>
      refine Zj jt fun k h => ?_
      unfold inB at hkind
      rw [spec_NodeOk.f, w1, Zc, Option.bind_some, decide_eq_true ha, if_pos rfl, if_pos q1, if_pos q2, hX, Zc, Option.bind_some, hkind]
      exact h
    | true =>
      have j0 : Ev (fun k => spec_NodeOk.j0 k ns (i : Int) false) (inB (X.f3.length : Int) (Zk X.f0).1 (Zk X.f0).2 && (Zaq X.f0 X.f1 && (Zas X.f0 X.f2 && Zs ns (i : Int) X.f0 X.f3 X.f3.length 0))) := by
        cases hlen : inB (X.f3.length : Int) (Zk X.f0).1 (Zk X.f0).2 with
        | false =>
          refine Zh hs (j1 true) fun k h h' => ?_
          unfold inB at hlen
          rw [spec_NodeOk.j0, if_neg (by decide), if_pos q1, if_pos q2, hX, h, Option.bind_some, Zc, Option.bind_some, hlen, if_neg (by decide)]
          exact h'
        | true =>
          by_cases hnum : 0 ≤ X.f1 ∧ X.f1 ≤ 1000000000
          · by_cases hone : X.f0 = 1
            · refine Zh hs (j1 false) fun k h h' => ?_
              unfold inB at hlen
              rw [spec_NodeOk.j0, if_neg (by decide), if_pos q1, if_pos q2, hX, h, Option.bind_some, Zc, Option.bind_some, hlen, if_pos rfl, Zc, Option.bind_some, decide_eq_true hnum, if_pos rfl, if_pos hone, h', Zaq, if_pos hone, inB, decide_eq_true hnum]
              rfl
            · refine Zh hs (j1 (X.f1 != 0)) fun k h h' => ?_
              unfold inB at hlen
              rw [spec_NodeOk.j0, if_neg (by decide), if_pos q1, if_pos q2, hX, h, Option.bind_some, Zc, Option.bind_some, hlen, if_pos rfl, Zc, Option.bind_some, decide_eq_true hnum, if_pos rfl, if_neg hone, h', Zaq, if_neg hone]
              cases hz : X.f1 == 0 <;> simp [bne, hz]
          · refine Zh hs (j1 true) fun k h h' => ?_
            have hz : Zaq X.f0 X.f1 = false := by
              unfold Zaq
              by_cases hone : X.f0 = 1
              · rw [if_pos hone, inB, decide_eq_false hnum]
              · rw [if_neg hone]
                have : ¬ X.f1 = 0 := by intro e; apply hnum; omega
                exact beq_eq_false_iff_ne.mpr this
            unfold inB at hlen
            rw [spec_NodeOk.j0, if_neg (by decide), if_pos q1, if_pos q2, hX, h, Option.bind_some, Zc, Option.bind_some, hlen, if_pos rfl, Zc, Option.bind_some, decide_eq_false hnum, if_neg (by decide), h', hz]
            rfl
      refine Zj j0 fun k h => ?_
      unfold inB at hkind
      rw [spec_NodeOk.f, w1, Zc, Option.bind_some, decide_eq_true ha, if_pos rfl, if_pos q1, if_pos q2, hX, Zc, Option.bind_some, hkind]
      exact h
  · refine Zj jt fun k h => ?_
    rw [spec_NodeOk.f, w1, Zc, Option.bind_some, decide_eq_false ha, if_neg (by decide), Zi, inB, decide_eq_false ha]
    exact h
theorem Zfy (kind num : Int) (name : ByteArray) (kids : List Int) (b : Bool) : Ev (fun k => impl_NodeOk.j2 k b kind num name kids) (!b && Zas kind name) := by
  cases b with
  | true => exact Zd fun k => by rw [impl_NodeOk.j2, if_pos rfl]; rfl
  | false =>
    refine Zb (Zba name) fun k h => ?_
    rw [impl_NodeOk.j2, if_neg (by decide), Zhd, Option.bind_some, h, Zas]
    cases Zbh kind <;> rfl
theorem Zee (ns : List Za) (i : Nat) (hi : i < ns.length) (hn : ns.length ≤ 1048576) (kind num : Int) (name : ByteArray) (kids : List Int) (hk : kids.length ≤ 1048576) : ∀ n p : Nat, kids.length - p = n → p ≤ kids.length → Ev (fun k => impl_NodeOk.l0 k ns (i : Int) kids (kids.length : Int) (p : Int) kind num name kids) (Zs ns (i : Int) kind kids n p && (Zaq kind num && Zas kind name))
  | 0, p, hn', hp => by
    rw [Zs, Bool.true_and]
    by_cases hone : kind = 1
    · have j := Zfy kind num name kids (!inB num 0 1000000000)
      refine Zb j fun k h => ?_
      rw [impl_NodeOk.l0, if_neg (by omega), if_pos hone, Ze, Option.bind_some, Zaq, if_pos hone]
      unfold inB at h ⊢
      cases hb : decide (0 ≤ num ∧ num ≤ 1000000000) <;> rw [hb] at h
      · rw [if_neg (by decide)]; exact h
      · rw [if_pos rfl]; exact h
    · refine Zb (Zfy kind num name kids (num != 0)) fun k h => ?_
      rw [impl_NodeOk.l0, if_neg (by omega), if_neg hone, Zaq, if_neg hone, h]
      cases hz : num == 0 <;> simp [bne, hz]
  | n + 1, p, hn', hp => by
    have q1 : (p : Int) < (kids.length : Int) := by omega
    have q2 : (0 : Int) ≤ (p : Int) := by omega
    have q3 : (p : Int) ≤ (kids.length : Int) := by omega
    have w1 : wrap64 ((i : Int) - 1) = (i : Int) - 1 := Zm (by omega) (by omega)
    have w2 : wrap64 ((p : Int) + 1) = ((p + 1 : Nat) : Int) := Zf (by omega)
    have ih := Zee ns i hi hn kind num name kids hk n (p + 1) (by omega) (by omega)
    have hd := Zgn kids p (by omega) hk (rd kids (p : Int))
    have hf := Zho kind (p : Int) (rd_T62 ns (rd kids (p : Int))).f0
    rw [Zs]
    cases hb : inB (rd kids (p : Int)) 0 ((i : Int) - 1) with
    | false =>
      refine Zd fun k => ?_
      unfold inB at hb
      rw [impl_NodeOk.l0, if_pos q1, if_pos q2, if_pos q1, w1, Ze, Option.bind_some, hb, if_neg (by decide)]
      rfl
    | true =>
      have hb' : 0 ≤ rd kids (p : Int) ∧ rd kids (p : Int) ≤ (i : Int) - 1 := by simpa [inB] using hb
      have p1 := hb'.1
      have p2 : rd kids (p : Int) < (ns.length : Int) := by have := hb'.2; omega
      unfold inB at hb
      refine Zdc hd hf ih fun k h h' h'' => ?_
      rw [impl_NodeOk.l0, if_pos q1, if_pos q2, if_pos q1, w1, Ze, Option.bind_some, hb, if_pos rfl, if_pos q3, Int.toNat_natCast, h, Option.bind_some, if_pos p1, if_pos p2, h', w2, h'']
      cases dupR kids (rd kids (p : Int)) p 0 <;> cases Zaa kind (p : Int) (rd_T62 ns (rd kids (p : Int))).f0 <;> rfl
theorem Zgs (ns : List Za) (hn : ns.length ≤ 1048576) (hk : ∀ x ∈ ns, Zv x) (a : Int) : Ev (fun k => impl_NodeOk.f k ns a) (Zi ns a) := by
  have w1 : wrap64 ((ns.length : Int) - 1) = (ns.length : Int) - 1 := Zm (by omega) (by omega)
  by_cases ha : 0 ≤ a ∧ a ≤ (ns.length : Int) - 1
  · obtain ⟨i, rfl⟩ := Int.eq_ofNat_of_zero_le ha.1
    have hi : i < ns.length := by omega
    have q1 : (0 : Int) ≤ (i : Int) := by omega
    have q2 : (i : Int) < (ns.length : Int) := by omega
    have hb : inB (i : Int) 0 ((ns.length : Int) - 1) = true := decide_eq_true ha
    have hkk : (rd_T62 ns (i : Int)).f3.length ≤ 1048576 := by rw [Zag ns i hi]; exact (hk _ (List.getElem_mem hi)).2
    generalize hX : rd_T62 ns (i : Int) = X at hkk
    have hs := Zhc X.f0
    have j0 : ∀ b : Bool, Ev (fun k => impl_NodeOk.j0 k ns (i : Int) b X.f0 X.f1 X.f2 X.f3) (!b && (Zs ns (i : Int) X.f0 X.f3 X.f3.length 0 && (Zaq X.f0 X.f1 && Zas X.f0 X.f2))) := by
      intro b
      cases b with
      | true => exact Zd fun k => by rw [impl_NodeOk.j0, if_pos rfl]; rfl
      | false => exact Zb (Zee ns i hi hn X.f0 X.f1 X.f2 X.f3 hkk X.f3.length 0 (by omega) (by omega)) fun k h => by rw [impl_NodeOk.j0, if_neg (by decide)]; exact h
    rw [Zi, hb, Bool.true_and, hX]
    cases hkind : inB X.f0 1 20 with
    | false =>
      refine Zax hs (j0 true) fun k h h' => ?_
      unfold inB at hkind
      rw [impl_NodeOk.f, w1, Ze, Option.bind_some, decide_eq_true ha, if_pos rfl, if_pos q1, if_pos q2, hX, h, Option.bind_some, Ze, Option.bind_some, hkind, if_neg (by decide), h']
      rfl
    | true =>
      refine Zax hs (j0 (!inB (X.f3.length : Int) (Zk X.f0).1 (Zk X.f0).2)) fun k h h' => ?_
      unfold inB at hkind h'
      rw [impl_NodeOk.f, w1, Ze, Option.bind_some, decide_eq_true ha, if_pos rfl, if_pos q1, if_pos q2, hX, h, Option.bind_some, Ze, Option.bind_some, hkind, if_pos rfl, Ze, Option.bind_some, h']
      unfold inB
      generalize Zs ns (i : Int) X.f0 X.f3 X.f3.length 0 = b1
      generalize Zaq X.f0 X.f1 = b2
      generalize Zas X.f0 X.f2 = b3
      generalize decide ((Zk X.f0).1 ≤ (X.f3.length : Int) ∧ (X.f3.length : Int) ≤ (Zk X.f0).2) = b4
      cases b1 <;> cases b2 <;> cases b3 <;> cases b4 <;> rfl
  · exact Zci fun k => by
      rw [impl_NodeOk.f, w1, Ze, Option.bind_some, decide_eq_false ha, if_neg (by decide), Zi, inB, decide_eq_false ha]
      rfl

theorem Zhi (ns : List Za) (K kind : Int) (kids : List Int) : ∀ n p : Nat, Zs ns K kind kids n p = true → ∀ q, p ≤ q → q < p + n → 0 ≤ rd kids (q : Int) ∧ rd kids (q : Int) ≤ K - 1
  | 0, p, _, q, h1, h2 => by omega
  | n + 1, p, h, q, h1, h2 => by
    rw [Zs] at h
    simp only [Bool.and_eq_true] at h
    by_cases e : q = p
    · subst e
      have h0 := h.1.1.1
      unfold inB at h0
      exact of_decide_eq_true h0
    · exact Zhi ns K kind kids n (p + 1) h.2 q (by omega) (by omega)
theorem Zw (ns : List Za) (i : Nat) (h : Zi ns (i : Int) = true) : ∀ q : Nat, q < (rd_T62 ns (i : Int)).f3.length → 0 ≤ rd (rd_T62 ns (i : Int)).f3 (q : Int) ∧ rd (rd_T62 ns (i : Int)).f3 (q : Int) ≤ (i : Int) - 1 := by
  intro q hq
  unfold Zi at h
  simp only [Bool.and_eq_true] at h
  exact Zhi ns _ _ _ _ 0 h.2.2.2.2.2 q (by omega) (by omega)
theorem Zig (ns : List Za) (i : Nat) (h : Zi ns (i : Int) = true) : i < ns.length := by
  unfold Zi inB at h
  simp only [Bool.and_eq_true, decide_eq_true_eq] at h
  omega
def Zac (ds kids : List Int) : Nat → Nat → Int → Int
  | 0, _, d => d
  | n + 1, p, d => Zac ds kids n (p + 1) (if rd ds (rd kids (p : Int)) + 1 > d then rd ds (rd kids (p : Int)) + 1 else d)
theorem Zdf (ds kids : List Int) : ∀ (n p : Nat) (d : Int), d ≤ Zac ds kids n p d
  | 0, _, d => by rw [Zac]; omega
  | n + 1, p, d => by
    rw [Zac]
    refine Int.le_trans ?_ (Zdf ds kids n (p + 1) _)
    split <;> omega
def Zn (ns : List Za) (ds : List Int) (i : Nat) : Int := Zac ds (rd_T62 ns (i : Int)).f3 (rd_T62 ns (i : Int)).f3.length 0 1
def Zg (ns : List Za) : Nat → Option (List Int)
  | 0 => some []
  | i + 1 => match Zg ns i with
    | none => none
    | some ds => if Zi ns (i : Int) = true then (if Zn ns ds i > 10 then none else some (ds ++ [Zn ns ds i])) else none
theorem Zcj (xs ys : List Int) (j : Nat) (h : j < xs.length) : rd (xs ++ ys) (j : Int) = rd xs (j : Int) := by
  rw [Zbf _ j (by rw [List.length_append]; omega), Zbf xs j h, List.getElem_append_left h]
theorem Zdz (xs : List Int) (v : Int) (i : Nat) (h : xs.length = i) : rd (xs ++ [v]) (i : Int) = v := by
  subst h
  rw [Zbf _ _ (by rw [List.length_append, List.length_singleton]; omega)]
  simp
theorem Zah (ns : List Za) : ∀ (i : Nat) (ds : List Int), Zg ns i = some ds → ds.length = i ∧ ∀ j : Nat, j < i → 1 ≤ rd ds (j : Int) ∧ rd ds (j : Int) ≤ 10
  | 0, ds, h => by rw [Zg] at h; cases h; exact ⟨rfl, fun j hj => by omega⟩
  | i + 1, ds, h => by
    rw [Zg] at h
    cases e : Zg ns i with
    | none => rw [e] at h; cases h
    | some es =>
      rw [e] at h
      obtain ⟨hl, hb⟩ := Zah ns i es e
      simp only [] at h
      split at h
      · split at h
        · cases h
        · rename_i _ hD
          cases h
          have hg := Zdf es (rd_T62 ns (i : Int)).f3 (rd_T62 ns (i : Int)).f3.length 0 1
          refine ⟨by rw [List.length_append, List.length_singleton]; omega, fun j hj => ?_⟩
          by_cases c : j = i
          · subst c
            rw [Zdz es _ j hl]
            unfold Zn at hD ⊢
            omega
          · rw [Zcj es _ j (by omega)]; exact hb j (by omega)
      · cases h
theorem Zdb (ns : List Za) (i : Nat) (h : Zg ns i = none) : ∀ d : Nat, Zg ns (i + d) = none
  | 0 => h
  | d + 1 => by rw [← Nat.add_assoc, Zg, Zdb ns i h d]
theorem Zht (ns : List Za) (i : Nat) (ds : List Int) (h : Zg ns (i + 1) = some ds) : Zi ns (i : Int) = true ∧ ∃ es, Zg ns i = some es ∧ Zn ns es i ≤ 10 ∧ ds = es ++ [Zn ns es i] := by
  rw [Zg] at h
  cases e : Zg ns i with
  | none => rw [e] at h; cases h
  | some es =>
    rw [e] at h
    simp only [] at h
    split at h
    · split at h
      · cases h
      · rename_i h1 h2
        cases h
        exact ⟨h1, es, rfl, by omega, rfl⟩
    · cases h
theorem Zje (x : Int) (h0 : 1 ≤ x) (h1 : x ≤ 10) : wrap64 (x + 1) = x + 1 := Zm (by omega) (by omega)
theorem Zcy (ns : List Za) (a : Int) (ds : List Int) (i : Nat) (hd : ds.length = i) (hb : ∀ j : Nat, j < i → 1 ≤ rd ds (j : Int) ∧ rd ds (j : Int) ≤ 10) (kids : List Int) (hk : kids.length ≤ 1048576)
    (hkk : ∀ q : Nat, q < kids.length → 0 ≤ rd kids (q : Int) ∧ rd kids (q : Int) ≤ (i : Int) - 1) (R : List Int × Bool) :
    ∀ (n p : Nat) (d : Int), kids.length - p = n → p ≤ kids.length →
    Ev (fun k => if Zac ds kids n p d > 10 then (some (([] : List Int), false)) else (if ds.length < 17592186044416 then (impl_depths.l0 k ns a (ds ++ [Zac ds kids n p d]) (wrap64 ((i : Int) + 1))) else (none))) R →
    Ev (fun k => impl_depths.l1 k ns a ds (i : Int) d kids (kids.length : Int) (p : Int)) R
  | 0, p, d, hn, hp, H => by
    refine Zb H fun k h => ?_
    rw [impl_depths.l1, if_neg (by omega)]
    exact h
  | n + 1, p, d, hn, hp, H => by
    have q1 : (p : Int) < (kids.length : Int) := by omega
    have q2 : (0 : Int) ≤ (p : Int) := by omega
    obtain ⟨k1, k2⟩ := hkk p (by omega)
    obtain ⟨m, hm⟩ := Int.eq_ofNat_of_zero_le k1
    obtain ⟨b1, b2⟩ := hb m (by omega)
    have q3 : rd kids (p : Int) < (ds.length : Int) := by omega
    have r1 : kids.length - (p + 1) = n := by omega
    have r2 : p + 1 ≤ kids.length := by omega
    have w1 : wrap64 (rd ds (rd kids (p : Int)) + 1) = rd ds (rd kids (p : Int)) + 1 := by rw [hm]; exact Zje _ b1 b2
    have w2 : wrap64 ((p : Int) + 1) = ((p + 1 : Nat) : Int) := Zf (by omega)
    have e : mx d (rd ds (rd kids (p : Int)) + 1) = (if rd ds (rd kids (p : Int)) + 1 > d then rd ds (rd kids (p : Int)) + 1 else d) := by
      unfold mx; by_cases c : d < rd ds (rd kids (p : Int)) + 1
      · rw [if_pos c]
      · rw [if_neg c]
    refine Zb (Zcy ns a ds i hd hb kids hk hkk R n (p + 1) (if rd ds (rd kids (p : Int)) + 1 > d then rd ds (rd kids (p : Int)) + 1 else d) r1 r2 H) fun k h => ?_
    rw [impl_depths.l1, if_pos q1, if_pos q2, if_pos q1, if_pos k1, if_pos q3, w1, w2, e]
    exact h
def Zbd (ns : List Za) (i : Nat) : List Int × Bool := match Zg ns i with | some l => (l, true) | none => ([], false)
theorem Zcu (ns : List Za) (hn : ns.length ≤ 1048576) (hk : ∀ x ∈ ns, Zv x) (a : Nat) (ha : a < ns.length) : ∀ (d i : Nat) (ds : List Int), i + d = a + 1 → Zg ns i = some ds →
    Ev (fun k => impl_depths.l0 k ns (a : Int) ds (i : Int)) (Zbd ns (a + 1))
  | 0, i, ds, h, e => by
    refine Zd fun k => ?_
    obtain rfl : i = a + 1 := by omega
    rw [impl_depths.l0, if_neg (by omega), Zbd, e]
  | d + 1, i, ds, h, e => by
    have q1 : (i : Int) ≤ (a : Int) := by omega
    have q2 : (0 : Int) ≤ (i : Int) := by omega
    have hi : i < ns.length := by omega
    have q3 : (i : Int) < (ns.length : Int) := by omega
    obtain ⟨hl, hb⟩ := Zah ns i ds e
    have hN := Zgs ns hn hk (i : Int)
    cases ok : Zi ns (i : Int) with
    | false =>
      rw [ok] at hN
      have hz : Zg ns (i + 1) = none := by rw [Zg, e]; simp [ok]
      have hz2 := Zdb ns (i + 1) hz d
      rw [show i + 1 + d = a + 1 by omega] at hz2
      refine Zb hN fun k h1 => ?_
      rw [impl_depths.l0, if_pos q1, h1, Option.bind_some, if_neg (by decide), Zbd, hz2]
    | true =>
      rw [ok] at hN
      have hkk := Zw ns i ok
      have hkl : (rd_T62 ns (i : Int)).f3.length ≤ 1048576 := by rw [Zag ns i hi]; exact (hk _ (List.getElem_mem hi)).2
      have H : Ev (fun k => impl_depths.l1 k ns (a : Int) ds (i : Int) 1 (rd_T62 ns (i : Int)).f3 ((rd_T62 ns (i : Int)).f3.length : Int) ((0 : Nat) : Int)) (Zbd ns (a + 1)) := by
        refine Zcy ns a ds i hl hb _ hkl hkk _ (rd_T62 ns (i : Int)).f3.length 0 1 rfl (by omega) ?_
        by_cases c : Zn ns ds i > 10
        · have hz : Zg ns (i + 1) = none := by rw [Zg, e]; simp [ok, c]
          have hz2 := Zdb ns (i + 1) hz d
          rw [show i + 1 + d = a + 1 by omega] at hz2
          refine Zci fun k => ?_
          unfold Zn at c
          rw [if_pos c, Zbd, hz2]
        · have hz : Zg ns (i + 1) = some (ds ++ [Zn ns ds i]) := by rw [Zg, e]; simp [ok, c]
          refine Zj (Zcu ns hn hk a ha d (i + 1) _ (by omega) hz) fun k h1 => ?_
          unfold Zn at c h1
          rw [if_neg c, if_pos (by omega), Zf (by omega)]
          exact h1
      refine Zh hN H fun k h1 h2 => ?_
      rw [impl_depths.l0, if_pos q1, h1, Option.bind_some, if_pos rfl, if_pos q2, if_pos q3]
      exact h2
def Zam (ns : List Za) (a : Int) : Int := if inB a 0 ((ns.length : Int) - 1) = true then (match Zg ns (a.toNat + 1) with | some l => rd l a | none => 0) else 0
theorem Zgg (ns : List Za) (hn : ns.length ≤ 1048576) (hk : ∀ x ∈ ns, Zv x) (a : Int) : Ev (fun k => impl_DeepOf.f k ns a) (Zam ns a) := by
  have w1 : wrap64 ((ns.length : Int) - 1) = (ns.length : Int) - 1 := Zm (by omega) (by omega)
  by_cases ha : 0 ≤ a ∧ a ≤ (ns.length : Int) - 1
  · obtain ⟨i, rfl⟩ := Int.eq_ofNat_of_zero_le ha.1
    refine Zj (Zcu ns hn hk i (by omega) (i + 1) 0 [] (by omega) rfl) fun k h => ?_
    have h' : impl_depths.l0 k ns (i : Int) [] 0 = some (Zbd ns (i + 1)) := h
    have q1 : (0 : Int) ≤ (i : Int) := by omega
    rw [impl_DeepOf.f, impl_depths.f, w1, Ze, Option.bind_some, decide_eq_true ha, if_pos rfl, h', Option.bind_some, Zam, inB, decide_eq_true ha, if_pos rfl, Int.toNat_natCast, Zbd]
    cases e : Zg ns (i + 1) with
    | none => simp
    | some l =>
      have hl := (Zah ns _ l e).1
      simp only [if_true]
      rw [if_pos q1, if_pos (by omega)]
  · refine Zci fun k => ?_
    rw [impl_DeepOf.f, impl_depths.f, w1, Ze, Option.bind_some, decide_eq_false ha, if_neg (by decide), Option.bind_some, Zam, inB, decide_eq_false ha]
    simp
def Zl (ns : List Za) : Nat → List Int
  | 0 => []
  | i + 1 => match Zg ns (i + 1) with | some ds => ds | none => Zl ns i ++ [0]
theorem Zfk (ns : List Za) (i : Nat) (ds : List Int) (h : Zg ns i = some ds) : Zl ns i = ds := by
  cases i with
  | zero => rw [Zg] at h; cases h; rfl
  | succ i => rw [Zl, h]
theorem Zcd (ns : List Za) : ∀ i : Nat, (Zl ns i).length = i
  | 0 => rfl
  | i + 1 => by
    rw [Zl]
    cases e : Zg ns (i + 1) with
    | some ds => exact (Zah ns _ ds e).1
    | none => simp only [List.length_append, List.length_singleton, Zcd ns i]
theorem Zdm (ns : List Za) (i : Nat) (h : Zg ns (i + 1) = none) : rd (Zl ns (i + 1)) (i : Int) = 0 := by
  rw [Zl, h]
  exact Zdz _ 0 i (Zcd ns i)
theorem Zdn (ns : List Za) (a : Int) (ds : List Int) (i : Nat) (hi : i < ns.length) (hd : ds.length = i) (hb : ∀ j : Nat, j < i → 1 ≤ rd ds (j : Int) ∧ rd ds (j : Int) ≤ 10) (kids : List Int) (hK : (rd_T62 ns (i : Int)).f3 = kids) (hk : kids.length ≤ 1048576)
    (hkk : ∀ q : Nat, q < kids.length → 0 ≤ rd kids (q : Int) ∧ rd kids (q : Int) ≤ (i : Int) - 1) (R : List Int) :
    ∀ (n p : Nat) (d : Int), kids.length - p = n → p ≤ kids.length → 1 ≤ d →
    Ev (fun k => if Zac ds kids n p d > 10 then (if ds.length < 17592186044416 then (spec_l04Deeps.l0 k ns a (ds ++ [0]) (wrap64 ((i : Int) + 1))) else (none)) else (if ds.length < 17592186044416 then (spec_l04Deeps.l0 k ns a (ds ++ [Zac ds kids n p d]) (wrap64 ((i : Int) + 1))) else (none))) R →
    Ev (fun k => spec_l04Deeps.l1 k ns a ds (i : Int) d (p : Int)) R
  | 0, p, d, hn, hp, h1d, H => by
    have q1 : (0 : Int) ≤ (i : Int) := by omega
    have q2 : (i : Int) < (ns.length : Int) := by omega
    have H2 : Ev (fun k => spec_l04Deeps.j5 k ns a ds (i : Int) d (p : Int) false) R := Zb H fun k h => by
      rw [spec_l04Deeps.j5, if_neg (by decide)]; exact h
    refine Zb H2 fun k h => ?_
    rw [spec_l04Deeps.l1, if_pos (by omega), if_pos q1, if_pos q2, hK, decide_eq_false (by omega)]
    exact h
  | n + 1, p, d, hn, hp, h1d, H => by
    have q1 : (0 : Int) ≤ (i : Int) := by omega
    have q2 : (i : Int) < (ns.length : Int) := by omega
    have q3 : (p : Int) < (kids.length : Int) := by omega
    have q4 : (0 : Int) ≤ (p : Int) := by omega
    obtain ⟨k1, k2⟩ := hkk p (by omega)
    obtain ⟨m, hm⟩ := Int.eq_ofNat_of_zero_le k1
    obtain ⟨b1, b2⟩ := hb m (by omega)
    have q5 : rd kids (p : Int) < (ds.length : Int) := by omega
    have r1 : kids.length - (p + 1) = n := by omega
    have r2 : p + 1 ≤ kids.length := by omega
    have hge : 1 ≤ (if rd ds (rd kids (p : Int)) + 1 > d then rd ds (rd kids (p : Int)) + 1 else d) := by split <;> omega
    have q0 : d > 0 := by omega
    have w1 : wrap64 (rd ds (rd kids (p : Int)) + 1) = rd ds (rd kids (p : Int)) + 1 := by rw [hm]; exact Zje _ b1 b2
    have w2 : wrap64 ((p : Int) + 1) = ((p + 1 : Nat) : Int) := Zf (by omega)
    have ih := Zdn ns a ds i hi hd hb kids hK hk hkk R n (p + 1) (if rd ds (rd kids (p : Int)) + 1 > d then rd ds (rd kids (p : Int)) + 1 else d) r1 r2 hge H
    have H2 : Ev (fun k => spec_l04Deeps.j5 k ns a ds (i : Int) d (p : Int) true) R := Zb ih fun k h => by
      rw [spec_l04Deeps.j5, if_pos rfl, if_pos q1, if_pos q2, hK, if_pos q4, if_pos q3, if_pos k1, if_pos q5, w1, w2]
      by_cases c : rd ds (rd kids (p : Int)) + 1 > d
      · rw [if_pos c] at h ⊢; exact h
      · rw [if_neg c] at h ⊢; exact h
    refine Zb H2 fun k h => ?_
    rw [spec_l04Deeps.l1, if_pos q0, if_pos q1, if_pos q2, hK, decide_eq_true q3]
    exact h
theorem Zch (ns : List Za) (a : Int) (l : List Int) (i : Nat) (hi : i < 1048576) (hl : l.length = i) (R : List Int) (H : Ev (fun k => spec_l04Deeps.l0 k ns a (l ++ [0]) ((i + 1 : Nat) : Int)) R) (d : Int) : Ev (fun k => spec_l04Deeps.j2 k ns a l (i : Int) d true) R := by
  have h5 : Ev (fun k => spec_l04Deeps.j5 k ns a l (i : Int) 0 0 false) R := Zb H fun k h => by
    rw [spec_l04Deeps.j5, if_neg (by decide), if_neg (by decide), if_pos (by omega), Zf (by omega)]; exact h
  have h1 : Ev (fun k => spec_l04Deeps.l1 k ns a l (i : Int) 0 0) R := Zb h5 fun k h => by rw [spec_l04Deeps.l1, if_neg (by decide)]; exact h
  have h3 : Ev (fun k => spec_l04Deeps.j3 k ns a l (i : Int) 0) R := Zb h1 fun k h => by rw [spec_l04Deeps.j3]; exact h
  exact Zb h3 fun k h => by rw [spec_l04Deeps.j2, if_pos rfl]; exact h
theorem Zdq (ns : List Za) (hn : ns.length ≤ 1048576) (hk : ∀ x ∈ ns, Zv x) (a : Nat) (ha : a < ns.length) : ∀ (d i : Nat), i + d = a + 1 →
    Ev (fun k => spec_l04Deeps.l0 k ns (a : Int) (Zl ns i) (i : Int)) (Zl ns (a + 1))
  | 0, i, h => by
    obtain rfl : i = a + 1 := by omega
    have h1 : Ev (fun k => spec_l04Deeps.j1 k ns (a : Int) (Zl ns (a + 1)) ((a + 1 : Nat) : Int) false) (Zl ns (a + 1)) := Zd fun k => by rw [spec_l04Deeps.j1, if_neg (by decide)]
    refine Zb h1 fun k h => ?_
    rw [spec_l04Deeps.l0, if_neg (by omega)]; exact h
  | d + 1, i, h => by
    have q1 : (i : Int) ≤ (a : Int) := by omega
    have hi : i < ns.length := by omega
    have q3 : (i : Int) < (ns.length : Int) := by omega
    have ih := Zdq ns hn hk a ha d (i + 1) (by omega)
    have hl := Zcd ns i
    have hN := Zgp ns hn hk (i : Int)
    have H1 : Ev (fun k => spec_l04Deeps.j1 k ns (a : Int) (Zl ns i) (i : Int) true) (Zl ns (a + 1)) := by
      cases ok : Zi ns (i : Int) with
      | false =>
        have hz : Zg ns (i + 1) = none := by
          rw [Zg]
          cases Zg ns i with
          | none => rfl
          | some ds => simp [ok]
        have e : Zl ns (i + 1) = Zl ns i ++ [0] := by rw [Zl, hz]
        rw [ok] at hN
        rw [e] at ih
        refine Zh hN (Zch ns a _ i (by omega) hl _ ih 1) fun k h1 h2 => ?_
        rw [spec_l04Deeps.j1, if_pos rfl, h1, Option.bind_some, if_neg (by decide)]
        exact h2
      | true =>
        rw [ok] at hN
        cases e : Zg ns i with
        | none =>
          have hz : Zg ns (i + 1) = none := by rw [Zg, e]
          have e2 : Zl ns (i + 1) = Zl ns i ++ [0] := by rw [Zl, hz]
          rw [e2] at ih
          obtain ⟨j, rfl⟩ : ∃ j, i = j + 1 := ⟨i - 1, by cases i with | zero => rw [Zg] at e; cases e | succ j => omega⟩
          have z := Zdm ns j e
          have w1 : wrap64 (((j + 1 : Nat) : Int) - 1) = (j : Int) := by rw [Zm (by omega) (by omega)]; omega
          refine Zh hN (Zch ns a _ (j + 1) (by omega) hl _ ih 1) fun k h1 h2 => ?_
          rw [spec_l04Deeps.j1, if_pos rfl, h1, Option.bind_some, if_pos rfl, if_pos (by omega), w1, if_pos (by omega), if_pos (by rw [hl]; omega), z]
          exact h2
        | some ds =>
          obtain ⟨hdl, hdb⟩ := Zah ns i ds e
          have es := Zfk ns i ds e
          rw [es]
          have hkk := Zw ns i ok
          have hkl : (rd_T62 ns (i : Int)).f3.length ≤ 1048576 := by rw [Zag ns i hi]; exact (hk _ (List.getElem_mem hi)).2
          have hL : Ev (fun k => spec_l04Deeps.l1 k ns (a : Int) ds (i : Int) 1 ((0 : Nat) : Int)) (Zl ns (a + 1)) := by
            refine Zdn ns a ds i hi hdl hdb _ rfl hkl hkk _ (rd_T62 ns (i : Int)).f3.length 0 1 rfl (by omega) (by omega) ?_
            by_cases c : Zn ns ds i > 10
            · have hz : Zg ns (i + 1) = none := by rw [Zg, e]; simp [ok, c]
              have e2 : Zl ns (i + 1) = ds ++ [0] := by rw [Zl, hz, es]
              rw [e2] at ih
              refine Zj ih fun k h1 => ?_
              unfold Zn at c
              rw [if_pos c, if_pos (by omega), Zf (by omega)]
              exact h1
            · have hz : Zg ns (i + 1) = some (ds ++ [Zn ns ds i]) := by rw [Zg, e]; simp [ok, c]
              have e2 : Zl ns (i + 1) = ds ++ [Zn ns ds i] := by rw [Zl, hz]
              rw [e2] at ih
              refine Zj ih fun k h1 => ?_
              unfold Zn at c h1
              rw [if_neg c, if_pos (by omega), Zf (by omega)]
              exact h1
          have h3 : Ev (fun k => spec_l04Deeps.j3 k ns (a : Int) ds (i : Int) 1) (Zl ns (a + 1)) := Zb hL fun k h => by rw [spec_l04Deeps.j3]; exact h
          have h2 : Ev (fun k => spec_l04Deeps.j2 k ns (a : Int) ds (i : Int) 1 false) (Zl ns (a + 1)) := Zb h3 fun k h => by rw [spec_l04Deeps.j2, if_neg (by decide)]; exact h
          by_cases c : i = 0
          · refine Zh hN h2 fun k h1 h2 => ?_
            rw [spec_l04Deeps.j1, if_pos rfl, h1, Option.bind_some, if_pos rfl, if_neg (by omega)]
            exact h2
          · have hb := hdb (i - 1) (by omega)
            have w1 : wrap64 ((i : Int) - 1) = ((i - 1 : Nat) : Int) := by rw [Zm (by omega) (by omega)]; omega
            refine Zh hN h2 fun k h1 h2 => ?_
            rw [spec_l04Deeps.j1, if_pos rfl, h1, Option.bind_some, if_pos rfl, if_pos (by omega), w1, if_pos (by omega), if_pos (by rw [hdl]; omega), beq_eq_false_iff_ne.mpr (by omega)]
            exact h2
    refine Zb H1 fun k h => ?_
    rw [spec_l04Deeps.l0, if_pos q1, decide_eq_true q3]
    exact h

def Zaf (P : List Za) (a : Nat) : Prop := ∀ i : Nat, i ≤ a → Zi P (i : Int) = true
theorem Zbo (P : List Za) : ∀ (a : Nat) (l : List Int), Zg P (a + 1) = some l → Zaf P a
  | a, l, h => by
    obtain ⟨h1, es, h2, _⟩ := Zht P a l h
    intro i hi
    by_cases c : i = a
    · subst c; exact h1
    · cases a with
      | zero => omega
      | succ a => exact Zbo P a es h2 i (by omega)
theorem Zgy (P : List Za) (a : Nat) (h : Zaf P a) (q : Nat) (hq : q < (rd_T62 P (a : Int)).f3.length) : ∃ m : Nat, rd (rd_T62 P (a : Int)).f3 (q : Int) = (m : Int) ∧ m < a ∧ Zaf P m := by
  obtain ⟨k1, k2⟩ := Zw P a (h a (by omega)) q hq
  obtain ⟨m, hm⟩ := Int.eq_ofNat_of_zero_le k1
  exact ⟨m, hm, by omega, fun i hi => h i (by omega)⟩
theorem Zhm (P : List Za) (a : Nat) (h : Zaf P a) : a < P.length := Zig P a (h a (by omega))

abbrev ParL := S124
abbrev ParT := S58
def Zck (x : ParL) : ParT := ⟨x.f0, x.f1⟩
theorem Zfg (xs : List ParL) (i : Nat) (h : i < xs.length) : rd_T124 xs (i : Int) = xs[i] := by
  unfold rd_T124
  exact Zbq xs _ i h
theorem Zgc (x : ParL) (a : Int) (h0 : 0 ≤ a) (h1 : a ≤ 1048576) (w : x.f0.size ≤ maxLen) : ∃ r, laws_szParam.f x.f0 x.f1 a = some r ∧ (r < 0 ∨ (0 ≤ r ∧ r ≤ a)) := by
  rw [laws_szParam.f, Zbs a _ h0 h1 w]
  by_cases c : a - (x.f0.size : Int) < 0
  · rw [if_pos c]; exact ⟨_, rfl, .inl (by omega)⟩
  · rw [if_neg c]; exact ⟨_, rfl, .inr ⟨by omega, by omega⟩⟩
theorem Zbz (l : List ParL) (hl : l.length ≤ maxLen) (hw : ∀ x ∈ l, x.f0.size ≤ maxLen) : ∀ (d i : Nat) (a : Int), i + d = l.length → 0 ≤ a → a ≤ 1048576 →
    ∃ r, Ev (fun k => laws_szParamS.l0 k l a (i : Int)) r ∧ (r < 0 ∨ (0 ≤ r ∧ r ≤ a))
  | 0, i, a, h, h0, h1 => ⟨a, Zd (fun k => by simp only [laws_szParamS.l0]; rw [if_neg (by omega)]), .inr ⟨h0, by omega⟩⟩
  | d + 1, i, a, h, h0, h1 => by
    have hi : i < l.length := by omega
    have hl' := hl
    unfold maxLen at hl'
    obtain ⟨r, e, hr⟩ := Zgc l[i] a h0 h1 (hw _ (List.getElem_mem hi))
    have q1 : (i : Int) < (l.length : Int) := by omega
    have q2 : (0 : Int) ≤ (i : Int) := by omega
    by_cases c : r < 0
    · exact ⟨-1, Zd (fun k => by simp only [laws_szParamS.l0]; rw [if_pos q1, if_pos q2, Zfg l i hi, e, Option.bind_some, if_pos c]), .inl (by omega)⟩
    · rcases hr with hr | hr
      · exact absurd hr c
      · obtain ⟨r2, E, h2⟩ := Zbz l hl hw d (i + 1) r (by omega) hr.1 (by omega)
        refine ⟨r2, Zb E (fun k e' => ?_), ?_⟩
        · simp only [laws_szParamS.l0]; rw [if_pos q1, if_pos q2, Zfg l i hi, e, Option.bind_some, if_neg c, Zgh (by omega)]; exact e'
        · rcases h2 with h2 | h2
          · exact .inl h2
          · exact .inr ⟨h2.1, by omega⟩
theorem Zfa (l : List ParL) (a : Int) (h0 : 0 ≤ a) (h1 : a ≤ 1048576) (hl : l.length ≤ maxLen) (hw : ∀ x ∈ l, x.f0.size ≤ maxLen) :
    ∃ r, Ev (fun k => laws_szParamS.f k l a) r ∧ (r < 0 ∨ (0 ≤ r ∧ r ≤ a ∧ l.length ≤ 1048576)) := by
  have e := Zbs a _ h0 h1 hl
  by_cases c : a - (l.length : Int) < 0
  · exact ⟨-1, Zci (fun k => by simp only [laws_szParamS.f]; rw [e, if_pos c]), .inl (by omega)⟩
  · obtain ⟨r, E, h⟩ := Zbz l hl hw l.length 0 (a - (l.length : Int)) (by omega) (by omega) (by omega)
    refine ⟨r, Zj E (fun k e' => by simp only [laws_szParamS.f]; rw [e, if_neg c]; exact e'), ?_⟩
    rcases h with h | h
    · exact .inl h
    · exact .inr ⟨h.1, by omega, by omega⟩
theorem Zbv (l : List ParL) (hl : l.length ≤ 1048576) : ∀ (d i : Nat), i + d = l.length →
    Ev (fun k => laws_toParamS.l0 k l ((l.take i).map Zck ++ List.replicate (l.length - i) z58) (i : Int)) (l.map Zck)
  | 0, i, h => by
    refine Zd (fun k => ?_)
    simp only [laws_toParamS.l0]
    rw [if_neg (by omega), show l.length - i = 0 by omega, show i = l.length by omega]; simp
  | d + 1, i, h => by
    have hi : i < l.length := by omega
    refine Zb (Zbv l hl d (i + 1) (by omega)) (fun k e => ?_)
    simp only [laws_toParamS.l0, laws_toParam.f, Option.bind_some]
    rw [if_pos (by omega), if_pos (by omega), if_pos (by simp; omega), Int.toNat_natCast, Zfg l i hi, show (⟨l[i].f0, l[i].f1⟩ : ParT) = Zck l[i] from rfl, Zcf Zck l z58 i hi, Zf (by omega)]
    exact e
theorem Zfh (l : List ParL) (hl : l.length ≤ 1048576) : Ev (fun k => laws_toParamS.f k l) (l.map Zck) := by
  refine Zj (Zbv l hl l.length 0 (by omega)) (fun k e => ?_)
  simp only [laws_toParamS.f]
  rw [if_pos (by omega), Int.toNat_natCast, if_pos (by omega)]
  simpa using e
theorem Zbx (a : List ParT) (hl : a.length ≤ 1048576) : ∀ (d i : Nat), i + d = a.length → Ev (fun k => laws_eqParamS.l0 k a a (i : Int)) true
  | 0, i, h => by
    refine Zd (fun k => ?_)
    simp only [laws_eqParamS.l0]
    rw [if_neg (by omega)]
  | d + 1, i, h => by
    refine Zb (Zbx a hl d (i + 1) (by omega)) (fun k e => ?_)
    simp only [laws_eqParamS.l0, laws_eqParam.f]
    rw [if_pos (by omega), if_pos (by omega), if_pos (by omega), Zf (by omega)]
    simpa using e
theorem Zfc (a : List ParT) (hl : a.length ≤ 1048576) : Ev (fun k => laws_eqParamS.f k a a) true := by
  refine Zj (Zbx a hl a.length 0 (by omega)) (fun k e => ?_)
  simp only [laws_eqParamS.f, if_true]
  exact e
abbrev FnL := S84
abbrev FnT := S56
def fnOf (x : FnL) : FnT := ⟨x.f0, x.f1.map Zck, x.f2, x.f3, x.f4⟩
def fnWf (x : FnL) : Prop := x.f0.size ≤ maxLen ∧ x.f1.length ≤ maxLen ∧ ∀ y ∈ x.f1, y.f0.size ≤ maxLen
def fnSm (x : FnT) : Prop := x.f0.size ≤ 1048576 ∧ x.f1.length ≤ 1048576
theorem Zfb (xs : List FnL) (i : Nat) (h : i < xs.length) : rd_T84 xs (i : Int) = xs[i] := by
  unfold rd_T84
  exact Zbq xs _ i h
theorem Zbw (xs : List FnT) (i : Nat) (h : i < xs.length) : rd_T56 xs (i : Int) = xs[i] := by
  unfold rd_T56
  exact Zbq xs _ i h
theorem Zhk (x : FnL) (a : Int) (h0 : 0 ≤ a) (h1 : a ≤ 1048576) (w : fnWf x) : ∃ r, Ev (fun k => laws_szFn.f k x.f0 x.f1 x.f2 x.f3 x.f4 a) r ∧ (r < 0 ∨ (0 ≤ r ∧ r ≤ a ∧ fnSm (fnOf x))) := by
  have e := Zbs a _ h0 h1 w.1
  by_cases c : a - (x.f0.size : Int) < 0
  · exact ⟨-1, Zci (fun k => by simp only [laws_szFn.f]; rw [e, if_pos c]), .inl (by omega)⟩
  · obtain ⟨r, E, h⟩ := Zfa x.f1 (a - (x.f0.size : Int)) (by omega) (by omega) w.2.1 w.2.2
    by_cases d : r < 0
    · exact ⟨-1, Zj E (fun k e' => by simp only [laws_szFn.f]; rw [e, if_neg c, e', Option.bind_some, if_pos d]), .inl (by omega)⟩
    · rcases h with h | h
      · exact absurd h d
      · exact ⟨r, Zj E (fun k e' => by simp only [laws_szFn.f]; rw [e, if_neg c, e', Option.bind_some, if_neg d]), .inr ⟨h.1, by omega, ⟨by show x.f0.size ≤ 1048576; omega, by show (x.f1.map Zck).length ≤ 1048576; rw [List.length_map]; exact h.2.2⟩⟩⟩
theorem Zds (l : List FnL) (hl : l.length ≤ maxLen) (hw : ∀ x ∈ l, fnWf x) : ∀ (d i : Nat) (a : Int), i + d = l.length → 0 ≤ a → a ≤ 1048576 →
    ∃ r, Ev (fun k => laws_szFnS.l0 k l a (i : Int)) r ∧ (r < 0 ∨ (0 ≤ r ∧ r ≤ a ∧ ∀ x ∈ l.drop i, fnSm (fnOf x)))
  | 0, i, a, h, h0, h1 => ⟨a, Zd (fun k => by simp only [laws_szFnS.l0]; rw [if_neg (by omega)]), .inr ⟨h0, by omega, by rw [List.drop_eq_nil_of_le (by omega)]; simp⟩⟩
  | d + 1, i, a, h, h0, h1 => by
    have hi : i < l.length := by omega
    have hl' := hl
    unfold maxLen at hl'
    obtain ⟨r, e, hr⟩ := Zhk l[i] a h0 h1 (hw _ (List.getElem_mem hi))
    have q1 : (i : Int) < (l.length : Int) := by omega
    have q2 : (0 : Int) ≤ (i : Int) := by omega
    by_cases c : r < 0
    · exact ⟨-1, Zb e (fun k e => by simp only [laws_szFnS.l0]; rw [if_pos q1, if_pos q2, Zfb l i hi, e, Option.bind_some, if_pos c]), .inl (by omega)⟩
    · rcases hr with hr | hr
      · exact absurd hr c
      · obtain ⟨r2, E, h2⟩ := Zds l hl hw d (i + 1) r (by omega) hr.1 (by omega)
        refine ⟨r2, Zh E e (fun k e' e => ?_), ?_⟩
        · simp only [laws_szFnS.l0]; rw [if_pos q1, if_pos q2, Zfb l i hi, e, Option.bind_some, if_neg c, Zgh (by omega)]; exact e'
        · rcases h2 with h2 | h2
          · exact .inl h2
          · refine .inr ⟨h2.1, by omega, ?_⟩
            rw [List.drop_eq_getElem_cons hi]
            intro x hx
            rcases List.mem_cons.mp hx with hx | hx
            · rw [hx]; exact hr.2.2
            · exact h2.2.2 x hx
theorem Zha (l : List FnL) (a : Int) (h0 : 0 ≤ a) (h1 : a ≤ 1048576) (hl : l.length ≤ maxLen) (hw : ∀ x ∈ l, fnWf x) :
    ∃ r, Ev (fun k => laws_szFnS.f k l a) r ∧ (r < 0 ∨ (0 ≤ r ∧ r ≤ a ∧ l.length ≤ 1048576 ∧ ∀ x ∈ l, fnSm (fnOf x))) := by
  have e := Zbs a _ h0 h1 hl
  by_cases c : a - (l.length : Int) < 0
  · exact ⟨-1, Zci (fun k => by simp only [laws_szFnS.f]; rw [e, if_pos c]), .inl (by omega)⟩
  · obtain ⟨r, E, h⟩ := Zds l hl hw l.length 0 (a - (l.length : Int)) (by omega) (by omega) (by omega)
    refine ⟨r, Zj E (fun k e' => by simp only [laws_szFnS.f]; rw [e, if_neg c]; exact e'), ?_⟩
    rcases h with h | h
    · exact .inl h
    · exact .inr ⟨h.1, by omega, by omega, fun x hx => h.2.2 x (by simpa using hx)⟩
theorem Zdp (l : List FnL) (hl : l.length ≤ 1048576) (hk : ∀ x ∈ l, fnSm (fnOf x)) : ∀ (d i : Nat), i + d = l.length →
    Ev (fun k => laws_toFnS.l0 k l ((l.take i).map fnOf ++ List.replicate (l.length - i) z56) (i : Int)) (l.map fnOf)
  | 0, i, h => by
    refine Zd (fun k => ?_)
    simp only [laws_toFnS.l0]
    rw [if_neg (by omega), show l.length - i = 0 by omega, show i = l.length by omega]; simp
  | d + 1, i, h => by
    have hi : i < l.length := by omega
    have hp : l[i].f1.length ≤ 1048576 := by
      have := (hk _ (List.getElem_mem hi)).2
      have e : (fnOf l[i]).f1.length = l[i].f1.length := by simp [fnOf]
      omega
    refine Zh (Zdp l hl hk d (i + 1) (by omega)) (Zfh l[i].f1 hp) (fun k e e2 => ?_)
    simp only [laws_toFnS.l0, laws_toFn.f]
    rw [if_pos (by omega), if_pos (by omega), Zfb l i hi, e2]
    simp only [Option.bind_some]
    rw [if_pos (by simp; omega), Int.toNat_natCast, show (⟨l[i].f0, l[i].f1.map Zck, l[i].f2, l[i].f3, l[i].f4⟩ : FnT) = fnOf l[i] from rfl, Zcf fnOf l z56 i hi, Zf (by omega)]
    exact e
theorem Zhf (l : List FnL) (hl : l.length ≤ 1048576) (hk : ∀ x ∈ l, fnSm (fnOf x)) : Ev (fun k => laws_toFnS.f k l) (l.map fnOf) := by
  refine Zj (Zdp l hl hk l.length 0 (by omega)) (fun k e => ?_)
  simp only [laws_toFnS.f]
  rw [if_pos (by omega), Int.toNat_natCast, if_pos (by omega)]
  simpa using e
theorem Zdo (a : List FnT) (hl : a.length ≤ 1048576) (hk : ∀ x ∈ a, fnSm x) : ∀ (d i : Nat), i + d = a.length → Ev (fun k => laws_eqFnS.l0 k a a (i : Int)) true
  | 0, i, h => by
    refine Zd (fun k => ?_)
    simp only [laws_eqFnS.l0]
    rw [if_neg (by omega)]
  | d + 1, i, h => by
    have hi : i < a.length := by omega
    refine Zh (Zdo a hl hk d (i + 1) (by omega)) (Zfc a[i].f1 (hk _ (List.getElem_mem hi)).2) (fun k e e2 => ?_)
    simp only [laws_eqFnS.l0, laws_eqFn.f, if_true]
    rw [if_pos (by omega), if_pos (by omega), if_pos (by omega), Zbw a i hi, e2]
    simp only [Option.bind_some, if_true]
    rw [Zf (by omega)]
    exact e
theorem Zhe (a : List FnT) (hl : a.length ≤ 1048576) (hk : ∀ x ∈ a, fnSm x) : Ev (fun k => laws_eqFnS.f k a a) true := by
  refine Zj (Zdo a hl hk a.length 0 (by omega)) (fun k e => ?_)
  simp only [laws_eqFnS.f, if_true]
  exact e

def Zq (P : List Za) (F : List FnT) : Prop := (P.length ≤ 1048576 ∧ ∀ x ∈ P, Zv x) ∧ (F.length ≤ 1048576 ∧ ∀ x ∈ F, fnSm x)
theorem Zem (ns : List Zbe) (fs : List FnL) (a : Int) (h0 : 0 ≤ a) (h1 : a ≤ 1048576) (hn : ns.length ≤ maxLen) (hw : ∀ x ∈ ns, Zga x) (hf : fs.length ≤ maxLen) (hv : ∀ x ∈ fs, fnWf x) :
    ∃ r, Ev (fun k => laws_szProgram.f k ns fs a) r ∧ (r < 0 ∨ (0 ≤ r ∧ r ≤ a ∧ Zq (ns.map Zad) (fs.map fnOf))) := by
  obtain ⟨r, E1, h1'⟩ := Zft ns a h0 h1 hn hw
  by_cases c : r < 0
  · exact ⟨-1, Zj E1 fun k e => by rw [laws_szProgram.f, e, Option.bind_some, if_pos c], .inl (by decide)⟩
  rcases h1' with h1' | h1'
  · exact absurd h1' c
  obtain ⟨r2, E2, h2⟩ := Zha fs r h1'.1 (by omega) hf hv
  by_cases d : r2 < 0
  · exact ⟨-1, Zax E1 E2 fun k e1 e2 => by rw [laws_szProgram.f, e1, Option.bind_some, if_neg c, e2, Option.bind_some, if_pos d], .inl (by decide)⟩
  rcases h2 with h2 | h2
  · exact absurd h2 d
  refine ⟨r2, Zax E1 E2 fun k e1 e2 => by rw [laws_szProgram.f, e1, Option.bind_some, if_neg c, e2, Option.bind_some, if_neg d], .inr ⟨h2.1, by omega, ⟨by rw [List.length_map]; exact h1'.2.2.1, fun x hx => ?_⟩, ⟨by rw [List.length_map]; exact h2.2.2.1, fun x hx => ?_⟩⟩⟩
  · obtain ⟨y, hy, rfl⟩ := List.mem_map.mp hx
    exact h1'.2.2.2 y hy
  · obtain ⟨y, hy, rfl⟩ := List.mem_map.mp hx
    exact h2.2.2.2 y hy
theorem Zeq (ns : List Zbe) (fs : List FnL) (h : Zq (ns.map Zad) (fs.map fnOf)) : Ev (fun k => laws_toProgram.f k ns fs) (ns.map Zad, fs.map fnOf) := by
  have l1 : ns.length ≤ 1048576 := by have := h.1.1; rwa [List.length_map] at this
  have l2 : fs.length ≤ 1048576 := by have := h.2.1; rwa [List.length_map] at this
  refine Zax (Zfi ns l1 fun x hx => h.1.2 _ (List.mem_map.mpr ⟨x, hx, rfl⟩)) (Zhf fs l2 fun x hx => h.2.2 _ (List.mem_map.mpr ⟨x, hx, rfl⟩)) fun k e1 e2 => ?_
  rw [laws_toProgram.f, e1, Option.bind_some, e2, Option.bind_some]
theorem Zeo (P : List Za) (F : List FnT) (h : Zq P F) : Ev (fun k => laws_eqProgram.f k P F P F) true := by
  refine Zax (Zfo P h.1.1 h.1.2) (Zhe F h.2.1 h.2.2) fun k e1 e2 => ?_
  rw [laws_eqProgram.f, e1, Option.bind_some, if_pos rfl, e2, Option.bind_some, if_pos rfl]

theorem Zez (P : List Za) (a : Nat) (h : Zaf P a) : 1 ≤ (rd_T62 P (a : Int)).f0 ∧ (rd_T62 P (a : Int)).f0 ≤ 20 ∧ (Zk (rd_T62 P (a : Int)).f0).1 ≤ ((rd_T62 P (a : Int)).f3.length : Int) ∧ ((rd_T62 P (a : Int)).f3.length : Int) ≤ (Zk (rd_T62 P (a : Int)).f0).2 := by
  have := h a (by omega)
  unfold Zi inB at this
  simp only [Bool.and_eq_true, decide_eq_true_eq] at this
  exact ⟨this.2.1.1, this.2.1.2, this.2.2.1.1, this.2.2.1.2⟩

theorem Zet (ds kids : List Int) : ∀ (n p : Nat) (d : Int) (q : Nat), p ≤ q → q < p + n → rd ds (rd kids (q : Int)) + 1 ≤ Zac ds kids n p d
  | 0, p, d, q, h1, h2 => by omega
  | n + 1, p, d, q, h1, h2 => by
    rw [Zac]
    by_cases c : q = p
    · subst c
      refine Int.le_trans ?_ (Zdf ds kids n (q + 1) _)
      split <;> omega
    · exact Zet ds kids n (p + 1) _ q (by omega) (by omega)
theorem Zdv (ns : List Za) : ∀ (i : Nat) (ds : List Int), Zg ns i = some ds → ∀ j : Nat, j < i → ∃ es, es.length = j ∧ rd ds (j : Int) = Zn ns es j ∧ (∀ m : Nat, m < j → rd ds (m : Int) = rd es (m : Int)) ∧ Zi ns (j : Int) = true
  | 0, ds, h, j, hj => by omega
  | i + 1, ds, h, j, hj => by
    obtain ⟨ok, es, he, _, hd⟩ := Zht ns i ds h
    have hl := (Zah ns i es he).1
    by_cases c : j = i
    · subst c
      refine ⟨es, hl, ?_, fun m hm => ?_, ok⟩
      · rw [hd, Zdz es _ j hl]
      · rw [hd, Zcj es _ m (by omega)]
    · obtain ⟨fs, l1, l2, l3, l4⟩ := Zdv ns i es he j (by omega)
      refine ⟨fs, l1, ?_, fun m hm => ?_, l4⟩
      · rw [hd, Zcj es _ j (by omega)]; exact l2
      · rw [hd, Zcj es _ m (by omega)]; exact l3 m hm
def Zai (ns : List Za) : Nat → Int → Prop
  | 0, _ => False
  | d + 1, a => ∀ q : Nat, q < (rd_T62 ns a).f3.length → Zai ns d (rd (rd_T62 ns a).f3 (q : Int))
theorem Zff (ns : List Za) (i : Nat) (ds : List Int) (h : Zg ns i = some ds) : ∀ (d j : Nat), j < i → rd ds (j : Int) ≤ (d : Int) → Zai ns d (j : Int)
  | 0, j, hj, hd => by
    have := (Zah ns i ds h).2 j hj
    omega
  | d + 1, j, hj, hd => by
    obtain ⟨es, l1, l2, l3, ok⟩ := Zdv ns i ds h j hj
    intro q hq
    obtain ⟨k1, k2⟩ := Zw ns j ok q hq
    obtain ⟨m, hm⟩ := Int.eq_ofNat_of_zero_le k1
    have hk := Zet es (rd_T62 ns (j : Int)).f3 (rd_T62 ns (j : Int)).f3.length 0 1 q (by omega) (by omega)
    rw [hm] at hk ⊢
    refine Zff ns i ds h d m (by omega) ?_
    rw [l3 m (by omega)]
    unfold Zn at l2
    omega
theorem Zhz (P : List Za) (a : Int) (h : ¬Zam P a = 0) : ∃ i : Nat, a = (i : Int) ∧ i < P.length ∧ Zaf P i ∧ Zai P 10 (i : Int) := by
  unfold Zam at h
  by_cases c : inB a 0 ((P.length : Int) - 1) = true
  · rw [if_pos c] at h
    have hb : 0 ≤ a ∧ a ≤ (P.length : Int) - 1 := by simpa [inB] using c
    obtain ⟨i, rfl⟩ := Int.eq_ofNat_of_zero_le hb.1
    rw [Int.toNat_natCast] at h
    cases e : Zg P (i + 1) with
    | none => rw [e] at h; exact absurd rfl h
    | some l => exact ⟨i, rfl, by omega, Zbo P i l e, Zff P (i + 1) l e 10 i (by omega) ((Zah P (i + 1) l e).2 i (by omega)).2⟩
  · rw [if_neg c] at h; exact absurd rfl h

open Given
def decD (m : Nat) : List UInt8 := if m = 0 then [] else Lib.decDigits m
theorem Ziz (m : Nat) (h : m ≠ 0) : decD m = decD (m / 10) ++ [UInt8.ofNat (48 + m % 10)] := by
  unfold decD
  rw [if_neg h, Lib.decDigits]
  by_cases c : m < 10
  · have e : m / 10 = 0 := by omega
    have e2 : m % 10 = m := by omega
    rw [dif_pos c, e, e2]
    simp
  · have e : ¬ m / 10 = 0 := by omega
    rw [dif_neg c, if_neg e]
theorem Zjb (d : Nat) (h : d < 10) : (strOfNums [((48 + d : Nat) : Int)]).data.toList = [UInt8.ofNat (48 + d)] := by
  have : d = 0 ∨ d = 1 ∨ d = 2 ∨ d = 3 ∨ d = 4 ∨ d = 5 ∨ d = 6 ∨ d = 7 ∨ d = 8 ∨ d = 9 := by omega
  rcases this with h | h | h | h | h | h | h | h | h | h <;> subst h <;> rfl
theorem Zgz (d : Nat) (h : d < 10) : spec_l01Figure.f (d : Int) = some ((48 + d : Nat) : Int) := by
  have e : wrap64 (48 + (d : Int)) % 256 = ((48 + d : Nat) : Int) := by rw [Zm (by omega) (by omega)]; omega
  rw [spec_l01Figure.f, if_pos (by omega), e]
def sgnI (neg : Bool) (m : Nat) : Int := if neg = true then -(m : Int) else (m : Int)
theorem Zjl (neg : Bool) (m : Nat) (h : m ≤ 9223372036854775808) : wrap64 (Int.tdiv (sgnI neg m) 10) = sgnI neg (m / 10) := by
  have e : Int.tdiv (m : Int) 10 = ((m / 10 : Nat) : Int) := by rw [Zjm (by omega)]; omega
  cases neg
  · show wrap64 (Int.tdiv (m : Int) 10) = ((m / 10 : Nat) : Int)
    rw [e]; exact Zm (by omega) (by omega)
  · show wrap64 (Int.tdiv (-(m : Int)) 10) = -((m / 10 : Nat) : Int)
    rw [Int.neg_tdiv, e]; exact Zm (by omega) (by omega)
theorem Zjj (neg : Bool) (m : Nat) : Int.tmod (sgnI neg m) 10 = sgnI neg (m % 10) := by
  have e : Int.tmod (m : Int) 10 = ((m % 10 : Nat) : Int) := by rw [Zjo (by omega)]; omega
  cases neg
  · exact e
  · show Int.tmod (-(m : Int)) 10 = -((m % 10 : Nat) : Int)
    rw [Int.neg_tmod, e]
theorem Zjp (neg : Bool) : ∀ (d m : Nat) (s : ByteArray), m < 10 ^ d → m ≤ 9223372036854775808 → s.size + d ≤ 1000 →
    ∃ R : ByteArray, Ev (fun k => spec_Decimal.l0 k (sgnI neg m) neg s) R ∧ R.data.toList = (if neg = true then [45] else []) ++ (decD m ++ s.data.toList) := by
  have base : ∀ s : ByteArray, s.size ≤ 1000 → ∃ R : ByteArray, Ev (fun k => spec_Decimal.l0 k (sgnI neg 0) neg s) R ∧ R.data.toList = (if neg = true then [45] else []) ++ (decD 0 ++ s.data.toList) := by
    intro s hs
    have e0 : sgnI neg 0 = 0 := by cases neg <;> rfl
    rw [e0]
    cases neg
    · exact ⟨s, Zd fun k => by rw [spec_Decimal.l0, if_pos rfl, if_neg (by decide)], by simp [decD]⟩
    · exact ⟨(⟨#[45]⟩ : ByteArray) ++ s, Zd fun k => by rw [spec_Decimal.l0, if_pos rfl, if_pos rfl, if_pos (by omega)], by simp [decD, ByteArray.data_append]⟩
  intro d
  induction d with
  | zero =>
    intro m s h h1 hs
    have : m = 0 := by omega
    subst this
    exact base s (by omega)
  | succ d ih =>
    intro m s h h1 hs
    by_cases c : m = 0
    · subst c
      exact base s (by omega)
    · have hd : m / 10 < 10 ^ d := by rw [Nat.div_lt_iff_lt_mul (by decide), ← Nat.pow_succ]; exact h
      have hsz : (strOfNums [((48 + m % 10 : Nat) : Int)]).size = 1 := by rw [strOfNums_size]; rfl
      have hm10 : m % 10 < 10 := Nat.mod_lt _ (by decide)
      obtain ⟨R, E, hR⟩ := ih (m / 10) (strOfNums [((48 + m % 10 : Nat) : Int)] ++ s) hd (by omega) (by rw [ByteArray.size_append, hsz]; omega)
      refine ⟨R, Zb E fun k e => ?_, ?_⟩
      · have n0 : ¬ sgnI neg m = 0 := by cases neg <;> simp [sgnI] <;> omega
        have hz : 1 + s.size ≤ 9223372036854775807 := by omega
        rw [spec_Decimal.l0, if_neg n0, Zjj, Zjl neg m h1]
        by_cases q : sgnI neg (m % 10) < 0
        · have e1 : wrap64 (-(sgnI neg (m % 10))) = ((m % 10 : Nat) : Int) := by
            cases neg
            · exact absurd q (by simp [sgnI]; omega)
            · show wrap64 (- -((m % 10 : Nat) : Int)) = _
              rw [Int.neg_neg]; exact Zm (by omega) (by omega)
          rw [if_pos q, e1, Zgz _ hm10, Option.bind_some, Option.bind_some, hsz, if_pos hz]
          exact e
        · have e1 : sgnI neg (m % 10) = ((m % 10 : Nat) : Int) := by
            cases neg
            · rfl
            · have : m % 10 = 0 := by simp [sgnI] at q; omega
              rw [this]; rfl
          rw [if_neg q, e1, Zgz _ hm10, Option.bind_some, Option.bind_some, hsz, if_pos hz]
          exact e
      · rw [hR, ByteArray.data_append, Array.toList_append, Zjb _ hm10, Ziz m c, List.append_assoc]
theorem Zfj (n : Int) (h : (Lit.int .i64 n).wf = true) : ∃ R : ByteArray, Ev (fun k => spec_Decimal.f k n) R ∧ R.data.toList = Lib.itoa n := by
  have hb := Zjc h
  by_cases c : n = 0
  · subst c
    exact ⟨⟨#[48]⟩, Zci fun k => by rw [spec_Decimal.f, if_pos rfl], by rw [Lib.itoa, if_neg (by decide), show (0 : Int).toNat = 0 from rfl, Lib.decDigits_one (by decide)]; rfl⟩
  · obtain ⟨R, E, hR⟩ := Zjp (decide (n < 0)) 20 n.natAbs ⟨#[]⟩ (by omega) (by omega) (by decide)
    have e : sgnI (decide (n < 0)) n.natAbs = n := by
      unfold sgnI
      by_cases q : n < 0
      · rw [if_pos (decide_eq_true q)]; omega
      · rw [if_neg (by simp [q])]; omega
    rw [e] at E
    refine ⟨R, Zj E fun k e => by rw [spec_Decimal.f, if_neg c]; exact e, ?_⟩
    have n0 : ¬ n.natAbs = 0 := by omega
    rw [hR, Lib.itoa, decD, if_neg n0]
    by_cases q : n < 0
    · rw [if_pos (decide_eq_true q), if_pos q]; simp
    · rw [if_neg (by simp [q]), if_neg q, show n.toNat = n.natAbs by omega]; simp

theorem Zfu (n : Int) (h : (Lit.int .i64 n).wf = true) : impl_Decimal.f n = some ⟨(Lib.itoa n).toArray⟩ := by
  rw [impl_Decimal.f, strconv_Itoa.f, if_pos (Zjc h)]; rfl

open Given
theorem Zca {a b : ByteArray} (h : a.data.toList = b.data.toList) : a = b := by
  cases a; cases b; simp at h; simp [h]
def kidS (ns : List Za) (g : Int → ByteArray) (a : Int) : ByteArray :=
  if 9 ≤ (rd_T62 ns a).f0 ∧ (rd_T62 ns a).f0 ≤ 11 then (((⟨#[40]⟩ : ByteArray) ++ g a) ++ (⟨#[41]⟩ : ByteArray)) else g a
def argS (g : Int → ByteArray) (kids : List Int) : Nat → Nat → ByteArray → ByteArray
  | 0, _, acc => acc
  | n + 1, p, acc => argS g kids n (p + 1) ((if p = 0 then acc else acc ++ (⟨#[44, 32]⟩ : ByteArray)) ++ g (rd kids (p : Int)))
def Zel (kind : Int) : ByteArray := if kind = 9 then (⟨#[32, 43, 32]⟩ : ByteArray) else if kind = 10 then (⟨#[32, 60, 32]⟩ : ByteArray) else (⟨#[32, 61, 61, 32]⟩ : ByteArray)
def Zde (ns : List Za) (g : Int → ByteArray) (kind num : Int) (name : ByteArray) (kids : List Int) : ByteArray :=
  if kind = 1 then ⟨(Lib.itoa num).toArray⟩ else if kind = 2 then name else if kind = 3 then (⟨#[42]⟩ : ByteArray) ++ name else if kind = 4 then (⟨#[99, 108, 111, 110, 101, 32]⟩ : ByteArray) ++ name
  else if kind = 5 then (⟨#[38]⟩ : ByteArray) ++ name else if kind = 6 then (⟨#[38, 109, 117, 116, 32]⟩ : ByteArray) ++ name else if kind = 7 then (⟨#[105, 110, 112, 117, 116]⟩ : ByteArray)
  else if kind = 8 then (⟨#[110, 101, 119, 32]⟩ : ByteArray) ++ kidS ns g (rd kids 0) else if kind = 12 then argS g kids kids.length 0 (name ++ (⟨#[40]⟩ : ByteArray)) ++ (⟨#[41]⟩ : ByteArray)
  else (kidS ns g (rd kids 0) ++ Zel kind) ++ kidS ns g (rd kids 1)
def Zu (ns : List Za) : Nat → Int → ByteArray
  | 0, _ => (⟨#[]⟩ : ByteArray)
  | d + 1, a => Zde ns (Zu ns d) (rd_T62 ns a).f0 (rd_T62 ns a).f1 (rd_T62 ns a).f2 (rd_T62 ns a).f3
def bnd : Nat → Nat
  | 0 => 0
  | d + 1 => 3 * bnd d + 1048640
theorem Zis : ∀ d e : Nat, bnd d ≤ bnd (d + e)
  | d, 0 => Nat.le_refl _
  | d, e + 1 => by rw [← Nat.add_assoc, bnd]; have := Zis d e; omega
theorem Zcr (d : Nat) (h : d ≤ 10) : bnd d ≤ 100000000000 := by
  have := Zis d (10 - d)
  rw [show d + (10 - d) = 10 by omega] at this
  have e : bnd 10 ≤ 100000000000 := by decide
  omega
theorem Zab (ns : List Za) (g : Int → ByteArray) (a : Int) : (kidS ns g a).size ≤ (g a).size + 2 := by
  unfold kidS
  split
  · rw [ByteArray.size_append, ByteArray.size_append]
    have e1 : (⟨#[40]⟩ : ByteArray).size = 1 := rfl
    have e2 : (⟨#[41]⟩ : ByteArray).size = 1 := rfl
    omega
  · omega
theorem Zfq (k : Int) : (Zel k).size ≤ 4 := by
  unfold Zel
  split
  · decide
  · split <;> decide
theorem Zcl (g : Int → ByteArray) (kids : List Int) (b : Nat) : ∀ (n p : Nat) (acc : ByteArray), n + p = kids.length → (∀ q : Nat, q < kids.length → (g (rd kids (q : Int))).size ≤ b) → (argS g kids n p acc).size ≤ acc.size + n * (b + 2)
  | 0, p, acc, h, H => by rw [argS]; omega
  | n + 1, p, acc, h, H => by
    rw [argS]
    have h1 := Zcl g kids b n (p + 1) ((if p = 0 then acc else acc ++ (⟨#[44, 32]⟩ : ByteArray)) ++ g (rd kids (p : Int))) (by omega) H
    have h2 := H p (by omega)
    have h3 : (if p = 0 then acc else acc ++ (⟨#[44, 32]⟩ : ByteArray)).size ≤ acc.size + 2 := by
      split
      · omega
      · rw [ByteArray.size_append]; have : (⟨#[44, 32]⟩ : ByteArray).size = 2 := rfl
        omega
    rw [ByteArray.size_append] at h1
    have h4 : (n + 1) * (b + 2) = n * (b + 2) + (b + 2) := Nat.succ_mul _ _
    omega
theorem Zih (n : Int) (h0 : 0 ≤ n) (h1 : n ≤ 1000000000) : (⟨(Lib.itoa n).toArray⟩ : ByteArray).size ≤ 21 := by
  have := Lib.itoa_length_le n (by omega) (by omega)
  simpa [ByteArray.size] using this
section
variable (ns : List Za) (g : Int → ByteArray) (b : Nat) (hb : b ≤ 100000000000) (kind num : Int) (name : ByteArray) (kids : List Int) (hnm : name.size ≤ 1048576)
  (hv : 1 ≤ kind ∧ kind ≤ 12) (h1 : kind = 8 → 0 < kids.length) (h2 : kind = 9 ∨ kind = 10 ∨ kind = 11 → 1 < kids.length) (h3 : kind = 12 → kids.length ≤ 3) (hn : kind = 1 → 0 ≤ num ∧ num ≤ 1000000000)
  (Hs : ∀ q : Nat, q < kids.length → (g (rd kids (q : Int))).size ≤ b) (Hr : ∀ q : Nat, q < kids.length → 0 ≤ rd kids (q : Int) ∧ rd kids (q : Int) < (ns.length : Int))
include hb hnm hv h1 h2 h3 hn Hs
theorem Zik : (Zde ns g kind num name kids).size ≤ 3 * b + 1048640 := by
  have l1 : (⟨#[42]⟩ : ByteArray).size = 1 := rfl
  have l2 : (⟨#[99, 108, 111, 110, 101, 32]⟩ : ByteArray).size = 6 := rfl
  have l3 : (⟨#[38]⟩ : ByteArray).size = 1 := rfl
  have l4 : (⟨#[38, 109, 117, 116, 32]⟩ : ByteArray).size = 5 := rfl
  have l5 : (⟨#[105, 110, 112, 117, 116]⟩ : ByteArray).size = 5 := rfl
  have l6 : (⟨#[110, 101, 119, 32]⟩ : ByteArray).size = 4 := rfl
  have l7 : (⟨#[40]⟩ : ByteArray).size = 1 := rfl
  have l8 : (⟨#[41]⟩ : ByteArray).size = 1 := rfl
  unfold Zde
  by_cases c1 : kind = 1
  · rw [if_pos c1]; have := Zih num (hn c1).1 (hn c1).2; omega
  rw [if_neg c1]
  by_cases c2 : kind = 2
  · rw [if_pos c2]; omega
  rw [if_neg c2]
  by_cases c3 : kind = 3
  · rw [if_pos c3, ByteArray.size_append]; omega
  rw [if_neg c3]
  by_cases c4 : kind = 4
  · rw [if_pos c4, ByteArray.size_append]; omega
  rw [if_neg c4]
  by_cases c5 : kind = 5
  · rw [if_pos c5, ByteArray.size_append]; omega
  rw [if_neg c5]
  by_cases c6 : kind = 6
  · rw [if_pos c6, ByteArray.size_append]; omega
  rw [if_neg c6]
  by_cases c7 : kind = 7
  · rw [if_pos c7]; omega
  rw [if_neg c7]
  by_cases c8 : kind = 8
  · rw [if_pos c8, ByteArray.size_append]
    have q1 := Zab ns g (rd kids 0)
    have q2 := Hs 0 (h1 c8)
    have q3 : (g (rd kids 0)).size ≤ b := q2
    omega
  rw [if_neg c8]
  by_cases c12 : kind = 12
  · rw [if_pos c12, ByteArray.size_append]
    have q1 := Zcl g kids b kids.length 0 (name ++ (⟨#[40]⟩ : ByteArray)) (by omega) Hs
    have q2 := h3 c12
    rw [ByteArray.size_append] at q1
    have q4 : kids.length * (b + 2) ≤ 3 * (b + 2) := Nat.mul_le_mul_right _ q2
    omega
  rw [if_neg c12, ByteArray.size_append, ByteArray.size_append]
  have hl := h2 (by omega)
  have q1 := Zab ns g (rd kids 0)
  have q2 := Zab ns g (rd kids 1)
  have q3 : (g (rd kids 0)).size ≤ b := Hs 0 (by omega)
  have q4 : (g (rd kids 1)).size ≤ b := Hs 1 hl
  have q5 := Zfq kind
  omega
end
theorem Zhy (a : Int) : spec_l06Pair.f a = some (decide (9 ≤ a ∧ a ≤ 11)) := by rw [spec_l06Pair.f, Zc, Option.bind_some]
theorem Zcp (ns : List Za) (g : Int → ByteArray) (m : Int) (h0 : 0 ≤ m) (h1 : m < (ns.length : Int)) (hs : (g m).size ≤ 100000000000) (E : Ev (fun k => spec_l06Value.f k ns m) (g m)) : Ev (fun k => spec_l06Kid.f k ns m) (kidS ns g m) := by
  refine Zb E fun k e => ?_
  have l7 : (⟨#[40]⟩ : ByteArray).size = 1 := rfl
  rw [spec_l06Kid.f, if_pos h0, if_pos h1, Zhy, Option.bind_some, kidS]
  by_cases c : 9 ≤ (rd_T62 ns m).f0 ∧ (rd_T62 ns m).f0 ≤ 11
  · rw [if_pos (decide_eq_true c), if_pos c, e, Option.bind_some, if_pos (by omega), if_pos (by rw [ByteArray.size_append]; omega)]
  · rw [if_neg (by simpa using c), if_neg c, e, Option.bind_some]
theorem Zib (a lo hi : Int) : impl_in.f a lo hi = some (decide (lo ≤ a ∧ a ≤ hi)) := by
  unfold impl_in.f
  by_cases h : a ≥ lo
  · rw [if_pos h]; simp; omega
  · rw [if_neg h]; simp; omega
theorem Zco (ns : List Za) (F : List FnT) (g : Int → ByteArray) (m : Int) (h0 : 0 ≤ m) (h1 : m < (ns.length : Int)) (hs : (g m).size ≤ 100000000000) (E : Ev (fun k => impl_showValue.f k ns F m) (g m)) : Ev (fun k => impl_showIn.f k ns F m) (kidS ns g m) := by
  refine Zb E fun k e => ?_
  have l7 : (⟨#[40]⟩ : ByteArray).size = 1 := rfl
  rw [impl_showIn.f, if_pos h0, if_pos h1, Zib, Option.bind_some, kidS]
  by_cases c : 9 ≤ (rd_T62 ns m).f0 ∧ (rd_T62 ns m).f0 ≤ 11
  · rw [if_pos (decide_eq_true c), if_pos c, e, Option.bind_some, if_pos (by omega), if_pos (by rw [ByteArray.size_append]; omega)]
  · rw [if_neg (by simpa using c), if_neg c, e, Option.bind_some]
theorem Zby (ns : List Za) (g : Int → ByteArray) (b : Nat) (hb : b ≤ 100000000000) (k0 n0 : Int) (name : ByteArray) (kids : List Int) (hk : kids.length ≤ 3) (Hs : ∀ q : Nat, q < kids.length → (g (rd kids (q : Int))).size ≤ b)
    (H : ∀ q : Nat, q < kids.length → Ev (fun k => spec_l06Value.f k ns (rd kids (q : Int))) (g (rd kids (q : Int)))) : ∀ (n p : Nat) (acc : ByteArray), n + p = kids.length → acc.size ≤ 2097152 + p * (b + 2) →
    Ev (fun k => spec_l06Value.l0 k ns acc (p : Int) k0 n0 name kids) (argS g kids n p acc ++ (⟨#[41]⟩ : ByteArray))
  | 0, p, acc, h, ha => by
    have q4 : p * (b + 2) ≤ 3 * (b + 2) := Nat.mul_le_mul_right _ (by omega)
    refine Zd fun k => ?_
    rw [spec_l06Value.l0, if_neg (by omega), if_pos (by omega), argS]
  | n + 1, p, acc, h, ha => by
    have q4 : p * (b + 2) ≤ 3 * (b + 2) := Nat.mul_le_mul_right _ (by omega)
    have q5 : (p + 1) * (b + 2) = p * (b + 2) + (b + 2) := Nat.succ_mul _ _
    have hp := Hs p (by omega)
    have l2 : (⟨#[44, 32]⟩ : ByteArray).size = 2 := rfl
    by_cases c : p = 0
    · have sz : (acc ++ g (rd kids (p : Int))).size ≤ 2097152 + (p + 1) * (b + 2) := by rw [ByteArray.size_append]; omega
      refine Zh (H p (by omega)) (Zby ns g b hb k0 n0 name kids hk Hs H n (p + 1) (acc ++ g (rd kids (p : Int))) (by omega) sz) fun k e1 e2 => ?_
      rw [spec_l06Value.l0, if_pos (by omega), if_neg (by omega), if_pos (by omega), e1, Option.bind_some, if_pos (by omega), Zf (by omega), e2, argS, if_pos c]
    · have sz : ((acc ++ (⟨#[44, 32]⟩ : ByteArray)) ++ g (rd kids (p : Int))).size ≤ 2097152 + (p + 1) * (b + 2) := by rw [ByteArray.size_append, ByteArray.size_append]; omega
      refine Zh (H p (by omega)) (Zby ns g b hb k0 n0 name kids hk Hs H n (p + 1) ((acc ++ (⟨#[44, 32]⟩ : ByteArray)) ++ g (rd kids (p : Int))) (by omega) sz) fun k e1 e2 => ?_
      rw [spec_l06Value.l0, if_pos (by omega), if_pos (by omega), if_pos (by omega), if_pos (by omega), e1, Option.bind_some, if_pos (by rw [ByteArray.size_append]; omega), Zf (by omega), e2, argS, if_neg c]
def mapG (g : Int → ByteArray) (kids : List Int) : Nat → Nat → List ByteArray
  | 0, _ => []
  | n + 1, p => g (rd kids (p : Int)) :: mapG g kids n (p + 1)
theorem Zgu (g : Int → ByteArray) (kids : List Int) : ∀ (n p : Nat) (acc : ByteArray), 0 < p → (argS g kids n p acc).data.toList = acc.data.toList ++ Lib.joinTail [44, 32] ((mapG g kids n p).map (·.data.toList))
  | 0, p, acc, h => by rw [argS, mapG]; simp [Lib.joinTail]
  | n + 1, p, acc, h => by
    rw [argS, Zgu g kids n (p + 1) _ (by omega), if_neg (by omega), mapG]
    simp [Lib.joinTail, ByteArray.data_append]
theorem Zda (g : Int → ByteArray) (kids : List Int) (n : Nat) (acc : ByteArray) : (argS g kids n 0 acc).data.toList = acc.data.toList ++ Lib.join ((mapG g kids n 0).map (·.data.toList)) [44, 32] := by
  cases n with
  | zero => rw [argS, mapG]; simp [Lib.join_nil]
  | succ n =>
    rw [argS, Zgu g kids n 1 _ (by omega), if_pos rfl, mapG, List.map_cons, Lib.join_cons]
    simp [ByteArray.data_append]
theorem Zdt (ns : List Za) (F : List FnT) (g : Int → ByteArray) (b : Nat) (hb : b ≤ 100000000000) (k0 n0 : Int) (name : ByteArray) (hnm : name.size ≤ 1048576) (kids : List Int) (hk : kids.length ≤ 3) (Hs : ∀ q : Nat, q < kids.length → (g (rd kids (q : Int))).size ≤ b)
    (H : ∀ q : Nat, q < kids.length → Ev (fun k => impl_showValue.f k ns F (rd kids (q : Int))) (g (rd kids (q : Int)))) : ∀ (n p : Nat) (l : List ByteArray), n + p = kids.length → l.length = p → l ++ mapG g kids n p = mapG g kids kids.length 0 →
    Ev (fun k => impl_showValue.l0 k l kids (kids.length : Int) (p : Int) ns F k0 n0 name kids) (argS g kids kids.length 0 (name ++ (⟨#[40]⟩ : ByteArray)) ++ (⟨#[41]⟩ : ByteArray))
  | 0, p, l, h, hl, he => by
    have l7 : (⟨#[40]⟩ : ByteArray).size = 1 := rfl
    have J := Zda g kids kids.length (name ++ (⟨#[40]⟩ : ByteArray))
    have S := Zcl g kids b kids.length 0 (name ++ (⟨#[40]⟩ : ByteArray)) (by omega) Hs
    have q4 : kids.length * (b + 2) ≤ 3 * (b + 2) := Nat.mul_le_mul_right _ hk
    rw [ByteArray.size_append] at S
    have e0 : l = mapG g kids kids.length 0 := by rw [← he, mapG, List.append_nil]
    have sz : (Lib.join ((mapG g kids kids.length 0).map (·.data.toList)) [44, 32]).length ≤ 1000000000000 := by
      have := congrArg List.length J
      rw [List.length_append] at this
      have s1 : (argS g kids kids.length 0 (name ++ (⟨#[40]⟩ : ByteArray))).data.toList.length = (argS g kids kids.length 0 (name ++ (⟨#[40]⟩ : ByteArray))).size := rfl
      omega
    have hj : strings_Join.f l (⟨#[44, 32]⟩ : ByteArray) = some ⟨(Lib.join ((mapG g kids kids.length 0).map (·.data.toList)) [44, 32]).toArray⟩ := by
      rw [strings_Join.f, if_pos ⟨by omega, by rw [e0]; show (Lib.join _ [44, 32]).length ≤ _; omega⟩, e0]
    have sj : (⟨(Lib.join ((mapG g kids kids.length 0).map (·.data.toList)) [44, 32]).toArray⟩ : ByteArray).size ≤ 1000000000000 := by simpa [ByteArray.size] using sz
    refine Zd fun k => ?_
    rw [impl_showValue.l0, if_neg (by omega), if_pos (by omega), hj, Option.bind_some, if_pos (by rw [ByteArray.size_append]; omega), if_pos (by rw [ByteArray.size_append, ByteArray.size_append]; omega)]
    congr 2
    refine Zca ?_
    rw [J]
    simp [ByteArray.data_append]
  | n + 1, p, l, h, hl, he => by
    refine Zh (H p (by omega)) (Zdt ns F g b hb k0 n0 name hnm kids hk Hs H n (p + 1) (l ++ [g (rd kids (p : Int))]) (by omega) (by simp; omega) (by rw [← he, mapG]; simp)) fun k e1 e2 => ?_
    rw [impl_showValue.l0, if_pos (by omega), if_pos (by omega), if_pos (by omega), e1, Option.bind_some, if_pos (by omega), Zf (by omega), e2]
theorem Ziw (n : Int) (h0 : 0 ≤ n) (h1 : n ≤ 1000000000) : (Lit.int .i64 n).wf = true := by
  have a1 : IntKind.i64.min = -9223372036854775808 := by decide
  have a2 : IntKind.i64.max = 9223372036854775807 := by decide
  simp only [Lit.wf, Bool.and_eq_true, decide_eq_true_eq]
  omega
section
variable (ns : List Za) (F : List FnT) (g : Int → ByteArray) (b : Nat) (hb : b ≤ 100000000000) (a : Nat) (ha : a < ns.length) (kind num : Int) (name : ByteArray) (kids : List Int) (hX : rd_T62 ns (a : Int) = ⟨kind, num, name, kids⟩) (hnm : name.size ≤ 1048576)
  (hv : 1 ≤ kind ∧ kind ≤ 12) (h1 : kind = 8 → 0 < kids.length) (h2 : kind = 9 ∨ kind = 10 ∨ kind = 11 → 1 < kids.length) (h3 : kind = 12 → kids.length ≤ 3) (hn : kind = 1 → 0 ≤ num ∧ num ≤ 1000000000)
  (Hs : ∀ q : Nat, q < kids.length → (g (rd kids (q : Int))).size ≤ b) (Hr : ∀ q : Nat, q < kids.length → 0 ≤ rd kids (q : Int) ∧ rd kids (q : Int) < (ns.length : Int))
include hb ha hX hnm hv h1 h2 h3 hn Hs Hr
theorem Zhw (H : ∀ q : Nat, q < kids.length → Ev (fun k => spec_l06Value.f k ns (rd kids (q : Int))) (g (rd kids (q : Int)))) : Ev (fun k => spec_l06Value.f k ns (a : Int)) (Zde ns g kind num name kids) := by
  have q1 : (0 : Int) ≤ (a : Int) := by omega
  have q2 : (a : Int) < (ns.length : Int) := by omega
  have l7 : (⟨#[40]⟩ : ByteArray).size = 1 := rfl
  unfold Zde
  by_cases c1 : kind = 1
  · obtain ⟨R, E, hR⟩ := Zfj num (Ziw num (hn c1).1 (hn c1).2)
    have e0 : (⟨(Lib.itoa num).toArray⟩ : ByteArray) = R := Zca (by rw [hR])
    rw [if_pos c1, e0]
    refine Zb E fun k e => ?_
    rw [spec_l06Value.f, if_pos q1, if_pos q2, hX]
    simp only
    rw [if_pos c1, e, Option.bind_some]
  rw [if_neg c1]
  by_cases c2 : kind = 2
  · rw [if_pos c2]
    refine Zd fun k => ?_
    rw [spec_l06Value.f, if_pos q1, if_pos q2, hX]
    simp only
    rw [if_neg c1, if_pos c2]
  rw [if_neg c2]
  by_cases c3 : kind = 3
  · rw [if_pos c3]
    refine Zd fun k => ?_
    rw [spec_l06Value.f, if_pos q1, if_pos q2, hX]
    simp only
    rw [if_neg c1, if_neg c2, if_pos c3, if_pos (by omega)]
  rw [if_neg c3]
  by_cases c4 : kind = 4
  · rw [if_pos c4]
    refine Zd fun k => ?_
    rw [spec_l06Value.f, if_pos q1, if_pos q2, hX]
    simp only
    rw [if_neg c1, if_neg c2, if_neg c3, if_pos c4, if_pos (by omega)]
  rw [if_neg c4]
  by_cases c5 : kind = 5
  · rw [if_pos c5]
    refine Zd fun k => ?_
    rw [spec_l06Value.f, if_pos q1, if_pos q2, hX]
    simp only
    rw [if_neg c1, if_neg c2, if_neg c3, if_neg c4, if_pos c5, if_pos (by omega)]
  rw [if_neg c5]
  by_cases c6 : kind = 6
  · rw [if_pos c6]
    refine Zd fun k => ?_
    rw [spec_l06Value.f, if_pos q1, if_pos q2, hX]
    simp only
    rw [if_neg c1, if_neg c2, if_neg c3, if_neg c4, if_neg c5, if_pos c6, if_pos (by omega)]
  rw [if_neg c6]
  by_cases c7 : kind = 7
  · rw [if_pos c7]
    refine Zd fun k => ?_
    rw [spec_l06Value.f, if_pos q1, if_pos q2, hX]
    simp only
    rw [if_neg c1, if_neg c2, if_neg c3, if_neg c4, if_neg c5, if_neg c6, if_pos c7]
  rw [if_neg c7]
  by_cases c8 : kind = 8
  · have hl := h1 c8
    have z := Zab ns g (rd kids 0)
    have z2 : (g (rd kids 0)).size ≤ b := Hs 0 hl
    rw [if_pos c8]
    refine Zb (Zcp ns g (rd kids 0) (Hr 0 hl).1 (Hr 0 hl).2 (by omega) (H 0 hl)) fun k e => ?_
    rw [spec_l06Value.f, if_pos q1, if_pos q2, hX]
    simp only
    rw [if_neg c1, if_neg c2, if_neg c3, if_neg c4, if_neg c5, if_neg c6, if_neg c7, if_pos c8, if_pos (by omega), e, Option.bind_some, if_pos (by omega)]
  rw [if_neg c8]
  by_cases c12 : kind = 12
  · rw [if_pos c12]
    refine Zb (Zby ns g b hb kind num name kids (h3 c12) Hs H kids.length 0 (name ++ (⟨#[40]⟩ : ByteArray)) (by omega) (by rw [ByteArray.size_append]; omega)) fun k e => ?_
    rw [spec_l06Value.f, if_pos q1, if_pos q2, hX]
    simp only
    rw [if_neg c1, if_neg c2, if_neg c3, if_neg c4, if_neg c5, if_neg c6, if_neg c7, if_neg c8, if_pos c12, if_pos (by omega)]
    exact e
  rw [if_neg c12]
  have hl := h2 (by omega)
  have z0 := Zab ns g (rd kids 0)
  have z1 := Zab ns g (rd kids 1)
  have z2 : (g (rd kids 0)).size ≤ b := Hs 0 (by omega)
  have z3 : (g (rd kids 1)).size ≤ b := Hs 1 hl
  have z4 := Zfq kind
  have hsg : spec_l06Sign.f kind = some (Zel kind) := by
    rw [spec_l06Sign.f, Zel]
    split
    · rfl
    · split <;> rfl
  refine Zh (Zcp ns g (rd kids 0) (Hr 0 (by omega)).1 (Hr 0 (by omega)).2 (by omega) (H 0 (by omega))) (Zcp ns g (rd kids 1) (Hr 1 hl).1 (Hr 1 hl).2 (by omega) (H 1 hl)) fun k e1 e2 => ?_
  rw [spec_l06Value.f, if_pos q1, if_pos q2, hX]
  simp only
  rw [if_neg c1, if_neg c2, if_neg c3, if_neg c4, if_neg c5, if_neg c6, if_neg c7, if_neg c8, if_neg c12, if_pos (by omega), e1, Option.bind_some, hsg, Option.bind_some, if_pos (by omega), if_pos (by omega), e2, Option.bind_some, if_pos (by rw [ByteArray.size_append]; omega)]
theorem Zhr (H : ∀ q : Nat, q < kids.length → Ev (fun k => impl_showValue.f k ns F (rd kids (q : Int))) (g (rd kids (q : Int)))) : Ev (fun k => impl_showValue.f k ns F (a : Int)) (Zde ns g kind num name kids) := by
  have q1 : (0 : Int) ≤ (a : Int) := by omega
  have q2 : (a : Int) < (ns.length : Int) := by omega
  have l7 : (⟨#[40]⟩ : ByteArray).size = 1 := rfl
  unfold Zde
  by_cases c1 : kind = 1
  · rw [if_pos c1]
    refine Zd fun k => ?_
    rw [impl_showValue.f, if_pos q1, if_pos q2, hX]
    simp only
    rw [if_pos c1, Zfu num (Ziw num (hn c1).1 (hn c1).2), Option.bind_some]
  rw [if_neg c1]
  by_cases c2 : kind = 2
  · rw [if_pos c2]
    refine Zd fun k => ?_
    rw [impl_showValue.f, if_pos q1, if_pos q2, hX]
    simp only
    iterate 11 rw [if_neg (by omega)]
  rw [if_neg c2]
  by_cases c3 : kind = 3
  · rw [if_pos c3]
    refine Zd fun k => ?_
    rw [impl_showValue.f, if_pos q1, if_pos q2, hX]
    simp only
    rw [if_neg c1, if_pos c3, if_pos (by omega)]
  rw [if_neg c3]
  by_cases c4 : kind = 4
  · rw [if_pos c4]
    refine Zd fun k => ?_
    rw [impl_showValue.f, if_pos q1, if_pos q2, hX]
    simp only
    rw [if_neg c1, if_neg c3, if_pos c4, if_pos (by omega)]
  rw [if_neg c4]
  by_cases c5 : kind = 5
  · rw [if_pos c5]
    refine Zd fun k => ?_
    rw [impl_showValue.f, if_pos q1, if_pos q2, hX]
    simp only
    rw [if_neg c1, if_neg c3, if_neg c4, if_pos c5, if_pos (by omega)]
  rw [if_neg c5]
  by_cases c6 : kind = 6
  · rw [if_pos c6]
    refine Zd fun k => ?_
    rw [impl_showValue.f, if_pos q1, if_pos q2, hX]
    simp only
    rw [if_neg c1, if_neg c3, if_neg c4, if_neg c5, if_pos c6, if_pos (by omega)]
  rw [if_neg c6]
  by_cases c7 : kind = 7
  · rw [if_pos c7]
    refine Zd fun k => ?_
    rw [impl_showValue.f, if_pos q1, if_pos q2, hX]
    simp only
    rw [if_neg c1, if_neg c3, if_neg c4, if_neg c5, if_neg c6, if_pos c7]
  rw [if_neg c7]
  by_cases c8 : kind = 8
  · have hl := h1 c8
    have z := Zab ns g (rd kids 0)
    have z2 : (g (rd kids 0)).size ≤ b := Hs 0 hl
    rw [if_pos c8]
    refine Zb (Zco ns F g (rd kids 0) (Hr 0 hl).1 (Hr 0 hl).2 (by omega) (H 0 hl)) fun k e => ?_
    rw [impl_showValue.f, if_pos q1, if_pos q2, hX]
    simp only
    rw [if_neg c1, if_neg c3, if_neg c4, if_neg c5, if_neg c6, if_neg c7, if_pos c8, if_pos (by omega), e, Option.bind_some, if_pos (by omega)]
  rw [if_neg c8]
  by_cases c12 : kind = 12
  · rw [if_pos c12]
    refine Zb (Zdt ns F g b hb kind num name hnm kids (h3 c12) Hs H kids.length 0 [] (by omega) rfl rfl) fun k e => ?_
    rw [impl_showValue.f, if_pos q1, if_pos q2, hX]
    simp only
    rw [if_neg c1, if_neg c3, if_neg c4, if_neg c5, if_neg c6, if_neg c7, if_neg c8, if_neg (by omega), if_neg (by omega), if_neg (by omega), if_pos c12]
    exact e
  rw [if_neg c12]
  have hl := h2 (by omega)
  have z0 := Zab ns g (rd kids 0)
  have z1 := Zab ns g (rd kids 1)
  have z2 : (g (rd kids 0)).size ≤ b := Hs 0 (by omega)
  have z3 : (g (rd kids 1)).size ≤ b := Hs 1 hl
  have m1 : (⟨#[32, 43, 32]⟩ : ByteArray).size = 3 := rfl
  have m2 : (⟨#[32, 60, 32]⟩ : ByteArray).size = 3 := rfl
  have m3 : (⟨#[32, 61, 61, 32]⟩ : ByteArray).size = 4 := rfl
  refine Zh (Zco ns F g (rd kids 0) (Hr 0 (by omega)).1 (Hr 0 (by omega)).2 (by omega) (H 0 (by omega))) (Zco ns F g (rd kids 1) (Hr 1 hl).1 (Hr 1 hl).2 (by omega) (H 1 hl)) fun k e1 e2 => ?_
  rw [impl_showValue.f, if_pos q1, if_pos q2, hX, Zel]
  simp only
  rw [if_neg c1, if_neg c3, if_neg c4, if_neg c5, if_neg c6, if_neg c7, if_neg c8]
  by_cases c9 : kind = 9
  · rw [if_pos c9, if_pos (by omega), e1, Option.bind_some, if_pos (by omega), if_pos (by omega), e2, Option.bind_some, if_pos (by rw [ByteArray.size_append]; omega), if_pos c9]
  · rw [if_neg c9]
    by_cases c10 : kind = 10
    · rw [if_pos c10, if_pos (by omega), e1, Option.bind_some, if_pos (by omega), if_pos (by omega), e2, Option.bind_some, if_pos (by rw [ByteArray.size_append]; omega), if_neg c9, if_pos c10]
    · rw [if_neg c10, if_pos (by omega), if_pos (by omega), e1, Option.bind_some, if_pos (by omega), if_pos (by omega), e2, Option.bind_some, if_pos (by rw [ByteArray.size_append]; omega), if_neg c9, if_neg c10]
end
theorem Zid (P : List Za) (a : Nat) (h : Zaf P a) : ((rd_T62 P (a : Int)).f0 = 8 → 0 < (rd_T62 P (a : Int)).f3.length) ∧ ((rd_T62 P (a : Int)).f0 = 9 ∨ (rd_T62 P (a : Int)).f0 = 10 ∨ (rd_T62 P (a : Int)).f0 = 11 → 1 < (rd_T62 P (a : Int)).f3.length) ∧ ((rd_T62 P (a : Int)).f0 = 12 → (rd_T62 P (a : Int)).f3.length ≤ 3) ∧ ((rd_T62 P (a : Int)).f0 = 1 → 0 ≤ (rd_T62 P (a : Int)).f1 ∧ (rd_T62 P (a : Int)).f1 ≤ 1000000000) := by
  have S := Zez P a h
  refine ⟨fun c => ?_, fun c => ?_, fun c => ?_, fun c => ?_⟩
  · rw [c] at S; have : (Zk 8).1 = 1 := by decide
    omega
  · rcases c with c | c | c
    · rw [c] at S; have : (Zk 9).1 = 2 := by decide
      omega
    · rw [c] at S; have : (Zk 10).1 = 2 := by decide
      omega
    · rw [c] at S; have : (Zk 11).1 = 2 := by decide
      omega
  · rw [c] at S; have : (Zk 12).2 = 3 := by decide
    omega
  · have ok := h a (by omega)
    unfold Zi at ok
    simp only [Bool.and_eq_true] at ok
    have n := ok.2.2.2.1
    rw [Zaq, if_pos c] at n
    unfold inB at n
    exact of_decide_eq_true n
/-- a kid of a value is a value -/
theorem Zix (P : List Za) (a : Nat) (h : Zaf P a) (hv : 1 ≤ (rd_T62 P (a : Int)).f0 ∧ (rd_T62 P (a : Int)).f0 ≤ 12) (q : Nat) (hq : q < (rd_T62 P (a : Int)).f3.length) :
    1 ≤ (rd_T62 P (rd (rd_T62 P (a : Int)).f3 (q : Int))).f0 ∧ (rd_T62 P (rd (rd_T62 P (a : Int)).f3 (q : Int))).f0 ≤ 12 := by
  have ok := h a (by omega)
  unfold Zi at ok
  simp only [Bool.and_eq_true] at ok
  have kr := ok.2.2.2.2.2
  have fit : ∀ n p : Nat, Zs P (a : Int) (rd_T62 P (a : Int)).f0 (rd_T62 P (a : Int)).f3 n p = true → ∀ q : Nat, p ≤ q → q < p + n → Zaa (rd_T62 P (a : Int)).f0 (q : Int) (rd_T62 P (rd (rd_T62 P (a : Int)).f3 (q : Int))).f0 = true := by
    intro n
    induction n with
    | zero => intro p _ q h1 h2; omega
    | succ n ih =>
      intro p hp q h1 h2
      rw [Zs] at hp
      simp only [Bool.and_eq_true] at hp
      by_cases c : q = p
      · subst c
        exact hp.1.1.2
      · exact ih (p + 1) hp.2 q (by omega) (by omega)
  have f := fit _ 0 kr q (by omega) (by omega)
  rw [Zaa, if_neg (by omega), if_neg (by omega), if_neg (by omega)] at f
  unfold inB at f
  exact of_decide_eq_true f
theorem Zbg (ns : List Za) (F : List FnT) (hP : Zq ns F) : ∀ (d a : Nat), d ≤ 10 → Zaf ns a → Zai ns d (a : Int) → 1 ≤ (rd_T62 ns (a : Int)).f0 ∧ (rd_T62 ns (a : Int)).f0 ≤ 12 →
    Ev (fun k => spec_l06Value.f k ns (a : Int)) (Zu ns d (a : Int)) ∧ Ev (fun k => impl_showValue.f k ns F (a : Int)) (Zu ns d (a : Int)) ∧ (Zu ns d (a : Int)).size ≤ bnd d
  | 0, a, _, _, h, _ => h.elim
  | d + 1, a, hd, ga, hp, hv => by
    have la := Zhm ns a ga
    have hb := Zcr d (by omega)
    have hnm : (rd_T62 ns (a : Int)).f2.size ≤ 1048576 := by rw [Zag ns a la]; exact (hP.1.2 _ (List.getElem_mem la)).1
    obtain ⟨h1, h2, h3, hn⟩ := Zid ns a ga
    have kv := Zix ns a ga hv
    have ka := Zgy ns a ga
    rw [Zai] at hp
    have H : ∀ q : Nat, q < (rd_T62 ns (a : Int)).f3.length → (Ev (fun k => spec_l06Value.f k ns (rd (rd_T62 ns (a : Int)).f3 (q : Int))) (Zu ns d (rd (rd_T62 ns (a : Int)).f3 (q : Int))) ∧ Ev (fun k => impl_showValue.f k ns F (rd (rd_T62 ns (a : Int)).f3 (q : Int))) (Zu ns d (rd (rd_T62 ns (a : Int)).f3 (q : Int))) ∧ (Zu ns d (rd (rd_T62 ns (a : Int)).f3 (q : Int))).size ≤ bnd d) ∧ (0 ≤ rd (rd_T62 ns (a : Int)).f3 (q : Int) ∧ rd (rd_T62 ns (a : Int)).f3 (q : Int) < (ns.length : Int)) := fun q hq => by
      obtain ⟨m, e1, l1, g1⟩ := ka q hq
      have hp' := hp q hq
      have kv' := kv q hq
      rw [e1] at hp' kv' ⊢
      exact ⟨Zbg ns F hP d m (by omega) g1 hp' kv', by omega, by omega⟩
    rw [Zu, bnd]
    generalize hX : rd_T62 ns (a : Int) = X at hnm h1 h2 h3 hn hv H
    obtain ⟨kind, num, name, kids⟩ := X
    exact ⟨Zhw ns (Zu ns d) (bnd d) hb a la kind num name kids hX hnm hv h1 h2 h3 hn (fun q hq => (H q hq).1.2.2) (fun q hq => (H q hq).2) (fun q hq => (H q hq).1.1),
      Zhr ns F (Zu ns d) (bnd d) hb a la kind num name kids hX hnm hv h1 h2 h3 hn (fun q hq => (H q hq).1.2.2) (fun q hq => (H q hq).2) (fun q hq => (H q hq).1.2.1),
      Zik ns (Zu ns d) (bnd d) hb kind num name kids hnm hv h1 h2 h3 hn (fun q hq => (H q hq).1.2.2)⟩

open Given
theorem Zjq {α β γ δ ε : Type} {F : Nat → Option α} {r : α} {g : Nat → Option β} {a : β} {f : Nat → Option γ} {b : γ} {e : Nat → Option δ} {c : δ} {u : Nat → Option ε} {d : ε} (ha : Ev g a) (hb : Ev f b) (hc : Ev e c) (hd : Ev u d) (H : ∀ k, g k = some a → f k = some b → e k = some c → u k = some d → F (k + 1) = some r) : Ev F r := by
  obtain ⟨K1, e1⟩ := ha
  obtain ⟨K2, e2⟩ := hb
  obtain ⟨K3, e3⟩ := hc
  obtain ⟨K4, e4⟩ := hd
  refine ⟨K1 + K2 + K3 + K4 + 1, fun k hk => ?_⟩
  obtain ⟨m, rfl⟩ : ∃ m, k = m + 1 := ⟨k - 1, by omega⟩
  exact H m (e1 m (by omega)) (e2 m (by omega)) (e3 m (by omega)) (e4 m (by omega))
def padL : Nat → ByteArray
  | 0 => (⟨#[]⟩ : ByteArray)
  | n + 1 => padL n ++ (⟨#[32, 32]⟩ : ByteArray)
def padN (i : Int) : Nat := (mx 0 (mn i 20)).toNat
def padS (i : Int) : ByteArray := padL (padN i)
theorem Zdx : ∀ n : Nat, (padL n).size = 2 * n
  | 0 => rfl
  | n + 1 => by rw [padL, ByteArray.size_append, Zdx n]; show 2 * n + 2 = _; omega
theorem Zgm (i : Int) : padN i ≤ 20 := by
  unfold padN mx mn
  split <;> split <;> omega
theorem Zek (i : Int) : (padS i).size ≤ 40 := by have := Zgm i; rw [padS, Zdx]; omega
theorem Zfv : ∀ n : Nat, Lib.repeatL [32, 32] n = (padL n).data.toList
  | 0 => rfl
  | n + 1 => by
    rw [padL, ByteArray.data_append, Array.toList_append, ← Zfv n]
    rw [Lib.repeatL_add, Lib.repeatL_one]
theorem Zaj (i : Int) : strings_Repeat.f (⟨#[32, 32]⟩ : ByteArray) (mx 0 (mn i 20)) = some (padS i) := by
  have h := Zgm i
  have h0 : 0 ≤ mx 0 (mn i 20) := by unfold mx; split <;> omega
  have h1 : mx 0 (mn i 20) ≤ 20 := by unfold padN at h; omega
  have l : (⟨#[32, 32]⟩ : ByteArray).size = 2 := rfl
  have hN : (mx 0 (mn i 20)).toNat = padN i := rfl
  rw [strings_Repeat.f, if_pos ⟨h0, by omega, by rw [l, hN]; omega⟩, hN]
  congr 1
  refine Zca ?_
  exact Zfv (padN i)
theorem Zgb (i : Int) : ∀ n p : Nat, n + p = padN i → Ev (fun k => spec_l06In.l0 k i (padL p) (p : Int)) (padS i)
  | 0, p, h => by
    have hN : p = padN i := by omega
    have c : ¬((p : Int) < i ∧ (p : Int) < 20) := by rw [hN]; unfold padN mx mn; split <;> split <;> omega
    refine Zd fun k => ?_
    rw [spec_l06In.l0, hN, ← padS, ← hN]
    by_cases c1 : (p : Int) < i
    · rw [if_pos c1, if_neg (by omega)]
    · rw [if_neg c1]
  | n + 1, p, h => by
    have hp : p < padN i := by omega
    have h20 := Zgm i
    have c1 : (p : Int) < i := by unfold padN mx mn at hp; split at hp <;> split at hp <;> omega
    have l := Zdx p
    have e := Zgb i n (p + 1) (by omega)
    refine Zb e fun k e1 => ?_
    rw [spec_l06In.l0, if_pos c1, if_pos (by omega), if_pos (by omega), Zf (by omega), ← padL, e1]
theorem Zae (i : Int) : Ev (fun k => spec_l06In.f k i) (padS i) := Zgb i (padN i) 0 (by omega)
def Zdk (gv : Int → ByteArray) (gb : Int → Int → ByteArray) (i kind : Int) (name : ByteArray) (kids : List Int) : ByteArray :=
  if kind = 13 then ((((padS i ++ (⟨#[108, 101, 116, 32]⟩ : ByteArray)) ++ name) ++ (⟨#[32, 61, 32]⟩ : ByteArray)) ++ gv (rd kids 0)) ++ (⟨#[59, 10]⟩ : ByteArray)
  else if kind = 14 then (((padS i ++ name) ++ (⟨#[32, 61, 32]⟩ : ByteArray)) ++ gv (rd kids 0)) ++ (⟨#[59, 10]⟩ : ByteArray)
  else if kind = 15 then ((((padS i ++ (⟨#[42]⟩ : ByteArray)) ++ name) ++ (⟨#[32, 61, 32]⟩ : ByteArray)) ++ gv (rd kids 0)) ++ (⟨#[59, 10]⟩ : ByteArray)
  else if kind = 18 then ((padS i ++ (⟨#[112, 114, 105, 110, 116, 32]⟩ : ByteArray)) ++ gv (rd kids 0)) ++ (⟨#[59, 10]⟩ : ByteArray)
  else if kind = 19 then ((padS i ++ (⟨#[100, 111, 32]⟩ : ByteArray)) ++ gv (rd kids 0)) ++ (⟨#[59, 10]⟩ : ByteArray)
  else if kind = 16 then ((((((((padS i ++ (⟨#[105, 102, 32]⟩ : ByteArray)) ++ gv (rd kids 0)) ++ (⟨#[32, 123, 10]⟩ : ByteArray)) ++ gb (rd kids 1) (wrap64 (i + 1))) ++ padS i) ++ (⟨#[125, 32, 101, 108, 115, 101, 32, 123, 10]⟩ : ByteArray)) ++ gb (rd kids 2) (wrap64 (i + 1))) ++ padS i) ++ (⟨#[125, 10]⟩ : ByteArray)
  else (((((padS i ++ (⟨#[119, 104, 105, 108, 101, 32]⟩ : ByteArray)) ++ gv (rd kids 0)) ++ (⟨#[32, 123, 10]⟩ : ByteArray)) ++ gb (rd kids 1) (wrap64 (i + 1))) ++ padS i) ++ (⟨#[125, 10]⟩ : ByteArray)
def blkS (g : Int → ByteArray) (kids : List Int) : Nat → Nat → ByteArray → ByteArray
  | 0, _, acc => acc
  | n + 1, p, acc => blkS g kids n (p + 1) (acc ++ g (rd kids (p : Int)))
def Zp (ns : List Za) : Nat → Int → Int → ByteArray
  | 0, _, _ => (⟨#[]⟩ : ByteArray)
  | d + 1, a, i => if (rd_T62 ns a).f0 = 20 then blkS (fun c => Zp ns d c i) (rd_T62 ns a).f3 (rd_T62 ns a).f3.length 0 (⟨#[]⟩ : ByteArray)
    else Zdk (Zu ns d) (Zp ns d) i (rd_T62 ns a).f0 (rd_T62 ns a).f2 (rd_T62 ns a).f3
def bndS : Nat → Nat
  | 0 => 0
  | d + 1 => 12 * bndS d + bnd d + 1050000
theorem Zic : ∀ d e : Nat, bndS d ≤ bndS (d + e)
  | d, 0 => Nat.le_refl _
  | d, e + 1 => by rw [← Nat.add_assoc, bndS]; have := Zic d e; omega
theorem Zdl (d : Nat) (h : d ≤ 10) : bndS d ≤ 100000000000000000 := by
  have := Zic d (10 - d)
  rw [show d + (10 - d) = 10 by omega] at this
  have e : bndS 10 ≤ 100000000000000000 := by decide
  omega
theorem Zgt (g : Int → ByteArray) (kids : List Int) (b : Nat) : ∀ (n p : Nat) (acc : ByteArray), n + p = kids.length → (∀ q : Nat, q < kids.length → (g (rd kids (q : Int))).size ≤ b) → (blkS g kids n p acc).size ≤ acc.size + n * b
  | 0, p, acc, h, H => by rw [blkS]; omega
  | n + 1, p, acc, h, H => by
    rw [blkS]
    have h1 := Zgt g kids b n (p + 1) (acc ++ g (rd kids (p : Int))) (by omega) H
    have h2 := H p (by omega)
    rw [ByteArray.size_append] at h1
    have h4 : (n + 1) * b = n * b + b := Nat.succ_mul _ _
    omega
theorem Zjh (P : List Za) (a : Nat) (h : Zaf P a) (q : Nat) (hq : q < (rd_T62 P (a : Int)).f3.length) :
    Zaa (rd_T62 P (a : Int)).f0 (q : Int) (rd_T62 P (rd (rd_T62 P (a : Int)).f3 (q : Int))).f0 = true := by
  have ok := h a (by omega)
  unfold Zi at ok
  simp only [Bool.and_eq_true] at ok
  have kr := ok.2.2.2.2.2
  have fit : ∀ n p : Nat, Zs P (a : Int) (rd_T62 P (a : Int)).f0 (rd_T62 P (a : Int)).f3 n p = true → ∀ q : Nat, p ≤ q → q < p + n → Zaa (rd_T62 P (a : Int)).f0 (q : Int) (rd_T62 P (rd (rd_T62 P (a : Int)).f3 (q : Int))).f0 = true := by
    intro n
    induction n with
    | zero => intro p _ q h1 h2; omega
    | succ n ih =>
      intro p hp q h1 h2
      rw [Zs] at hp
      simp only [Bool.and_eq_true] at hp
      by_cases c : q = p
      · subst c
        exact hp.1.1.2
      · exact ih (p + 1) hp.2 q (by omega) (by omega)
  exact fit _ 0 kr q (by omega) (by omega)
theorem Ziy (i kid : Int) (h : Zaa 20 i kid = true) : 13 ≤ kid ∧ kid ≤ 19 := by
  rw [Zaa, if_pos rfl] at h
  unfold inB at h
  exact of_decide_eq_true h
theorem Ziv (kind kid : Int) (hk : 13 ≤ kind ∧ kind ≤ 19) (h : Zaa kind 0 kid = true) : 1 ≤ kid ∧ kid ≤ 12 := by
  rw [Zaa, if_neg (by omega), if_neg (by omega)] at h
  split at h
  · have : kid = 12 := by simpa using h
    omega
  · unfold inB at h
    exact of_decide_eq_true h
theorem Zgv (kind i kid : Int) (hk : kind = 16 ∨ kind = 17) (hi : 0 < i) (h : Zaa kind i kid = true) : kid = 20 := by
  rw [Zaa, if_neg (by omega), if_pos ⟨hk, hi⟩] at h
  simpa using h
section
variable (ns : List Za) (F : List FnT) (gv : Int → ByteArray) (gb : Int → Int → ByteArray) (bv bs : Nat) (hbv : bv ≤ 100000000000) (hbs : bs ≤ 100000000000000000) (a : Nat) (ha : a < ns.length) (i kind num : Int) (name : ByteArray) (kids : List Int) (hX : rd_T62 ns (a : Int) = ⟨kind, num, name, kids⟩) (hnm : name.size ≤ 1048576)
  (hv : 13 ≤ kind ∧ kind ≤ 19) (h1 : 0 < kids.length) (h2 : kind = 16 ∨ kind = 17 → 1 < kids.length) (h3 : kind = 16 → 2 < kids.length)
  (Sv : (gv (rd kids 0)).size ≤ bv) (S1 : kind = 16 ∨ kind = 17 → (gb (rd kids 1) (wrap64 (i + 1))).size ≤ bs) (S2 : kind = 16 → (gb (rd kids 2) (wrap64 (i + 1))).size ≤ bs)
include hnm hv Sv S1 S2
theorem Zij : (Zdk gv gb i kind name kids).size ≤ 2 * bs + bv + 1050000 := by
  have hp := Zek i
  have l2 : (⟨#[59, 10]⟩ : ByteArray).size = 2 := rfl
  have la : (⟨#[32, 61, 32]⟩ : ByteArray).size = 3 := rfl
  have lb : (⟨#[108, 101, 116, 32]⟩ : ByteArray).size = 4 := rfl
  have lc : (⟨#[42]⟩ : ByteArray).size = 1 := rfl
  have ld : (⟨#[112, 114, 105, 110, 116, 32]⟩ : ByteArray).size = 6 := rfl
  have le : (⟨#[100, 111, 32]⟩ : ByteArray).size = 3 := rfl
  have lf : (⟨#[105, 102, 32]⟩ : ByteArray).size = 3 := rfl
  have lg : (⟨#[32, 123, 10]⟩ : ByteArray).size = 3 := rfl
  have lh : (⟨#[125, 32, 101, 108, 115, 101, 32, 123, 10]⟩ : ByteArray).size = 9 := rfl
  have li : (⟨#[125, 10]⟩ : ByteArray).size = 2 := rfl
  have lj : (⟨#[119, 104, 105, 108, 101, 32]⟩ : ByteArray).size = 6 := rfl
  unfold Zdk
  by_cases c13 : kind = 13
  · rw [if_pos c13]
    simp only [ByteArray.size_append]
    omega
  rw [if_neg c13]
  by_cases c14 : kind = 14
  · rw [if_pos c14]
    simp only [ByteArray.size_append]
    omega
  rw [if_neg c14]
  by_cases c15 : kind = 15
  · rw [if_pos c15]
    simp only [ByteArray.size_append]
    omega
  rw [if_neg c15]
  by_cases c18 : kind = 18
  · rw [if_pos c18]
    simp only [ByteArray.size_append]
    omega
  rw [if_neg c18]
  by_cases c19 : kind = 19
  · rw [if_pos c19]
    simp only [ByteArray.size_append]
    omega
  rw [if_neg c19]
  by_cases c16 : kind = 16
  · have z1 := S1 (Or.inl c16)
    have z2 := S2 c16
    rw [if_pos c16]
    simp only [ByteArray.size_append]
    omega
  have z1 := S1 (Or.inr (by omega))
  rw [if_neg c16]
  simp only [ByteArray.size_append]
  omega
include hbv hbs ha hX h1 h2 h3
theorem Zhx (Ev0 : Ev (fun k => spec_l06Value.f k ns (rd kids 0)) (gv (rd kids 0))) (E1 : kind = 16 ∨ kind = 17 → Ev (fun k => spec_l06Block.f k ns (rd kids 1) (wrap64 (i + 1))) (gb (rd kids 1) (wrap64 (i + 1)))) (E2 : kind = 16 → Ev (fun k => spec_l06Block.f k ns (rd kids 2) (wrap64 (i + 1))) (gb (rd kids 2) (wrap64 (i + 1)))) : Ev (fun k => spec_l06Step.f k ns (a : Int) i) (Zdk gv gb i kind name kids) := by
  have q1 : (0 : Int) ≤ (a : Int) := by omega
  have q2 : (a : Int) < (ns.length : Int) := by omega
  have q3 : (0 : Int) < (kids.length : Int) := by omega
  have hp := Zek i
  have l2 : (⟨#[59, 10]⟩ : ByteArray).size = 2 := rfl
  have la : (⟨#[32, 61, 32]⟩ : ByteArray).size = 3 := rfl
  have lb : (⟨#[108, 101, 116, 32]⟩ : ByteArray).size = 4 := rfl
  have lc : (⟨#[42]⟩ : ByteArray).size = 1 := rfl
  have ld : (⟨#[112, 114, 105, 110, 116, 32]⟩ : ByteArray).size = 6 := rfl
  have le : (⟨#[100, 111, 32]⟩ : ByteArray).size = 3 := rfl
  have lf : (⟨#[105, 102, 32]⟩ : ByteArray).size = 3 := rfl
  have lg : (⟨#[32, 123, 10]⟩ : ByteArray).size = 3 := rfl
  have lh : (⟨#[125, 32, 101, 108, 115, 101, 32, 123, 10]⟩ : ByteArray).size = 9 := rfl
  have li : (⟨#[125, 10]⟩ : ByteArray).size = 2 := rfl
  have lj : (⟨#[119, 104, 105, 108, 101, 32]⟩ : ByteArray).size = 6 := rfl
  unfold Zdk
  by_cases c13 : kind = 13
  · rw [if_pos c13]
    refine Zh (Zae i) Ev0 fun k e0 e1 => ?_
    rw [spec_l06Step.f, if_pos q1, if_pos q2, hX]
    simp only
    rw [e0, Option.bind_some, if_pos c13]
    rw [if_pos (by (try simp only [ByteArray.size_append]); omega), if_pos (by (try simp only [ByteArray.size_append]); omega), if_pos (by (try simp only [ByteArray.size_append]); omega), if_pos q3, e1, Option.bind_some, if_pos (by (try simp only [ByteArray.size_append]); omega), if_pos (by (try simp only [ByteArray.size_append]); omega)]
  rw [if_neg c13]
  by_cases c14 : kind = 14
  · rw [if_pos c14]
    refine Zh (Zae i) Ev0 fun k e0 e1 => ?_
    rw [spec_l06Step.f, if_pos q1, if_pos q2, hX]
    simp only
    rw [e0, Option.bind_some, if_neg (by omega), if_pos c14]
    rw [if_pos (by (try simp only [ByteArray.size_append]); omega), if_pos (by (try simp only [ByteArray.size_append]); omega), if_pos q3, e1, Option.bind_some, if_pos (by (try simp only [ByteArray.size_append]); omega), if_pos (by (try simp only [ByteArray.size_append]); omega)]
  rw [if_neg c14]
  by_cases c15 : kind = 15
  · rw [if_pos c15]
    refine Zh (Zae i) Ev0 fun k e0 e1 => ?_
    rw [spec_l06Step.f, if_pos q1, if_pos q2, hX]
    simp only
    rw [e0, Option.bind_some, if_neg (by omega), if_neg (by omega), if_pos c15]
    rw [if_pos (by (try simp only [ByteArray.size_append]); omega), if_pos (by (try simp only [ByteArray.size_append]); omega), if_pos (by (try simp only [ByteArray.size_append]); omega), if_pos q3, e1, Option.bind_some, if_pos (by (try simp only [ByteArray.size_append]); omega), if_pos (by (try simp only [ByteArray.size_append]); omega)]
  rw [if_neg c15]
  by_cases c18 : kind = 18
  · rw [if_pos c18]
    refine Zh (Zae i) Ev0 fun k e0 e1 => ?_
    rw [spec_l06Step.f, if_pos q1, if_pos q2, hX]
    simp only
    rw [e0, Option.bind_some, if_neg (by omega), if_neg (by omega), if_neg (by omega), if_pos c18]
    rw [if_pos (by (try simp only [ByteArray.size_append]); omega), if_pos q3, e1, Option.bind_some, if_pos (by (try simp only [ByteArray.size_append]); omega), if_pos (by (try simp only [ByteArray.size_append]); omega)]
  rw [if_neg c18]
  by_cases c19 : kind = 19
  · rw [if_pos c19]
    refine Zh (Zae i) Ev0 fun k e0 e1 => ?_
    rw [spec_l06Step.f, if_pos q1, if_pos q2, hX]
    simp only
    rw [e0, Option.bind_some, if_neg (by omega), if_neg (by omega), if_neg (by omega), if_neg (by omega), if_pos c19]
    rw [if_pos (by (try simp only [ByteArray.size_append]); omega), if_pos q3, e1, Option.bind_some, if_pos (by (try simp only [ByteArray.size_append]); omega), if_pos (by (try simp only [ByteArray.size_append]); omega)]
  rw [if_neg c19]
  by_cases c16 : kind = 16
  · have z1 := S1 (Or.inl c16)
    have z2 := S2 c16
    have y1 := h2 (Or.inl c16)
    have y2 := h3 c16
    rw [if_pos c16]
    refine Zjq (Zae i) Ev0 (E1 (Or.inl c16)) (E2 c16) fun k e0 e1 e2 e3 => ?_
    rw [spec_l06Step.f, if_pos q1, if_pos q2, hX]
    simp only
    rw [e0, Option.bind_some, if_neg (by omega), if_neg (by omega), if_neg (by omega), if_neg (by omega), if_neg (by omega), if_pos c16]
    rw [if_pos (by (try simp only [ByteArray.size_append]); omega), if_pos q3, e1, Option.bind_some, if_pos (by (try simp only [ByteArray.size_append]); omega), if_pos (by (try simp only [ByteArray.size_append]); omega)]
    rw [if_pos (by omega), e2, Option.bind_some, if_pos (by (try simp only [ByteArray.size_append]); omega), if_pos (by (try simp only [ByteArray.size_append]); omega), if_pos (by (try simp only [ByteArray.size_append]); omega)]
    rw [if_pos (by omega), e3, Option.bind_some, if_pos (by (try simp only [ByteArray.size_append]); omega), if_pos (by (try simp only [ByteArray.size_append]); omega), if_pos (by (try simp only [ByteArray.size_append]); omega)]
  rw [if_neg c16]
  have c17 : kind = 17 := by omega
  have z1 := S1 (Or.inr c17)
  have y1 := h2 (Or.inr c17)
  refine Zdc (Zae i) Ev0 (E1 (Or.inr c17)) fun k e0 e1 e2 => ?_
  rw [spec_l06Step.f, if_pos q1, if_pos q2, hX]
  simp only
  rw [e0, Option.bind_some, if_neg (by omega), if_neg (by omega), if_neg (by omega), if_neg (by omega), if_neg (by omega), if_neg (by omega)]
  rw [if_pos (by (try simp only [ByteArray.size_append]); omega), if_pos q3, e1, Option.bind_some, if_pos (by (try simp only [ByteArray.size_append]); omega), if_pos (by (try simp only [ByteArray.size_append]); omega)]
  rw [if_pos (by omega), e2, Option.bind_some, if_pos (by (try simp only [ByteArray.size_append]); omega), if_pos (by (try simp only [ByteArray.size_append]); omega), if_pos (by (try simp only [ByteArray.size_append]); omega)]
theorem Zhl (Ev0 : Ev (fun k => impl_showValue.f k ns F (rd kids 0)) (gv (rd kids 0))) (E1 : kind = 16 ∨ kind = 17 → Ev (fun k => impl_showSteps.f k ns F (rd kids 1) (wrap64 (i + 1))) (gb (rd kids 1) (wrap64 (i + 1)))) (E2 : kind = 16 → Ev (fun k => impl_showSteps.f k ns F (rd kids 2) (wrap64 (i + 1))) (gb (rd kids 2) (wrap64 (i + 1)))) : Ev (fun k => impl_showStep.f k ns F (a : Int) i) (Zdk gv gb i kind name kids) := by
  have q1 : (0 : Int) ≤ (a : Int) := by omega
  have q2 : (a : Int) < (ns.length : Int) := by omega
  have q3 : (0 : Int) < (kids.length : Int) := by omega
  have hp := Zek i
  have l2 : (⟨#[59, 10]⟩ : ByteArray).size = 2 := rfl
  have la : (⟨#[32, 61, 32]⟩ : ByteArray).size = 3 := rfl
  have lb : (⟨#[108, 101, 116, 32]⟩ : ByteArray).size = 4 := rfl
  have lc : (⟨#[42]⟩ : ByteArray).size = 1 := rfl
  have ld : (⟨#[112, 114, 105, 110, 116, 32]⟩ : ByteArray).size = 6 := rfl
  have le : (⟨#[100, 111, 32]⟩ : ByteArray).size = 3 := rfl
  have lf : (⟨#[105, 102, 32]⟩ : ByteArray).size = 3 := rfl
  have lg : (⟨#[32, 123, 10]⟩ : ByteArray).size = 3 := rfl
  have lh : (⟨#[125, 32, 101, 108, 115, 101, 32, 123, 10]⟩ : ByteArray).size = 9 := rfl
  have li : (⟨#[125, 10]⟩ : ByteArray).size = 2 := rfl
  have lj : (⟨#[119, 104, 105, 108, 101, 32]⟩ : ByteArray).size = 6 := rfl
  unfold Zdk
  by_cases c13 : kind = 13
  · rw [if_pos c13]
    refine Zb Ev0 fun k e1 => ?_
    rw [impl_showStep.f, if_pos q1, if_pos q2, hX]
    simp only
    rw [Zaj, Option.bind_some, if_pos q3, e1, Option.bind_some, if_pos c13]
    rw [if_pos (by (try simp only [ByteArray.size_append]); omega), if_pos (by (try simp only [ByteArray.size_append]); omega), if_pos (by (try simp only [ByteArray.size_append]); omega), if_pos (by (try simp only [ByteArray.size_append]); omega), if_pos (by (try simp only [ByteArray.size_append]); omega)]
  rw [if_neg c13]
  by_cases c14 : kind = 14
  · rw [if_pos c14]
    refine Zb Ev0 fun k e1 => ?_
    rw [impl_showStep.f, if_pos q1, if_pos q2, hX]
    simp only
    rw [Zaj, Option.bind_some, if_pos q3, e1, Option.bind_some, if_neg (by omega), if_pos c14]
    rw [if_pos (by (try simp only [ByteArray.size_append]); omega), if_pos (by (try simp only [ByteArray.size_append]); omega), if_pos (by (try simp only [ByteArray.size_append]); omega), if_pos (by (try simp only [ByteArray.size_append]); omega)]
  rw [if_neg c14]
  by_cases c15 : kind = 15
  · rw [if_pos c15]
    refine Zb Ev0 fun k e1 => ?_
    rw [impl_showStep.f, if_pos q1, if_pos q2, hX]
    simp only
    rw [Zaj, Option.bind_some, if_pos q3, e1, Option.bind_some, if_neg (by omega), if_neg (by omega), if_pos c15]
    rw [if_pos (by (try simp only [ByteArray.size_append]); omega), if_pos (by (try simp only [ByteArray.size_append]); omega), if_pos (by (try simp only [ByteArray.size_append]); omega), if_pos (by (try simp only [ByteArray.size_append]); omega), if_pos (by (try simp only [ByteArray.size_append]); omega)]
  rw [if_neg c15]
  by_cases c18 : kind = 18
  · rw [if_pos c18]
    refine Zb Ev0 fun k e1 => ?_
    rw [impl_showStep.f, if_pos q1, if_pos q2, hX]
    simp only
    rw [Zaj, Option.bind_some, if_pos q3, e1, Option.bind_some, if_neg (by omega), if_neg (by omega), if_neg (by omega), if_neg (by omega), if_neg (by omega), if_pos c18]
    rw [if_pos (by (try simp only [ByteArray.size_append]); omega), if_pos (by (try simp only [ByteArray.size_append]); omega), if_pos (by (try simp only [ByteArray.size_append]); omega)]
  rw [if_neg c18]
  by_cases c19 : kind = 19
  · rw [if_pos c19]
    refine Zb Ev0 fun k e1 => ?_
    rw [impl_showStep.f, if_pos q1, if_pos q2, hX]
    simp only
    rw [Zaj, Option.bind_some, if_pos q3, e1, Option.bind_some, if_neg (by omega), if_neg (by omega), if_neg (by omega), if_neg (by omega), if_neg (by omega), if_neg (by omega)]
    rw [if_pos (by (try simp only [ByteArray.size_append]); omega), if_pos (by (try simp only [ByteArray.size_append]); omega), if_pos (by (try simp only [ByteArray.size_append]); omega)]
  rw [if_neg c19]
  by_cases c16 : kind = 16
  · have z1 := S1 (Or.inl c16)
    have z2 := S2 c16
    have y1 := h2 (Or.inl c16)
    have y2 := h3 c16
    rw [if_pos c16]
    refine Zdc Ev0 (E1 (Or.inl c16)) (E2 c16) fun k e1 e2 e3 => ?_
    rw [impl_showStep.f, if_pos q1, if_pos q2, hX]
    simp only
    rw [Zaj, Option.bind_some, if_pos q3, e1, Option.bind_some, if_neg (by omega), if_neg (by omega), if_neg (by omega), if_pos c16]
    rw [if_pos (by (try simp only [ByteArray.size_append]); omega), if_pos (by (try simp only [ByteArray.size_append]); omega), if_pos (by (try simp only [ByteArray.size_append]); omega)]
    rw [if_pos (by omega), e2, Option.bind_some, if_pos (by (try simp only [ByteArray.size_append]); omega), if_pos (by (try simp only [ByteArray.size_append]); omega), if_pos (by (try simp only [ByteArray.size_append]); omega)]
    rw [if_pos (by omega), e3, Option.bind_some, if_pos (by (try simp only [ByteArray.size_append]); omega), if_pos (by (try simp only [ByteArray.size_append]); omega), if_pos (by (try simp only [ByteArray.size_append]); omega)]
  rw [if_neg c16]
  have c17 : kind = 17 := by omega
  have z1 := S1 (Or.inr c17)
  have y1 := h2 (Or.inr c17)
  refine Zh Ev0 (E1 (Or.inr c17)) fun k e1 e2 => ?_
  rw [impl_showStep.f, if_pos q1, if_pos q2, hX]
  simp only
  rw [Zaj, Option.bind_some, if_pos q3, e1, Option.bind_some, if_neg (by omega), if_neg (by omega), if_neg (by omega), if_neg (by omega), if_pos c17]
  rw [if_pos (by (try simp only [ByteArray.size_append]); omega), if_pos (by (try simp only [ByteArray.size_append]); omega), if_pos (by (try simp only [ByteArray.size_append]); omega)]
  rw [if_pos (by omega), e2, Option.bind_some, if_pos (by (try simp only [ByteArray.size_append]); omega), if_pos (by (try simp only [ByteArray.size_append]); omega), if_pos (by (try simp only [ByteArray.size_append]); omega)]
end
theorem Zey (ns : List Za) (g : Int → ByteArray) (b : Nat) (hb : b ≤ 100000000000000000) (a : Nat) (ha : a < ns.length) (i : Int) (kids : List Int) (hX : (rd_T62 ns (a : Int)).f3 = kids) (hk : kids.length ≤ 12) (Hs : ∀ q : Nat, q < kids.length → (g (rd kids (q : Int))).size ≤ b)
    (H : ∀ q : Nat, q < kids.length → Ev (fun k => spec_l06Step.f k ns (rd kids (q : Int)) i) (g (rd kids (q : Int)))) : ∀ (n p : Nat) (acc : ByteArray), n + p = kids.length → acc.size ≤ p * b →
    Ev (fun k => spec_l06Block.l0 k ns (a : Int) i acc (p : Int)) (blkS g kids n p acc)
  | 0, p, acc, h, hz => by
    refine Zd fun k => ?_
    rw [spec_l06Block.l0, if_pos (by omega), if_pos (by omega), hX, if_neg (by omega), blkS]
  | n + 1, p, acc, h, hz => by
    have hp := Hs p (by omega)
    have q4 : p * b ≤ 12 * b := Nat.mul_le_mul_right _ (by omega)
    have q5 : (p + 1) * b = p * b + b := Nat.succ_mul _ _
    refine Zh (H p (by omega)) (Zey ns g b hb a ha i kids hX hk Hs H n (p + 1) (acc ++ g (rd kids (p : Int))) (by omega) (by rw [ByteArray.size_append]; omega)) fun k e1 e2 => ?_
    rw [spec_l06Block.l0, if_pos (by omega), if_pos (by omega), hX, if_pos (by omega), if_pos (by omega), e1, Option.bind_some, if_pos (by omega), Zf (by omega), e2, blkS]
theorem Zex (ns : List Za) (F : List FnT) (g : Int → ByteArray) (b : Nat) (hb : b ≤ 100000000000000000) (i : Int) (kids : List Int) (hk : kids.length ≤ 12) (Hs : ∀ q : Nat, q < kids.length → (g (rd kids (q : Int))).size ≤ b)
    (H : ∀ q : Nat, q < kids.length → Ev (fun k => impl_showStep.f k ns F (rd kids (q : Int)) i) (g (rd kids (q : Int)))) : ∀ (n p : Nat) (acc : ByteArray), n + p = kids.length → acc.size ≤ p * b →
    Ev (fun k => impl_showSteps.l0 k i acc kids (kids.length : Int) (p : Int) ns F) (blkS g kids n p acc)
  | 0, p, acc, h, hz => by
    refine Zd fun k => ?_
    rw [impl_showSteps.l0, if_neg (by omega), blkS]
  | n + 1, p, acc, h, hz => by
    have hp := Hs p (by omega)
    have q4 : p * b ≤ 12 * b := Nat.mul_le_mul_right _ (by omega)
    have q5 : (p + 1) * b = p * b + b := Nat.succ_mul _ _
    refine Zh (H p (by omega)) (Zex ns F g b hb i kids hk Hs H n (p + 1) (acc ++ g (rd kids (p : Int))) (by omega) (by rw [ByteArray.size_append]; omega)) fun k e1 e2 => ?_
    rw [impl_showSteps.l0, if_pos (by omega), if_pos (by omega), if_pos (by omega), e1, Option.bind_some, if_pos (by omega), Zf (by omega), e2, blkS]
theorem Zif (P : List Za) (a : Nat) (h : Zaf P a) : (13 ≤ (rd_T62 P (a : Int)).f0 ∧ (rd_T62 P (a : Int)).f0 ≤ 19 → 0 < (rd_T62 P (a : Int)).f3.length) ∧ ((rd_T62 P (a : Int)).f0 = 16 ∨ (rd_T62 P (a : Int)).f0 = 17 → 1 < (rd_T62 P (a : Int)).f3.length) ∧ ((rd_T62 P (a : Int)).f0 = 16 → 2 < (rd_T62 P (a : Int)).f3.length) ∧ ((rd_T62 P (a : Int)).f0 = 20 → (rd_T62 P (a : Int)).f3.length ≤ 12) := by
  have S := Zez P a h
  generalize (rd_T62 P (a : Int)).f0 = kind at S ⊢
  generalize (rd_T62 P (a : Int)).f3 = kids at S ⊢
  have s13 : (Zk 13).1 = 1 := by decide
  have s14 : (Zk 14).1 = 1 := by decide
  have s15 : (Zk 15).1 = 1 := by decide
  have s18 : (Zk 18).1 = 1 := by decide
  have s19 : (Zk 19).1 = 1 := by decide
  have s16 : (Zk 16).1 = 3 := by decide
  have s17 : (Zk 17).1 = 2 := by decide
  have s20 : (Zk 20).2 = 12 := by decide
  refine ⟨fun c => ?_, fun c => ?_, fun c => ?_, fun c => ?_⟩
  · rcases (by omega : kind = 13 ∨ kind = 14 ∨ kind = 15 ∨ kind = 16 ∨ kind = 17 ∨ kind = 18 ∨ kind = 19) with c | c | c | c | c | c | c <;> rw [c] at S <;> omega
  · rcases c with c | c <;> rw [c] at S <;> omega
  · rw [c] at S; omega
  · rw [c] at S; omega
theorem Zce (ns : List Za) (F : List FnT) (hP : Zq ns F) : ∀ (d a : Nat), d ≤ 10 → Zaf ns a → Zai ns d (a : Int) →
    (13 ≤ (rd_T62 ns (a : Int)).f0 ∧ (rd_T62 ns (a : Int)).f0 ≤ 19 → ∀ i, Ev (fun k => spec_l06Step.f k ns (a : Int) i) (Zp ns d (a : Int) i) ∧ Ev (fun k => impl_showStep.f k ns F (a : Int) i) (Zp ns d (a : Int) i) ∧ (Zp ns d (a : Int) i).size ≤ bndS d) ∧
    ((rd_T62 ns (a : Int)).f0 = 20 → ∀ i, Ev (fun k => spec_l06Block.f k ns (a : Int) i) (Zp ns d (a : Int) i) ∧ Ev (fun k => impl_showSteps.f k ns F (a : Int) i) (Zp ns d (a : Int) i) ∧ (Zp ns d (a : Int) i).size ≤ bndS d)
  | 0, a, _, _, h => h.elim
  | d + 1, a, hd, ga, hp => by
    have la := Zhm ns a ga
    have hb := Zcr d (by omega)
    have hbs := Zdl d (by omega)
    have hnm : (rd_T62 ns (a : Int)).f2.size ≤ 1048576 := by rw [Zag ns a la]; exact (hP.1.2 _ (List.getElem_mem la)).1
    obtain ⟨f1, f2, f3, f4⟩ := Zif ns a ga
    have kf := Zjh ns a ga
    have ka := Zgy ns a ga
    rw [Zai] at hp
    have W : ∀ q : Nat, q < (rd_T62 ns (a : Int)).f3.length → 1 ≤ (rd_T62 ns (rd (rd_T62 ns (a : Int)).f3 (q : Int))).f0 ∧ (rd_T62 ns (rd (rd_T62 ns (a : Int)).f3 (q : Int))).f0 ≤ 12 → Ev (fun k => spec_l06Value.f k ns (rd (rd_T62 ns (a : Int)).f3 (q : Int))) (Zu ns d (rd (rd_T62 ns (a : Int)).f3 (q : Int))) ∧ Ev (fun k => impl_showValue.f k ns F (rd (rd_T62 ns (a : Int)).f3 (q : Int))) (Zu ns d (rd (rd_T62 ns (a : Int)).f3 (q : Int))) ∧ (Zu ns d (rd (rd_T62 ns (a : Int)).f3 (q : Int))).size ≤ bnd d := fun q hq hv => by
      obtain ⟨m, e1, l1, g1⟩ := ka q hq
      have hp' := hp q hq
      rw [e1] at hp' hv ⊢
      exact Zbg ns F hP d m (by omega) g1 hp' hv
    have T : ∀ q : Nat, q < (rd_T62 ns (a : Int)).f3.length → (13 ≤ (rd_T62 ns (rd (rd_T62 ns (a : Int)).f3 (q : Int))).f0 ∧ (rd_T62 ns (rd (rd_T62 ns (a : Int)).f3 (q : Int))).f0 ≤ 19 → ∀ i, Ev (fun k => spec_l06Step.f k ns (rd (rd_T62 ns (a : Int)).f3 (q : Int)) i) (Zp ns d (rd (rd_T62 ns (a : Int)).f3 (q : Int)) i) ∧ Ev (fun k => impl_showStep.f k ns F (rd (rd_T62 ns (a : Int)).f3 (q : Int)) i) (Zp ns d (rd (rd_T62 ns (a : Int)).f3 (q : Int)) i) ∧ (Zp ns d (rd (rd_T62 ns (a : Int)).f3 (q : Int)) i).size ≤ bndS d) ∧
      ((rd_T62 ns (rd (rd_T62 ns (a : Int)).f3 (q : Int))).f0 = 20 → ∀ i, Ev (fun k => spec_l06Block.f k ns (rd (rd_T62 ns (a : Int)).f3 (q : Int)) i) (Zp ns d (rd (rd_T62 ns (a : Int)).f3 (q : Int)) i) ∧ Ev (fun k => impl_showSteps.f k ns F (rd (rd_T62 ns (a : Int)).f3 (q : Int)) i) (Zp ns d (rd (rd_T62 ns (a : Int)).f3 (q : Int)) i) ∧ (Zp ns d (rd (rd_T62 ns (a : Int)).f3 (q : Int)) i).size ≤ bndS d) := fun q hq => by
      obtain ⟨m, e1, l1, g1⟩ := ka q hq
      have hp' := hp q hq
      rw [e1] at hp' ⊢
      exact Zce ns F hP d m (by omega) g1 hp'
    refine ⟨fun hv i => ?_, fun hv i => ?_⟩
    · have K0 := Ziv _ _ hv (kf 0 (f1 hv))
      have W0 := W 0 (f1 hv) K0
      have T1 : (rd_T62 ns (a : Int)).f0 = 16 ∨ (rd_T62 ns (a : Int)).f0 = 17 → _ := fun c => (T 1 (f2 c)).2 (Zgv _ _ _ c (by omega) (kf 1 (f2 c))) (wrap64 (i + 1))
      have T2 : (rd_T62 ns (a : Int)).f0 = 16 → _ := fun c => (T 2 (f3 c)).2 (Zgv _ _ _ (Or.inl c) (by omega) (kf 2 (f3 c))) (wrap64 (i + 1))
      have f1' := f1 hv
      rw [Zp, if_neg (by omega), bndS]
      clear W T kf ka hp f1 f4 K0
      generalize hX : rd_T62 ns (a : Int) = X at hnm f1' f2 f3 hv W0 T1 T2
      obtain ⟨kind, num, name, kids⟩ := X
      refine ⟨Zhx ns (Zu ns d) (Zp ns d) (bnd d) (bndS d) hb hbs a la i kind num name kids hX hnm hv f1' f2 f3 W0.2.2 (fun c => (T1 c).2.2) (fun c => (T2 c).2.2) W0.1 (fun c => (T1 c).1) (fun c => (T2 c).1),
        Zhl ns F (Zu ns d) (Zp ns d) (bnd d) (bndS d) hb hbs a la i kind num name kids hX hnm hv f1' f2 f3 W0.2.2 (fun c => (T1 c).2.2) (fun c => (T2 c).2.2) W0.2.1 (fun c => (T1 c).2.1) (fun c => (T2 c).2.1), ?_⟩
      refine Nat.le_trans (Zij (Zu ns d) (Zp ns d) (bnd d) (bndS d) i kind name kids hnm hv W0.2.2 (fun c => (T1 c).2.2) (fun c => (T2 c).2.2)) ?_
      omega
    · have hk := f4 hv
      have Tq : ∀ q : Nat, q < (rd_T62 ns (a : Int)).f3.length → _ := fun q hq => (T q hq).1 (Ziy _ _ (by rw [← hv]; exact kf q hq)) i
      rw [Zp, if_pos hv, bndS]
      clear W T kf ka hp f1 f2 f3
      generalize hX : (rd_T62 ns (a : Int)).f3 = kids at hk Tq
      refine ⟨?_, ?_, ?_⟩
      · refine Zb (Zey ns (fun c => Zp ns d c i) (bndS d) hbs a la i kids hX hk (fun q hq => (Tq q hq).2.2) (fun q hq => (Tq q hq).1) kids.length 0 (⟨#[]⟩ : ByteArray) (by omega) (by show 0 ≤ _; omega)) fun k e => ?_
        rw [spec_l06Block.f]
        exact e
      · refine Zb (Zex ns F (fun c => Zp ns d c i) (bndS d) hbs i kids hk (fun q hq => (Tq q hq).2.2) (fun q hq => (Tq q hq).2.1) kids.length 0 (⟨#[]⟩ : ByteArray) (by omega) (by show 0 ≤ _; omega)) fun k e => ?_
        rw [impl_showSteps.f, if_pos (by omega), if_pos (by omega), hX]
        exact e
      · have := Zgt (fun c => Zp ns d c i) kids (bndS d) kids.length 0 (⟨#[]⟩ : ByteArray) (by omega) (fun q hq => (Tq q hq).2.2)
        have q4 : kids.length * bndS d ≤ 12 * bndS d := Nat.mul_le_mul_right _ hk
        have q5 : (⟨#[]⟩ : ByteArray).size = 0 := rfl
        omega
def Zap (s : ByteArray) : List FnT → Nat → Int
  | [], _ => -1
  | f :: r, i => if f.f0.toList = s.toList then (i : Int) else Zap s r (i + 1)
theorem Zec (s : ByteArray) (ns : List Za) (l : List FnT) (hl : l.length ≤ 1048576) : ∀ (d i : Nat), i + d = l.length → Ev (fun k => spec_FnAt.l0 k s (i : Int) ns l) (Zap s (l.drop i) i)
  | 0, i, h => Zd fun k => by rw [spec_FnAt.l0, if_neg (by omega), List.drop_eq_nil_of_le (by omega)]; rfl
  | d + 1, i, h => Zb (Zec s ns l hl d (i + 1) (by omega)) fun k e => by
    have hi : i < l.length := by omega
    rw [spec_FnAt.l0, if_pos (by omega), if_pos (by omega), Zbw l i hi, Zf (by omega), List.drop_eq_getElem_cons hi, Zap, e]
    split <;> rfl
theorem Zej (s : ByteArray) (l : List FnT) (hl : l.length ≤ 1048576) : ∀ (d i : Nat), i + d = l.length → Ev (fun k => impl_FnAt.l0 k s l (l.length : Int) (i : Int)) (Zap s (l.drop i) i)
  | 0, i, h => Zd fun k => by rw [impl_FnAt.l0, if_neg (by omega), List.drop_eq_nil_of_le (by omega)]; rfl
  | d + 1, i, h => Zb (Zej s l hl d (i + 1) (by omega)) fun k e => by
    have hi : i < l.length := by omega
    rw [impl_FnAt.l0, if_pos (by omega), if_pos (by omega), if_pos (by omega), Zbw l i hi, Zf (by omega), List.drop_eq_getElem_cons hi, Zap, e]
    split <;> rfl
theorem Zhv (s : ByteArray) (ns : List Za) (l : List FnT) (hl : l.length ≤ 1048576) : Ev (fun k => spec_FnAt.f k ns l s) (Zap s l 0) :=
  Zj (Zec s ns l hl l.length 0 (by omega)) fun k e => e
theorem Zhh (s : ByteArray) (ns : List Za) (l : List FnT) (hl : l.length ≤ 1048576) : Ev (fun k => impl_FnAt.f k ns l s) (Zap s l 0) :=
  Zj (Zej s l hl l.length 0 (by omega)) fun k e => e

/-! counting how often a node is a kid -/
theorem Zat (xs : List Int) (v : Int) (a : Nat) (h : a < xs.length) : rd (xs.set a v) (a : Int) = v := by
  rw [Zbf _ a (by rw [List.length_set]; exact h), List.getElem_set_self]
theorem Zau (xs : List Int) (v : Int) (a j : Nat) (h : a ≠ j) : rd (xs.set a v) (j : Int) = rd xs (j : Int) := by
  unfold rd
  rw [Int.toNat_natCast, List.getD_eq_getElem?_getD, List.getD_eq_getElem?_getD, List.getElem?_set_ne h]
def Zy (kids : List Int) : List Int → Nat → Nat → List Int
  | M, 0, _ => M
  | M, n + 1, p => Zy kids (M.set (rd kids (p : Int)).toNat (wrap64 (rd M (rd kids (p : Int)) + 1))) n (p + 1)
def Zr (P : List Za) : List Int → Nat → Nat → List Int
  | M, 0, _ => M
  | M, n + 1, i => Zr P (Zy (rd_T62 P (i : Int)).f3 M (rd_T62 P (i : Int)).f3.length 0) n (i + 1)
theorem Zao (kids : List Int) : ∀ (n p : Nat) (M : List Int), (Zy kids M n p).length = M.length
  | 0, _, M => rfl
  | n + 1, p, M => by rw [Zy, Zao kids n (p + 1), List.length_set]
theorem Zew (kids : List Int) (j : Nat) : ∀ (n p : Nat) (M : List Int), (∀ q : Nat, p ≤ q → q < p + n → 0 ≤ rd kids (q : Int) ∧ rd kids (q : Int) ≠ (j : Int)) → rd (Zy kids M n p) (j : Int) = rd M (j : Int)
  | 0, _, M, _ => rfl
  | n + 1, p, M, h => by
    have h0 := h p (by omega) (by omega)
    rw [Zy, Zew kids j n (p + 1) _ (fun q h1 h2 => h q (by omega) (by omega)), Zau _ _ _ _ (by omega)]
theorem Zfz (kids : List Int) (L B : Nat) (hB : B < 1000000) (j : Nat) : ∀ (n p : Nat) (M : List Int), M.length = L →
    (∀ q : Nat, p ≤ q → q < p + n → 0 ≤ rd kids (q : Int) ∧ rd kids (q : Int) < (L : Int)) → (∀ q q' : Nat, p ≤ q → q < q' → q' < p + n → rd kids (q : Int) ≠ rd kids (q' : Int)) → (0 ≤ rd M (j : Int) ∧ rd M (j : Int) ≤ (B : Int)) →
    0 ≤ rd (Zy kids M n p) (j : Int) ∧ rd (Zy kids M n p) (j : Int) ≤ (B : Int) + 1
  | 0, _, M, _, _, _, h => by rw [Zy]; omega
  | n + 1, p, M, hl, hr, hd, h => by
    have h0 := hr p (by omega) (by omega)
    obtain ⟨a, ha⟩ := Int.eq_ofNat_of_zero_le h0.1
    rw [Zy, ha, Int.toNat_natCast]
    by_cases c : a = j
    · subst c
      rw [Zew kids a n (p + 1) _ (fun q h1 h2 => ⟨(hr q (by omega) (by omega)).1, fun e => hd p q (by omega) (by omega) (by omega) (by rw [ha, e])⟩), Zat _ _ _ (by omega), Zm (by omega) (by omega)]
      omega
    · exact Zfz kids L B hB j n (p + 1) _ (by rw [List.length_set]; exact hl) (fun q h1 h2 => hr q (by omega) (by omega)) (fun q q' h1 h2 h3 => hd q q' (by omega) h2 (by omega)) (by rw [Zau _ _ _ _ c]; exact h)
theorem Zfw (kids : List Int) (v : Int) : ∀ n j : Nat, dupR kids v n j = false → ∀ q : Nat, j ≤ q → q < j + n → v ≠ rd kids (q : Int)
  | 0, j, _, q, h1, h2 => by omega
  | n + 1, j, h, q, h1, h2 => by
    rw [dupR] at h
    by_cases c : v = rd kids (j : Int)
    · rw [if_pos c] at h; cases h
    · rw [if_neg c] at h
      by_cases e : q = j
      · subst e; exact c
      · exact Zfw kids v n (j + 1) h q (by omega) (by omega)
theorem Zhn (ns : List Za) (K kind : Int) (kids : List Int) : ∀ n p : Nat, Zs ns K kind kids n p = true → ∀ q q' : Nat, q < q' → p ≤ q' → q' < p + n → rd kids (q : Int) ≠ rd kids (q' : Int)
  | 0, p, _, q, q', h1, h2, h3 => by omega
  | n + 1, p, h, q, q', h1, h2, h3 => by
    rw [Zs] at h
    simp only [Bool.and_eq_true, Bool.not_eq_true'] at h
    by_cases e : q' = p
    · subst e
      exact fun x => Zfw kids _ q' 0 h.1.2 q (by omega) (by omega) x.symm
    · exact Zhn ns K kind kids n (p + 1) h.2 q q' h1 (by omega) (by omega)
theorem Zim (ns : List Za) (i : Nat) (h : Zi ns (i : Int) = true) : ∀ q q' : Nat, q < q' → q' < (rd_T62 ns (i : Int)).f3.length → rd (rd_T62 ns (i : Int)).f3 (q : Int) ≠ rd (rd_T62 ns (i : Int)).f3 (q' : Int) := by
  intro q q' h1 h2
  unfold Zi at h
  simp only [Bool.and_eq_true] at h
  exact Zhn ns _ _ _ _ 0 h.2.2.2.2.2 q q' h1 (by omega) (by omega)
theorem Zdh (P : List Za) : ∀ (n i : Nat) (M : List Int), (Zr P M n i).length = M.length
  | 0, _, M => rfl
  | n + 1, i, M => by rw [Zr, Zdh P n (i + 1), Zao]
theorem Zgw (P : List Za) (j : Nat) : ∀ (n i : Nat) (M : List Int), i + n ≤ P.length → P.length ≤ 300 → (∀ q : Nat, q < i + n → Zi P (q : Int) = true) → M.length = P.length → (0 ≤ rd M (j : Int) ∧ rd M (j : Int) ≤ (i : Int)) →
    0 ≤ rd (Zr P M n i) (j : Int) ∧ rd (Zr P M n i) (j : Int) ≤ ((i + n : Nat) : Int)
  | 0, i, M, _, _, _, _, h => by rw [Zr]; omega
  | n + 1, i, M, hi, hP, hg, hl, h => by
    have g := hg i (by omega)
    have k1 := Zw P i g
    have k2 := Zim P i g
    have b := Zfz (rd_T62 P (i : Int)).f3 P.length i (by omega) j (rd_T62 P (i : Int)).f3.length 0 M hl (fun q _ h2 => ⟨(k1 q (by omega)).1, by have := (k1 q (by omega)).2; omega⟩) (fun q q' _ h2 h3 => k2 q q' h2 (by omega)) h
    rw [Zr]
    have r := Zgw P j n (i + 1) _ (by omega) hP (fun q hq => hg q (by omega)) (by rw [Zao]; exact hl) ⟨b.1, by omega⟩
    rw [show i + 1 + n = i + (n + 1) by omega] at r
    exact r
/-! the functions -/
def Zx (xs : List ParT) : Nat → Nat → Bool
  | 0, _ => true
  | n + 1, p => Zo (rd_T58 xs (p : Int)).f0 && (inB (rd_T58 xs (p : Int)).f1 1 4 && Zx xs n (p + 1))
def Zfs (P : List Za) (b : Int) : Bool := inB b 0 ((P.length : Int) - 1) && (rd_T62 P b).f0 == 20
def retV (P : List Za) (res r : Int) : Bool := if res = 0 then r == -1 else inB r 0 ((P.length : Int) - 1) && inB (rd_T62 P r).f0 1 12
def Zbn (P : List Za) (X : FnT) : Bool := Zfs P X.f3 && retV P X.f2 X.f4
def Zdi (P : List Za) (X : FnT) : Bool := Zo X.f0 && (decide (X.f1.length ≤ 3) && (inB X.f2 0 2 && (Zx X.f1 X.f1.length 0 && Zbn P X)))
def fnV (P : List Za) (F : List FnT) (i : Nat) : Bool := Zdi P (rd_T56 F (i : Int)) && (Zap (rd_T56 F (i : Int)).f0 F 0 == (i : Int))
theorem Zil (P : List Za) (F : List FnT) (hn : P.length ≤ 1048576) (X : FnT) : Ev (fun k => impl_fnOk.j2 k false P F X.f0 X.f1 X.f2 X.f3 X.f4) (retV P X.f2 X.f4) := by
  have w1 : wrap64 ((P.length : Int) - 1) = (P.length : Int) - 1 := Zm (by omega) (by omega)
  refine Zd fun k => ?_
  unfold retV inB
  rw [impl_fnOk.j2, if_neg (by decide)]
  by_cases c : X.f2 = 0
  · rw [if_pos c, if_pos c]
  · rw [if_neg c, if_neg c, w1, Ze, Option.bind_some]
    by_cases h : 0 ≤ X.f4 ∧ X.f4 ≤ (P.length : Int) - 1
    · rw [decide_eq_true h, if_pos rfl, if_pos h.1, if_pos (by omega), impl_isValue.f, Ze]
      rfl
    · rw [decide_eq_false h, if_neg (by decide)]
      rfl
theorem Zin (P : List Za) (F : List FnT) (hn : P.length ≤ 1048576) (X : FnT) : Ev (fun k => spec_l04Fn.j2 k false P F X.f0 X.f1 X.f2 X.f3 X.f4) (retV P X.f2 X.f4) := by
  have w1 : wrap64 ((P.length : Int) - 1) = (P.length : Int) - 1 := Zm (by omega) (by omega)
  refine Zd fun k => ?_
  unfold retV inB
  rw [spec_l04Fn.j2, if_neg (by decide)]
  by_cases c : X.f2 = 0
  · rw [if_pos c, if_pos c]
  · rw [if_neg c, if_neg c, w1, Zc, Option.bind_some]
    by_cases h : 0 ≤ X.f4 ∧ X.f4 ≤ (P.length : Int) - 1
    · rw [decide_eq_true h, if_pos rfl, if_pos h.1, if_pos (by omega), spec_l04Value.f, Zc]
      rfl
    · rw [decide_eq_false h, if_neg (by decide)]
      rfl
theorem Zfl (P : List Za) (F : List FnT) (hn : P.length ≤ 1048576) (X : FnT) (hk : X.f1.length ≤ 1048576) : ∀ n p : Nat, X.f1.length - p = n → p ≤ X.f1.length →
    Ev (fun k => impl_fnOk.l0 k X.f1 (X.f1.length : Int) (p : Int) P F X.f0 X.f1 X.f2 X.f3 X.f4) (Zx X.f1 n p && Zbn P X)
  | 0, p, h1, h2 => by
    have w1 : wrap64 ((P.length : Int) - 1) = (P.length : Int) - 1 := Zm (by omega) (by omega)
    have jt : Ev (fun k => impl_fnOk.j2 k true P F X.f0 X.f1 X.f2 X.f3 X.f4) false := Zd fun k => by rw [impl_fnOk.j2, if_pos rfl]
    refine Zh (Zil P F hn X) jt fun k e1 e2 => ?_
    unfold Zbn Zfs inB
    rw [impl_fnOk.l0, if_neg (by omega), w1, Ze, Option.bind_some, Zx]
    by_cases h : 0 ≤ X.f3 ∧ X.f3 ≤ (P.length : Int) - 1
    · rw [decide_eq_true h, if_pos rfl, if_pos h.1, if_pos (by omega)]
      cases hz : (rd_T62 P X.f3).f0 == 20 with
      | true => rw [bne, hz]; exact e1
      | false => rw [bne, hz]; exact e2
    · rw [decide_eq_false h, if_neg (by decide)]
      exact e2
  | n + 1, p, h1, h2 => by
    have q1 : (p : Int) < (X.f1.length : Int) := by omega
    have q2 : (0 : Int) ≤ (p : Int) := by omega
    refine Zh (Zba (rd_T58 X.f1 (p : Int)).f0) (Zfl P F hn X hk n (p + 1) (by omega) (by omega)) fun k e1 e2 => ?_
    rw [impl_fnOk.l0, if_pos q1, if_pos q2, if_pos q1, e1, Option.bind_some, Ze, Option.bind_some, Zf (by omega), e2, Zx]
    unfold inB
    cases Zo (rd_T58 X.f1 (p : Int)).f0 <;> cases decide (1 ≤ (rd_T58 X.f1 (p : Int)).f1 ∧ (rd_T58 X.f1 (p : Int)).f1 ≤ 4) <;> rfl
theorem Zfr (P : List Za) (F : List FnT) (hn : P.length ≤ 1048576) (X : FnT) (hk : X.f1.length ≤ 1048576) : ∀ n p : Nat, X.f1.length - p = n → p ≤ X.f1.length →
    Ev (fun k => spec_l04Fn.l0 k (p : Int) P F X.f0 X.f1 X.f2 X.f3 X.f4) (Zx X.f1 n p && Zbn P X)
  | 0, p, h1, h2 => by
    have w1 : wrap64 ((P.length : Int) - 1) = (P.length : Int) - 1 := Zm (by omega) (by omega)
    have jt : Ev (fun k => spec_l04Fn.j2 k true P F X.f0 X.f1 X.f2 X.f3 X.f4) false := Zd fun k => by rw [spec_l04Fn.j2, if_pos rfl]
    refine Zh (Zin P F hn X) jt fun k e1 e2 => ?_
    unfold Zbn Zfs inB
    rw [spec_l04Fn.l0, if_neg (by omega), w1, Zc, Option.bind_some, Zx]
    by_cases h : 0 ≤ X.f3 ∧ X.f3 ≤ (P.length : Int) - 1
    · rw [decide_eq_true h, if_pos rfl, if_pos h.1, if_pos (by omega)]
      cases hz : (rd_T62 P X.f3).f0 == 20 with
      | true => rw [bne, hz]; exact e1
      | false => rw [bne, hz]; exact e2
    · rw [decide_eq_false h, if_neg (by decide)]
      exact e2
  | n + 1, p, h1, h2 => by
    have q1 : (p : Int) < (X.f1.length : Int) := by omega
    have q2 : (0 : Int) ≤ (p : Int) := by omega
    refine Zh (Zay (rd_T58 X.f1 (p : Int)).f0) (Zfr P F hn X hk n (p + 1) (by omega) (by omega)) fun k e1 e2 => ?_
    rw [spec_l04Fn.l0, if_pos q1, if_pos q2, e1, Option.bind_some, Zc, Option.bind_some, Zf (by omega), e2, Zx]
    unfold inB
    cases Zo (rd_T58 X.f1 (p : Int)).f0 <;> cases decide (1 ≤ (rd_T58 X.f1 (p : Int)).f1 ∧ (rd_T58 X.f1 (p : Int)).f1 ≤ 4) <;> rfl
theorem Zii (P : List Za) (F : List FnT) (hn : P.length ≤ 1048576) (X : FnT) (hk : X.f1.length ≤ 1048576) : Ev (fun k => impl_fnOk.f k P F X.f0 X.f1 X.f2 X.f3 X.f4) (Zdi P X) := by
  have hN := Zba X.f0
  have jt : Ev (fun k => impl_fnOk.j0 k true P F X.f0 X.f1 X.f2 X.f3 X.f4) false := Zd fun k => by rw [impl_fnOk.j0, if_pos rfl]
  have jf : Ev (fun k => impl_fnOk.j0 k false P F X.f0 X.f1 X.f2 X.f3 X.f4) (Zx X.f1 X.f1.length 0 && Zbn P X) := Zb (Zfl P F hn X hk X.f1.length 0 rfl (by omega)) fun k e => by rw [impl_fnOk.j0, if_neg (by decide)]; exact e
  refine Zjf hN jt jf fun k e1 e2 e3 => ?_
  rw [impl_fnOk.f, e1, Option.bind_some, Zdi, e2, e3]
  cases Zo X.f0 with
  | false => rfl
  | true =>
    rw [if_pos rfl, Bool.true_and]
    by_cases c : X.f1.length ≤ 3
    · rw [if_neg (by omega), decide_eq_true c, Bool.true_and]
      unfold inB
      by_cases c0 : X.f2 = 0
      · rw [if_pos c0, decide_eq_true (by omega)]; rfl
      · by_cases c1 : X.f2 = 1
        · rw [if_neg c0, if_pos c1, decide_eq_true (by omega)]; rfl
        · rw [if_neg c0, if_neg c1]
          by_cases c2 : X.f2 = 2
          · rw [show (X.f2 != 2) = false by simp [c2], decide_eq_true (by omega), e3]; rfl
          · rw [show (X.f2 != 2) = true by simp [c2], decide_eq_false (by omega), e2]; rfl
    · rw [if_pos (by omega), decide_eq_false c]; rfl
theorem Zip (P : List Za) (F : List FnT) (hn : P.length ≤ 1048576) (hF : F.length ≤ 1048576) (i : Nat) (hi : i < F.length) (hk : (rd_T56 F (i : Int)).f1.length ≤ 1048576) : Ev (fun k => spec_l04Fn.f k P F (i : Int)) (fnV P F i) := by
  have hA := Zhv (rd_T56 F (i : Int)).f0 P F hF
  have q1 : (0 : Int) ≤ (i : Int) := by omega
  have q2 : (i : Int) < (F.length : Int) := by omega
  unfold fnV
  generalize hX : rd_T56 F (i : Int) = X at hk hA
  have hN := Zay X.f0
  have jt : Ev (fun k => spec_l04Fn.j0 k true P F X.f0 X.f1 X.f2 X.f3 X.f4) false := Zd fun k => by rw [spec_l04Fn.j0, if_pos rfl]
  have jf : Ev (fun k => spec_l04Fn.j0 k false P F X.f0 X.f1 X.f2 X.f3 X.f4) (Zx X.f1 X.f1.length 0 && Zbn P X) := Zb (Zfr P F hn X hk X.f1.length 0 rfl (by omega)) fun k e => by rw [spec_l04Fn.j0, if_neg (by decide)]; exact e
  refine Zjf (Zji hN hA) jt jf fun k e e2 e3 => ?_
  have e1 := Ziq e
  have e4 := Zir e
  rw [spec_l04Fn.f, if_pos q1, if_pos q2, hX, e1, Option.bind_some, Zdi, e2, e4, Option.bind_some]
  cases Zo X.f0 with
  | false => rfl
  | true =>
    rw [if_pos rfl, Bool.true_and]
    by_cases d : Zap X.f0 F 0 = (i : Int)
    · rw [if_pos d, beq_iff_eq.mpr d, Bool.and_true]
      by_cases c : X.f1.length ≤ 3
      · rw [if_neg (by omega), decide_eq_true c, Bool.true_and, Zc, Option.bind_some]
        unfold inB
        cases decide (0 ≤ X.f2 ∧ X.f2 ≤ 2) with
        | true => exact e3
        | false => exact e2
      · rw [if_pos (by omega), decide_eq_false c]; rfl
    · rw [if_neg d, beq_eq_false_iff_ne.mpr d, Bool.and_false]
/-! the roots -/
def allU (U : List Int) : Nat → Nat → Bool
  | 0, _ => true
  | n + 1, p => if rd U (p : Int) = 1 then allU U n (p + 1) else if rd U (p : Int) = 1000 then allU U n (p + 1) else false
def allM (M : List Int) : Nat → Nat → Bool
  | 0, _ => true
  | n + 1, p => if rd M (p : Int) = 1 then allM M n (p + 1) else if rd M (p : Int) = -1 then allM M n (p + 1) else false
def Zz (P : List Za) (F : List FnT) : Nat → Nat → List Int → Bool
  | 0, _, U => allU U U.length 0
  | n + 1, i, U => fnV P F i && (let b := (rd_T56 F (i : Int)).f3; let r := (rd_T56 F (i : Int)).f4; let U1 := U.set b.toNat (wrap64 (rd U b + 1000)); if r ≥ 0 then Zz P F n (i + 1) (U1.set r.toNat (wrap64 (rd U1 r + 1000))) else Zz P F n (i + 1) U1)
def metR (P : List Za) (F : List FnT) : Nat → Nat → List Int → Bool
  | 0, _, M => allM M M.length 0
  | n + 1, i, M => fnV P F i && (let b := (rd_T56 F (i : Int)).f3; let r := (rd_T56 F (i : Int)).f4; if rd M b = 0 then (let M1 := M.set b.toNat (-1); if r < 0 then metR P F n (i + 1) M1 else if rd M1 r = 0 then metR P F n (i + 1) (M1.set r.toNat (-1)) else false) else false)
theorem Zcc (P : List Za) (F : List FnT) (i : Nat) (h : fnV P F i = true) : (∃ b : Nat, (rd_T56 F (i : Int)).f3 = (b : Int) ∧ b < P.length) ∧ ((rd_T56 F (i : Int)).f4 < 0 ∨ ∃ r : Nat, (rd_T56 F (i : Int)).f4 = (r : Int) ∧ r < P.length) := by
  unfold fnV Zdi Zbn Zfs retV inB at h
  simp only [Bool.and_eq_true, decide_eq_true_eq] at h
  obtain ⟨⟨_, _, _, _, ⟨hb, _⟩, hr⟩, _⟩ := h
  refine ⟨?_, ?_⟩
  · obtain ⟨b, e⟩ := Int.eq_ofNat_of_zero_le hb.1
    exact ⟨b, e, by omega⟩
  · by_cases c : (rd_T56 F (i : Int)).f2 = 0
    · rw [if_pos c] at hr
      have := eq_of_beq hr
      left; omega
    · rw [if_neg c] at hr
      simp only [Bool.and_eq_true, decide_eq_true_eq] at hr
      obtain ⟨r, e⟩ := Int.eq_ofNat_of_zero_le hr.1.1
      exact .inr ⟨r, e, by omega⟩
theorem Zhj (U : List Int) (j : Nat) (hj : 1000 < rd U (j : Int)) : ∀ n p : Nat, p ≤ j → j < p + n → allU U n p = false
  | 0, p, h1, h2 => by omega
  | n + 1, p, h1, h2 => by
    rw [allU]
    by_cases e : p = j
    · subst e
      rw [if_neg (by omega), if_neg (by omega)]
    · rw [Zhj U j hj n (p + 1) (by omega) (by omega)]
      split
      · rfl
      · split <;> rfl
def bdU (U : List Int) (i : Nat) : Prop := ∀ j : Nat, 0 ≤ rd U (j : Int) ∧ rd U (j : Int) ≤ 1000 + 2000 * (i : Int)
theorem Zcx (U : List Int) (b : Nat) (hb : b < U.length) (B : Int) (hB : B ≤ 1000000000) (h : ∀ j : Nat, 0 ≤ rd U (j : Int) ∧ rd U (j : Int) ≤ B) :
    (∀ j : Nat, 0 ≤ rd (U.set b (wrap64 (rd U (b : Int) + 1000))) (j : Int) ∧ rd (U.set b (wrap64 (rd U (b : Int) + 1000))) (j : Int) ≤ B + 1000) ∧ (∀ j : Nat, rd U (j : Int) ≤ rd (U.set b (wrap64 (rd U (b : Int) + 1000))) (j : Int)) ∧ rd (U.set b (wrap64 (rd U (b : Int) + 1000))) (b : Int) = rd U (b : Int) + 1000 := by
  have h0 := h b
  have e : wrap64 (rd U (b : Int) + 1000) = rd U (b : Int) + 1000 := Zm (by omega) (by omega)
  rw [e]
  refine ⟨fun j => ?_, fun j => ?_, Zat U _ b hb⟩
  · by_cases c : b = j
    · subst c; rw [Zat U _ b hb]; omega
    · rw [Zau U _ b j c]; have := h j; omega
  · by_cases c : b = j
    · subst c; rw [Zat U _ b hb]; omega
    · rw [Zau U _ b j c]; omega
theorem Zbj (P : List Za) (F : List FnT) : ∀ (n i : Nat) (U : List Int), i + n ≤ 1000 → U.length = P.length → bdU U i → (∃ j : Nat, j < P.length ∧ 1000 < rd U (j : Int)) → Zz P F n i U = false
  | 0, i, U, _, hl, _, ⟨j, hj, h⟩ => by rw [Zz]; exact Zhj U j h U.length 0 (by omega) (by omega)
  | n + 1, i, U, hi, hl, hb, ⟨j, hj, h⟩ => by
    rw [Zz]
    cases f : fnV P F i with
    | false => rfl
    | true =>
      obtain ⟨⟨b, eb, lb⟩, hr⟩ := Zcc P F i f
      rw [Bool.true_and, eb]
      simp only [Int.toNat_natCast]
      obtain ⟨p1, p2, _⟩ := Zcx U b (by omega) (1000 + 2000 * (i : Int)) (by omega) hb
      have l1 : (U.set b (wrap64 (rd U (b : Int) + 1000))).length = P.length := by rw [List.length_set]; exact hl
      generalize U.set b (wrap64 (rd U (b : Int) + 1000)) = U1 at p1 p2 l1
      have j1 := p2 j
      rcases hr with hr | ⟨r, er, lr⟩
      · rw [if_neg (by omega)]
        exact Zbj P F n (i + 1) U1 (by omega) l1 (fun q => by have := p1 q; omega) ⟨j, hj, by omega⟩
      · rw [er, if_pos (by omega), Int.toNat_natCast]
        obtain ⟨s1, s2, _⟩ := Zcx U1 r (by omega) (1000 + 2000 * (i : Int) + 1000) (by omega) p1
        have l2 : (U1.set r (wrap64 (rd U1 (r : Int) + 1000))).length = P.length := by rw [List.length_set]; exact l1
        generalize U1.set r (wrap64 (rd U1 (r : Int) + 1000)) = U2 at s1 s2 l2
        have j2 := s2 j
        exact Zbj P F n (i + 1) U2 (by omega) l2 (fun q => by have := s1 q; omega) ⟨j, hj, by omega⟩
def Zhg (M U : List Int) (L : Nat) : Prop := ∀ j : Nat, j < L → (rd M (j : Int) = rd U (j : Int) ∧ 0 ≤ rd U (j : Int) ∧ rd U (j : Int) ≤ 300) ∨ (rd M (j : Int) = -1 ∧ rd U (j : Int) = 1000)
theorem Zjd (M U : List Int) (L : Nat) (h : Zhg M U L) : ∀ n p : Nat, p + n = L → allM M n p = allU U n p
  | 0, p, _ => rfl
  | n + 1, p, e => by
    rw [allM, allU, Zjd M U L h n (p + 1) (by omega)]
    rcases h p (by omega) with ⟨h1, h2, h3⟩ | ⟨h1, h2⟩
    · rw [h1]
      by_cases c : rd U (p : Int) = 1
      · rw [if_pos c, if_pos c]
      · rw [if_neg c, if_neg c, if_neg (by omega), if_neg (by omega)]
    · rw [h1, h2, if_neg (by decide), if_pos rfl, if_neg (by decide), if_pos rfl]
theorem Zgx (M U : List Int) (L : Nat) (hM : M.length = L) (hU : U.length = L) (h : Zhg M U L) (b : Nat) (hb : b < L) (h0 : rd M (b : Int) = 0) : Zhg (M.set b (-1)) (U.set b (wrap64 (rd U (b : Int) + 1000))) L := by
  have hU0 : rd U (b : Int) = 0 := by rcases h b hb with h1 | h1 <;> omega
  have e : wrap64 (rd U (b : Int) + 1000) = 1000 := by rw [Zm (by omega) (by omega)]; omega
  intro j hj
  by_cases c : b = j
  · subst c
    rw [Zat M _ b (by omega), Zat U _ b (by omega), e]
    exact .inr ⟨rfl, rfl⟩
  · rw [Zau M _ b j c, Zau U _ b j c]
    exact h j hj
theorem Zdd (P : List Za) (F : List FnT) : ∀ (n i : Nat) (M U : List Int), i + n ≤ 1000 → M.length = P.length → U.length = P.length → bdU U i → Zhg M U P.length → metR P F n i M = Zz P F n i U
  | 0, i, M, U, _, hM, hU, _, h => by rw [metR, Zz, hM, hU]; exact Zjd M U P.length h P.length 0 (by omega)
  | n + 1, i, M, U, hi, hM, hU, hb, h => by
    rw [metR, Zz]
    cases f : fnV P F i with
    | false => rfl
    | true =>
      obtain ⟨⟨b, eb, lb⟩, hr⟩ := Zcc P F i f
      rw [Bool.true_and, Bool.true_and, eb]
      simp only [Int.toNat_natCast]
      obtain ⟨p1, p2, p3⟩ := Zcx U b (by omega) (1000 + 2000 * (i : Int)) (by omega) hb
      have l1 : (U.set b (wrap64 (rd U (b : Int) + 1000))).length = P.length := by rw [List.length_set]; exact hU
      have m1 : (M.set b (-1)).length = P.length := by rw [List.length_set]; exact hM
      by_cases c : rd M (b : Int) = 0
      · rw [if_pos c]
        have r1 := Zgx M U P.length hM hU h b lb c
        generalize U.set b (wrap64 (rd U (b : Int) + 1000)) = U1 at p1 p2 p3 l1 r1
        generalize M.set b (-1) = M1 at m1 r1
        rcases hr with hr | ⟨r, er, lr⟩
        · rw [if_pos hr, if_neg (by omega)]
          exact Zdd P F n (i + 1) M1 U1 (by omega) m1 l1 (fun q => by have := p1 q; omega) r1
        · rw [er, if_neg (by omega), if_pos (show (r : Int) ≥ 0 by omega), Int.toNat_natCast]
          obtain ⟨s1, s2, s3⟩ := Zcx U1 r (by omega) (1000 + 2000 * (i : Int) + 1000) (by omega) p1
          have l2 : (U1.set r (wrap64 (rd U1 (r : Int) + 1000))).length = P.length := by rw [List.length_set]; exact l1
          by_cases d : rd M1 (r : Int) = 0
          · rw [if_pos d]
            have r2 := Zgx M1 U1 P.length m1 l1 r1 r lr d
            exact Zdd P F n (i + 1) _ _ (by omega) (by rw [List.length_set]; exact m1) l2 (fun q => by have := s1 q; omega) r2
          · rw [if_neg d]
            refine (Zbj P F n (i + 1) _ (by omega) l2 (fun q => by have := s1 q; omega) ⟨r, lr, ?_⟩).symm
            rw [s3]
            rcases r1 r lr with h1 | h1 <;> omega
      · rw [if_neg c]
        have hbad : 1000 < rd (U.set b (wrap64 (rd U (b : Int) + 1000))) (b : Int) := by
          rw [p3]
          rcases h b lb with h1 | h1 <;> omega
        generalize U.set b (wrap64 (rd U (b : Int) + 1000)) = U1 at p1 p2 p3 l1 hbad
        rcases hr with hr | ⟨r, er, lr⟩
        · rw [if_neg (by omega)]
          exact (Zbj P F n (i + 1) U1 (by omega) l1 (fun q => by have := p1 q; omega) ⟨b, lb, hbad⟩).symm
        · rw [er, if_pos (show (r : Int) ≥ 0 by omega), Int.toNat_natCast]
          obtain ⟨s1, s2, s3⟩ := Zcx U1 r (by omega) (1000 + 2000 * (i : Int) + 1000) (by omega) p1
          have l2 : (U1.set r (wrap64 (rd U1 (r : Int) + 1000))).length = P.length := by rw [List.length_set]; exact l1
          refine (Zbj P F n (i + 1) _ (by omega) l2 (fun q => by have := s1 q; omega) ⟨b, lb, ?_⟩).symm
          have := s2 b
          omega
/-! the walks' loops -/
theorem Zeg (P : List Za) (hP : P.length ≤ 1048576) (i : Nat) (hi : i < P.length) (kids : List Int) (hK : (rd_T62 P (i : Int)).f3 = kids) (hk : kids.length ≤ 1048576) (hr : ∀ q : Nat, q < kids.length → 0 ≤ rd kids (q : Int) ∧ rd kids (q : Int) < (P.length : Int)) (R : List Int) :
    ∀ (n p : Nat) (M : List Int), kids.length - p = n → p ≤ kids.length → M.length = P.length → Ev (fun k => spec_l04Used.l0 k P (Zy kids M n p) ((i + 1 : Nat) : Int)) R → Ev (fun k => spec_l04Used.l1 k P M (i : Int) (p : Int)) R
  | 0, p, M, h1, h2, hM, H => by
    refine Zb H fun k e => ?_
    rw [spec_l04Used.l1, if_pos (by omega), if_pos (by omega), hK, if_neg (by omega), Zf (by omega)]
    exact e
  | n + 1, p, M, h1, h2, hM, H => by
    obtain ⟨k1, k2⟩ := hr p (by omega)
    have q1 : (p : Int) < (kids.length : Int) := by omega
    refine Zb (Zeg P hP i hi kids hK hk hr R n (p + 1) _ (by omega) (by omega) (by rw [List.length_set]; exact hM) H) fun k e => ?_
    rw [spec_l04Used.l1, if_pos (by omega), if_pos (by omega), hK, if_pos q1, if_pos (by omega), if_pos k1, if_pos (by rw [hM]; exact k2), Zf (by omega)]
    exact e
theorem Zeb (P : List Za) (hP : P.length ≤ 1048576) (hk : ∀ x ∈ P, Zv x) (hg : ∀ q : Nat, q < P.length → Zi P (q : Int) = true) : ∀ (n i : Nat) (M : List Int), i + n = P.length → M.length = P.length →
    Ev (fun k => spec_l04Used.l0 k P M (i : Int)) (Zr P M n i)
  | 0, i, M, h, hM => by
    refine Zd fun k => ?_
    rw [spec_l04Used.l0, if_neg (by omega)]
    rfl
  | n + 1, i, M, h, hM => by
    have hi : i < P.length := by omega
    have k1 := Zw P i (hg i hi)
    have hkk : (rd_T62 P (i : Int)).f3.length ≤ 1048576 := by rw [Zag P i hi]; exact (hk _ (List.getElem_mem hi)).2
    refine Zb (Zeg P hP i hi _ rfl hkk (fun q hq => ⟨(k1 q hq).1, by have := (k1 q hq).2; omega⟩) _ (rd_T62 P (i : Int)).f3.length 0 M rfl (by omega) hM (Zeb P hP hk hg n (i + 1) _ (by omega) (by rw [Zao]; exact hM))) fun k e => ?_
    rw [spec_l04Used.l0, if_pos (by omega), Zr]
    exact e
theorem Zdu (P : List Za) (F : List FnT) (hP : P.length ≤ 1048576) (i : Nat) (hi : i < P.length) (kids : List Int) (hk : kids.length ≤ 1048576) (hr : ∀ q : Nat, q < kids.length → 0 ≤ rd kids (q : Int) ∧ rd kids (q : Int) < (P.length : Int)) (R : Bool) :
    ∀ (n p : Nat) (M : List Int), kids.length - p = n → p ≤ kids.length → M.length = P.length → Ev (fun k => impl_ProgramOk.l0 k (Zy kids M n p) P (P.length : Int) ((i + 1 : Nat) : Int) P F) R → Ev (fun k => impl_ProgramOk.l1 k M P (P.length : Int) (i : Int) kids (kids.length : Int) (p : Int) P F) R
  | 0, p, M, h1, h2, hM, H => by
    refine Zb H fun k e => ?_
    rw [impl_ProgramOk.l1, if_neg (by omega), Zf (by omega)]
    exact e
  | n + 1, p, M, h1, h2, hM, H => by
    obtain ⟨k1, k2⟩ := hr p (by omega)
    have q1 : (p : Int) < (kids.length : Int) := by omega
    refine Zb (Zdu P F hP i hi kids hk hr R n (p + 1) _ (by omega) (by omega) (by rw [List.length_set]; exact hM) H) fun k e => ?_
    rw [impl_ProgramOk.l1, if_pos q1, if_pos (by omega), if_pos q1, if_pos k1, if_pos (by rw [hM]; exact k2), Zf (by omega)]
    exact e
theorem Zea (P : List Za) (F : List FnT) (hP : P.length ≤ 1048576) (hk : ∀ x ∈ P, Zv x) (hg : ∀ q : Nat, q < P.length → Zi P (q : Int) = true) (R : Bool) : ∀ (n i : Nat) (M : List Int), i + n = P.length → M.length = P.length →
    Ev (fun k => impl_ProgramOk.l2 k (Zr P M n i) F (F.length : Int) 0 P F) R → Ev (fun k => impl_ProgramOk.l0 k M P (P.length : Int) (i : Int) P F) R
  | 0, i, M, h, hM, H => by
    refine Zb H fun k e => ?_
    rw [impl_ProgramOk.l0, if_neg (by omega)]
    exact e
  | n + 1, i, M, h, hM, H => by
    have hi : i < P.length := by omega
    have k1 := Zw P i (hg i hi)
    have hkk : (rd_T62 P (i : Int)).f3.length ≤ 1048576 := by rw [Zag P i hi]; exact (hk _ (List.getElem_mem hi)).2
    refine Zb (Zdu P F hP i hi (rd_T62 P (i : Int)).f3 hkk (fun q hq => ⟨(k1 q hq).1, by have := (k1 q hq).2; omega⟩) R (rd_T62 P (i : Int)).f3.length 0 M rfl (by omega) hM (Zea P F hP hk hg R n (i + 1) _ (by omega) (by rw [Zao]; exact hM) H)) fun k e => ?_
    rw [impl_ProgramOk.l0, if_pos (by omega), if_pos (by omega), if_pos (by omega)]
    exact e
theorem Zer (M : List Int) (h : M.length ≤ 1048576) : ∀ n p : Nat, p + n = M.length → Ev (fun k => impl_ProgramOk.l4 k M (M.length : Int) (p : Int)) (allM M n p)
  | 0, p, e => by
    refine Zd fun k => ?_
    rw [impl_ProgramOk.l4, if_neg (by omega)]
    rfl
  | n + 1, p, e => by
    refine Zb (Zer M h n (p + 1) (by omega)) fun k e1 => ?_
    rw [impl_ProgramOk.l4, if_pos (by omega), if_pos (by omega), if_pos (by omega), Zf (by omega), e1, allM]
    split
    · rfl
    · split <;> rfl
theorem Zes (M : List Int) (h : M.length ≤ 1048576) : ∀ n p : Nat, p + n = M.length → Ev (fun k => spec_ProgramOk.l1 k M (p : Int)) (allU M n p)
  | 0, p, e => by
    refine Zd fun k => ?_
    rw [spec_ProgramOk.l1, if_neg (by omega)]
    rfl
  | n + 1, p, e => by
    refine Zb (Zes M h n (p + 1) (by omega)) fun k e1 => ?_
    rw [spec_ProgramOk.l1, if_pos (by omega), if_pos (by omega), Zf (by omega), e1, allU]
    split
    · rfl
    · split <;> rfl
theorem Zbk (P : List Za) (F : List FnT) (h : Zq P F) : ∀ (n i : Nat) (U : List Int), i + n = F.length → U.length = P.length → Ev (fun k => spec_ProgramOk.l0 k U (i : Int) P F) (Zz P F n i U)
  | 0, i, U, hi, hU => by
    have hP := h.1.1
    refine Zb (Zes U (by omega) U.length 0 (by omega)) fun k e => ?_
    rw [spec_ProgramOk.l0, if_neg (by omega), Zz]
    exact e
  | n + 1, i, U, hi, hU => by
    have hP := h.1.1
    have hF := h.2.1
    have li : i < F.length := by omega
    have hk : (rd_T56 F (i : Int)).f1.length ≤ 1048576 := by rw [Zbw F i li]; exact (h.2.2 _ (List.getElem_mem li)).2
    have hf := Zip P F hP hF i li hk
    rw [Zz]
    cases f : fnV P F i with
    | false =>
      rw [f] at hf
      refine Zb hf fun k e => ?_
      rw [spec_ProgramOk.l0, if_pos (by omega), e, Option.bind_some, if_neg (by decide)]
      rfl
    | true =>
      rw [f] at hf
      obtain ⟨⟨b, eb, lb⟩, hr⟩ := Zcc P F i f
      rw [Bool.true_and, eb]
      simp only [Int.toNat_natCast]
      have l1 : (U.set b (wrap64 (rd U (b : Int) + 1000))).length = P.length := by rw [List.length_set]; exact hU
      have q1 : (0 : Int) ≤ (b : Int) := by omega
      have q2 : (b : Int) < (U.length : Int) := by omega
      have q3 : (i : Int) < (F.length : Int) := by omega
      have q4 : (0 : Int) ≤ (i : Int) := by omega
      rcases hr with hr | ⟨r, er, lr⟩
      · rw [if_neg (by omega)]
        refine Zh hf (Zbk P F h n (i + 1) _ (by omega) l1) fun k e e2 => ?_
        rw [spec_ProgramOk.l0, if_pos q3, e, Option.bind_some, if_pos rfl, if_pos q4, eb, if_pos q1, if_pos q2, Option.bind_some, Int.toNat_natCast, if_neg (by omega), Zf (by omega)]
        exact e2
      · rw [er, if_pos (show (r : Int) ≥ 0 by omega), Int.toNat_natCast]
        have q5 : (0 : Int) ≤ (r : Int) := by omega
        have q6 : (r : Int) < (U.length : Int) := by omega
        have l2 : ((U.set b (wrap64 (rd U (b : Int) + 1000))).set r (wrap64 (rd (U.set b (wrap64 (rd U (b : Int) + 1000))) (r : Int) + 1000))).length = P.length := by rw [List.length_set]; exact l1
        refine Zh hf (Zbk P F h n (i + 1) _ (by omega) l2) fun k e e2 => ?_
        rw [spec_ProgramOk.l0, if_pos q3, e, Option.bind_some, if_pos rfl, if_pos q4, eb, if_pos q1, if_pos q2, Option.bind_some, Int.toNat_natCast, er, if_pos (show (r : Int) ≥ 0 by omega), if_pos q5, if_pos q6, Int.toNat_natCast, Zf (by omega)]
        exact e2
theorem Zdr (P : List Za) (F : List FnT) (h : Zq P F) : ∀ (n i : Nat) (M : List Int), i + n = F.length → M.length = P.length → Ev (fun k => impl_ProgramOk.l2 k M F (F.length : Int) (i : Int) P F) (metR P F n i M)
  | 0, i, M, hi, hM => by
    have hP := h.1.1
    refine Zb (Zer M (by omega) M.length 0 (by omega)) fun k e => ?_
    rw [impl_ProgramOk.l2, if_neg (by omega), metR]
    exact e
  | n + 1, i, M, hi, hM => by
    have hP := h.1.1
    have hF := h.2.1
    have li : i < F.length := by omega
    have q3 : (i : Int) < (F.length : Int) := by omega
    have q4 : (0 : Int) ≤ (i : Int) := by omega
    have hk : (rd_T56 F (i : Int)).f1.length ≤ 1048576 := by rw [Zbw F i li]; exact (h.2.2 _ (List.getElem_mem li)).2
    have hf := Zii P F hP (rd_T56 F (i : Int)) hk
    have hA := Zhh (rd_T56 F (i : Int)).f0 P F hF
    have jt : Ev (fun k => impl_ProgramOk.j4 k M F (F.length : Int) (i : Int) true P F (rd_T56 F (i : Int)).f0 (rd_T56 F (i : Int)).f1 (rd_T56 F (i : Int)).f2 (rd_T56 F (i : Int)).f3 (rd_T56 F (i : Int)).f4) false := Zd fun k => by rw [impl_ProgramOk.j4, if_pos rfl]
    rw [metR]
    cases f1 : Zdi P (rd_T56 F (i : Int)) with
    | false =>
      rw [f1] at hf
      refine Zh hf jt fun k e e2 => ?_
      rw [impl_ProgramOk.l2, if_pos q3, if_pos q4, if_pos q3, e, Option.bind_some, if_neg (by decide), e2, fnV, f1]
      rfl
    | true =>
      rw [f1] at hf
      by_cases d : Zap (rd_T56 F (i : Int)).f0 F 0 = (i : Int)
      · have f : fnV P F i = true := by rw [fnV, f1, beq_iff_eq.mpr d]; rfl
        obtain ⟨⟨b, eb, lb⟩, hr⟩ := Zcc P F i f
        have e5 : (Zap (rd_T56 F (i : Int)).f0 F 0 != (i : Int)) = false := bne_eq_false_iff_eq.mpr d
        rw [f, Bool.true_and, eb]
        simp only [Int.toNat_natCast]
        have q1 : (0 : Int) ≤ (b : Int) := by omega
        have q2 : (b : Int) < (M.length : Int) := by omega
        obtain ⟨r', er'⟩ : ∃ r', (rd_T56 F (i : Int)).f4 = r' := ⟨_, rfl⟩
        rw [er'] at hr ⊢
        have z0 : rd [(b : Int), r'] 0 = (b : Int) := rfl
        have z1 : rd [(b : Int), r'] 1 = r' := rfl
        have w01 : wrap64 (0 + 1) = 1 := (Zm (by decide) (by decide)).trans rfl
        have w12 : wrap64 (1 + 1) = 2 := (Zm (by decide) (by decide)).trans rfl
        have hl3 : Ev (fun k => impl_ProgramOk.l3 k M F (F.length : Int) (i : Int) [(b : Int), r'] ([(b : Int), r'].length : Int) 0 P F) (if rd M (b : Int) = 0 then (if r' < 0 then metR P F n (i + 1) (M.set b (-1)) else if rd (M.set b (-1)) r' = 0 then metR P F n (i + 1) ((M.set b (-1)).set r'.toNat (-1)) else false) else false) := by
          by_cases c : rd M (b : Int) = 0
          · rw [if_pos c]
            have m1 : (M.set b (-1)).length = P.length := by rw [List.length_set]; exact hM
            have step : ∀ R, Ev (fun k => impl_ProgramOk.l3 k (M.set b (-1)) F (F.length : Int) (i : Int) [(b : Int), r'] ([(b : Int), r'].length : Int) 1 P F) R → Ev (fun k => impl_ProgramOk.l3 k M F (F.length : Int) (i : Int) [(b : Int), r'] ([(b : Int), r'].length : Int) 0 P F) R := fun R H => Zb H fun k e => by
              rw [impl_ProgramOk.l3, if_pos (show (0 : Int) < ([(b : Int), r'].length : Int) by simp), if_pos (by decide), if_pos (show (0 : Int) < ([(b : Int), r'].length : Int) by simp), z0, if_neg (by omega), if_pos q1, if_pos q2, if_pos c, Int.toNat_natCast, w01]
              exact e
            generalize M.set b (-1) = M1 at m1 step
            apply step
            have fin : ∀ (M2 : List Int), M2.length = P.length → Ev (fun k => impl_ProgramOk.l3 k M2 F (F.length : Int) (i : Int) [(b : Int), r'] ([(b : Int), r'].length : Int) 2 P F) (metR P F n (i + 1) M2) := fun M2 hM2 => by
              refine Zb (Zdr P F h n (i + 1) M2 (by omega) hM2) fun k e => ?_
              rw [impl_ProgramOk.l3, if_neg (show ¬ (2 : Int) < ([(b : Int), r'].length : Int) by simp), Zf (by omega)]
              exact e
            by_cases hneg : r' < 0
            · rw [if_pos hneg]
              refine Zb (fin M1 m1) fun k e => ?_
              rw [impl_ProgramOk.l3, if_pos (show (1 : Int) < ([(b : Int), r'].length : Int) by simp), if_pos (by decide), if_pos (show (1 : Int) < ([(b : Int), r'].length : Int) by simp), z1, if_pos hneg, w12]
              exact e
            · rw [if_neg hneg]
              rcases hr with hr | ⟨r, rfl, lr⟩
              · exact absurd hr hneg
              · have q6 : (r : Int) < (M1.length : Int) := by omega
                by_cases d2 : rd M1 (r : Int) = 0
                · rw [if_pos d2, Int.toNat_natCast]
                  refine Zb (fin (M1.set r (-1)) (by rw [List.length_set]; exact m1)) fun k e => ?_
                  rw [impl_ProgramOk.l3, if_pos (show (1 : Int) < ([(b : Int), (r : Int)].length : Int) by simp), if_pos (by decide), if_pos (show (1 : Int) < ([(b : Int), (r : Int)].length : Int) by simp), z1, if_neg hneg, if_pos (by omega), if_pos q6, if_pos d2, Int.toNat_natCast, w12]
                  exact e
                · rw [if_neg d2]
                  refine Zd fun k => ?_
                  rw [impl_ProgramOk.l3, if_pos (show (1 : Int) < ([(b : Int), (r : Int)].length : Int) by simp), if_pos (by decide), if_pos (show (1 : Int) < ([(b : Int), (r : Int)].length : Int) by simp), z1, if_neg hneg, if_pos (by omega), if_pos q6, if_neg d2]
          · rw [if_neg c]
            refine Zd fun k => ?_
            rw [impl_ProgramOk.l3, if_pos (show (0 : Int) < ([(b : Int), r'].length : Int) by simp), if_pos (by decide), if_pos (show (0 : Int) < ([(b : Int), r'].length : Int) by simp), z0, if_neg (by omega), if_pos q1, if_pos q2, if_neg c]
        have j4 : Ev (fun k => impl_ProgramOk.j4 k M F (F.length : Int) (i : Int) false P F (rd_T56 F (i : Int)).f0 (rd_T56 F (i : Int)).f1 (rd_T56 F (i : Int)).f2 (b : Int) r') (if rd M (b : Int) = 0 then (if r' < 0 then metR P F n (i + 1) (M.set b (-1)) else if rd (M.set b (-1)) r' = 0 then metR P F n (i + 1) ((M.set b (-1)).set r'.toNat (-1)) else false) else false) := Zb hl3 fun k e => by
          rw [impl_ProgramOk.j4, if_neg (by decide), Option.bind_some]
          exact e
        refine Zdc hf hA j4 fun k e e3 e2 => ?_
        rw [impl_ProgramOk.l2, if_pos q3, if_pos q4, if_pos q3, e, Option.bind_some, if_pos rfl, e3, Option.bind_some, e5, eb, er']
        exact e2
      · have e5 : (Zap (rd_T56 F (i : Int)).f0 F 0 != (i : Int)) = true := bne_iff_ne.mpr d
        refine Zdc hf hA jt fun k e e3 e2 => ?_
        rw [impl_ProgramOk.l2, if_pos q3, if_pos q4, if_pos q3, e, Option.bind_some, if_pos rfl, e3, Option.bind_some, e5, e2, fnV, f1, beq_eq_false_iff_ne.mpr d]
        rfl
def Zaz (P : List Za) (F : List FnT) : Bool :=
  inB (P.length : Int) 1 300 && (inB (F.length : Int) 1 8 && (!(Zam P ((P.length : Int) - 1) == 0) && Zz P F F.length 0 (Zr P (List.replicate P.length 0) P.length 0)))
theorem Zjn (L : Nat) (j : Nat) : rd (List.replicate L (0 : Int)) (j : Int) = 0 := by
  unfold rd
  rw [Int.toNat_natCast, List.getD_eq_getElem?_getD, List.getElem?_replicate]
  split <;> rfl
theorem Zen (P : List Za) (F : List FnT) (h : Zq P F) : Ev (fun k => impl_ProgramOk.f k P F) (Zaz P F) := by
  have hP := h.1.1
  have jt : Ev (fun k => impl_ProgramOk.j0 k (P.length : Int) true P F) false := Zd fun k => by rw [impl_ProgramOk.j0, if_pos rfl]
  unfold Zaz inB
  by_cases c1 : 1 ≤ (P.length : Int) ∧ (P.length : Int) ≤ 300
  · by_cases c2 : 1 ≤ (F.length : Int) ∧ (F.length : Int) ≤ 8
    · have w1 : wrap64 ((P.length : Int) - 1) = (P.length : Int) - 1 := Zm (by omega) (by omega)
      have hD := Zgg P h.1.1 h.1.2 ((P.length : Int) - 1)
      cases z : (Zam P ((P.length : Int) - 1) == 0) with
      | true =>
        refine Zax hD jt fun k e e2 => ?_
        rw [impl_ProgramOk.f, Ze, Option.bind_some, decide_eq_true c1, if_pos rfl, Ze, Option.bind_some, decide_eq_true c2, if_pos rfl, w1, e, Option.bind_some, z, e2]
        rfl
      | false =>
        have hz : Zam P ((P.length : Int) - 1) ≠ 0 := by simpa using z
        have hl : ∃ l, Zg P P.length = some l := by
          unfold Zam inB at hz
          rw [if_pos (decide_eq_true (by omega)), show ((P.length : Int) - 1).toNat + 1 = P.length by omega] at hz
          cases e : Zg P P.length with
          | none => rw [e] at hz; exact absurd rfl hz
          | some l => exact ⟨l, rfl⟩
        obtain ⟨l, hl⟩ := hl
        have hg : ∀ q : Nat, q < P.length → Zi P (q : Int) = true := by
          obtain ⟨a, ha⟩ : ∃ a, P.length = a + 1 := ⟨P.length - 1, by omega⟩
          rw [ha] at hl
          have := Zbo P a l hl
          exact fun q hq => this q (by omega)
        have hlen : (List.replicate P.length (0 : Int)).length = P.length := List.length_replicate
        have hcl := Zdh P P.length 0 (List.replicate P.length 0)
        have hr := Zdr P F h F.length 0 (Zr P (List.replicate P.length 0) P.length 0) (by omega) (by rw [hcl, hlen])
        have h0 := Zea P F hP h.1.2 hg _ P.length 0 (List.replicate P.length 0) (by omega) hlen hr
        have hb := fun j : Nat => Zgw P j P.length 0 (List.replicate P.length 0) (by omega) (by omega) (fun q hq => hg q (by omega)) hlen (by rw [Zjn]; omega)
        have em : metR P F F.length 0 (Zr P (List.replicate P.length 0) P.length 0) = Zz P F F.length 0 (Zr P (List.replicate P.length 0) P.length 0) :=
          Zdd P F F.length 0 _ _ (by omega) (by rw [hcl, hlen]) (by rw [hcl, hlen]) (fun j => by have := hb j; omega) (fun j hj => .inl ⟨rfl, by have := hb j; omega, by have := hb j; omega⟩)
        rw [em] at h0
        have jf : Ev (fun k => impl_ProgramOk.j0 k (P.length : Int) false P F) (Zz P F F.length 0 (Zr P (List.replicate P.length 0) P.length 0)) := Zb h0 fun k e => by
          rw [impl_ProgramOk.j0, if_neg (by decide), if_pos (by omega), Int.toNat_natCast, if_pos (by omega)]
          exact e
        refine Zax hD jf fun k e e2 => ?_
        rw [impl_ProgramOk.f, Ze, Option.bind_some, decide_eq_true c1, if_pos rfl, Ze, Option.bind_some, decide_eq_true c2, if_pos rfl, w1, e, Option.bind_some, z, e2]
        rfl
    · refine Zj jt fun k e => ?_
      rw [impl_ProgramOk.f, Ze, Option.bind_some, decide_eq_true c1, if_pos rfl, Ze, Option.bind_some, decide_eq_false c2, if_neg (by decide), e]
      rfl
  · refine Zj jt fun k e => ?_
    rw [impl_ProgramOk.f, Ze, Option.bind_some, decide_eq_false c1, if_neg (by decide), e]
    rfl
theorem Zep (P : List Za) (F : List FnT) (h : Zq P F) : Ev (fun k => spec_ProgramOk.f k P F) (Zaz P F) := by
  have hP := h.1.1
  have jt : Ev (fun k => spec_ProgramOk.j0 k true P F) false := Zd fun k => by rw [spec_ProgramOk.j0, if_pos rfl]
  unfold Zaz inB
  by_cases c1 : 1 ≤ (P.length : Int) ∧ (P.length : Int) ≤ 300
  · by_cases c2 : 1 ≤ (F.length : Int) ∧ (F.length : Int) ≤ 8
    · have w1 : wrap64 ((P.length : Int) - 1) = ((P.length - 1 : Nat) : Int) := by rw [Zm (by omega) (by omega)]; omega
      have e0 : ((P.length : Int) - 1) = ((P.length - 1 : Nat) : Int) := by omega
      have hD := Zdq P h.1.1 h.1.2 (P.length - 1) (by omega) P.length 0 (by omega)
      have hs := Zcd P P.length
      rw [show P.length - 1 + 1 = P.length by omega] at hD
      have ed : Zam P ((P.length : Int) - 1) = rd (Zl P P.length) ((P.length - 1 : Nat) : Int) := by
        unfold Zam inB
        rw [if_pos (decide_eq_true (by omega)), show ((P.length : Int) - 1).toNat + 1 = P.length by omega, e0]
        obtain ⟨a, ha⟩ : ∃ a, P.length = a + 1 := ⟨P.length - 1, by omega⟩
        rw [ha, show a + 1 - 1 = a by omega]
        cases e : Zg P (a + 1) with
        | none => rw [Zdm P a e]
        | some l => rw [Zfk P _ l e]
      rw [ed]
      cases z : (rd (Zl P P.length) ((P.length - 1 : Nat) : Int) == 0) with
      | true =>
        have z' : rd (Zl P P.length) ((P.length - 1 : Nat) : Int) = 0 := eq_of_beq z
        have jf : Ev (fun k => spec_ProgramOk.j0 k false P F) false := Zb hD fun k e => by
          have e' : spec_l04Deeps.l0 k P ((P.length - 1 : Nat) : Int) [] 0 = some (Zl P P.length) := e
          rw [spec_ProgramOk.j0, if_neg (by decide), w1, spec_l04Deeps.f, e', Option.bind_some, hs, w1, if_pos (by omega), if_pos (by omega), if_pos z']
        refine Zj jf fun k e => ?_
        rw [spec_ProgramOk.f, Zc, Option.bind_some, decide_eq_true c1, if_pos rfl, Zc, Option.bind_some, decide_eq_true c2]
        exact e
      | false =>
        have hz : rd (Zl P P.length) ((P.length - 1 : Nat) : Int) ≠ 0 := by simpa using z
        have hl : ∃ l, Zg P P.length = some l := by
          obtain ⟨a, ha⟩ : ∃ a, P.length = a + 1 := ⟨P.length - 1, by omega⟩
          rw [ha] at hz ⊢
          cases e : Zg P (a + 1) with
          | none => exact absurd (Zdm P a e) hz
          | some l => exact ⟨l, rfl⟩
        obtain ⟨l, hl⟩ := hl
        have hg : ∀ q : Nat, q < P.length → Zi P (q : Int) = true := by
          obtain ⟨a, ha⟩ : ∃ a, P.length = a + 1 := ⟨P.length - 1, by omega⟩
          rw [ha] at hl
          have := Zbo P a l hl
          exact fun q hq => this q (by omega)
        have hlen : (List.replicate P.length (0 : Int)).length = P.length := List.length_replicate
        have hcl := Zdh P P.length 0 (List.replicate P.length 0)
        have hu := Zeb P hP h.1.2 hg P.length 0 (List.replicate P.length 0) (by omega) hlen
        have hr := Zbk P F h F.length 0 (Zr P (List.replicate P.length 0) P.length 0) (by omega) (by rw [hcl, hlen])
        have jf : Ev (fun k => spec_ProgramOk.j0 k false P F) (Zz P F F.length 0 (Zr P (List.replicate P.length 0) P.length 0)) := Zdc hD hu hr fun k e e1 e2 => by
          have e' : spec_l04Deeps.l0 k P ((P.length - 1 : Nat) : Int) [] 0 = some (Zl P P.length) := e
          have e1' : spec_l04Used.l0 k P (List.replicate P.length 0) 0 = some (Zr P (List.replicate P.length 0) P.length 0) := e1
          rw [spec_ProgramOk.j0, if_neg (by decide), w1, spec_l04Deeps.f, e', Option.bind_some, hs, w1, if_pos (by omega), if_pos (by omega), if_neg hz, spec_l04Used.f, if_pos (by omega), Int.toNat_natCast, if_pos (by omega), e1', Option.bind_some]
          exact e2
        refine Zj jf fun k e => ?_
        rw [spec_ProgramOk.f, Zc, Option.bind_some, decide_eq_true c1, if_pos rfl, Zc, Option.bind_some, decide_eq_true c2]
        exact e
    · refine Zj jt fun k e => ?_
      rw [spec_ProgramOk.f, Zc, Option.bind_some, decide_eq_true c1, if_pos rfl, Zc, Option.bind_some, decide_eq_false c2]
      exact e
  · refine Zj jt fun k e => ?_
    rw [spec_ProgramOk.f, Zc, Option.bind_some, decide_eq_false c1, if_neg (by decide), e]
    rfl

def Zdj (t : Int) : ByteArray := if t = 1 then (⟨#[105, 110, 116]⟩ : ByteArray) else if t = 2 then (⟨#[98, 111, 120]⟩ : ByteArray) else if t = 3 then (⟨#[38, 98, 111, 120]⟩ : ByteArray) else (⟨#[38, 109, 117, 116, 32, 98, 111, 120]⟩ : ByteArray)
theorem Zal (t : Int) : (Zdj t).size ≤ 8 := by
  unfold Zdj
  split
  · exact (by decide : (⟨#[105, 110, 116]⟩ : ByteArray).size ≤ 8)
  · split
    · exact (by decide : (⟨#[98, 111, 120]⟩ : ByteArray).size ≤ 8)
    · split
      · exact (by decide : (⟨#[38, 98, 111, 120]⟩ : ByteArray).size ≤ 8)
      · exact (by decide : (⟨#[38, 109, 117, 116, 32, 98, 111, 120]⟩ : ByteArray).size ≤ 8)
theorem Zcb (t : Int) : spec_l06Type.f t = some (Zdj t) := by
  unfold spec_l06Type.f Zdj
  split
  · rfl
  · split
    · rfl
    · split <;> rfl
theorem Zed (t : Int) (h0 : 1 ≤ t) (h1 : t ≤ 4) : impl_typeWord.f t = some (Zdj t) := by
  rw [impl_typeWord.f, Option.bind_some, if_pos (by omega), if_pos (by show t < 5; omega)]
  have : t = 1 ∨ t = 2 ∨ t = 3 ∨ t = 4 := by omega
  rcases this with h | h | h | h <;> (subst h; rfl)
def parS (ps : List ParT) (q : Int) : ByteArray := ((rd_T58 ps q).f0 ++ (⟨#[58, 32]⟩ : ByteArray)) ++ Zdj (rd_T58 ps q).f1
def idx (n : Nat) : List Int := (List.range n).map fun j => ((j : Nat) : Int)
theorem Zgo (n : Nat) : (idx n).length = n := by simp [idx]
theorem Zhp (n q : Nat) (h : q < n) : rd (idx n) (q : Int) = (q : Int) := by
  rw [Zbf _ q (by rw [Zgo]; exact h)]
  simp [idx]
def sigS (X : FnT) (acc : ByteArray) : ByteArray := argS (parS X.f1) (idx X.f1.length) X.f1.length 0 (acc ++ (((⟨#[102, 110, 32]⟩ : ByteArray) ++ X.f0) ++ (⟨#[40]⟩ : ByteArray))) ++ (⟨#[41]⟩ : ByteArray)
def resS (X : FnT) (h : ByteArray) : ByteArray := if X.f2 = 0 then h else h ++ ((⟨#[32, 45, 62, 32]⟩ : ByteArray) ++ Zdj X.f2)
def Zaw (ns : List Za) (X : FnT) (h : ByteArray) : ByteArray :=
  (if X.f4 ≥ 0 then (h ++ ((⟨#[32, 123, 10]⟩ : ByteArray) ++ Zp ns 10 X.f3 1)) ++ (((⟨#[32, 32, 114, 101, 116, 32]⟩ : ByteArray) ++ Zu ns 10 X.f4) ++ (⟨#[59, 10]⟩ : ByteArray)) else h ++ ((⟨#[32, 123, 10]⟩ : ByteArray) ++ Zp ns 10 X.f3 1)) ++ (⟨#[125, 10]⟩ : ByteArray)
def fnS (ns : List Za) (X : FnT) (acc : ByteArray) : ByteArray := Zaw ns X (resS X (sigS X acc))
theorem Zja (g : Int → ByteArray) (kids : List Int) (n : Nat) (a b : ByteArray) : argS g kids n 0 (a ++ b) = a ++ argS g kids n 0 b := by
  refine Zca ?_
  rw [Zda, ByteArray.data_append, ByteArray.data_append, Array.toList_append, Array.toList_append, Zda, List.append_assoc]
theorem Zjk (ns : List Za) (X : FnT) (acc : ByteArray) : fnS ns X acc = acc ++ fnS ns X (⟨#[]⟩ : ByteArray) := by
  have e0 : ∀ a : ByteArray, (⟨#[]⟩ : ByteArray) ++ a = a := fun a => Zca (by simp [ByteArray.data_append])
  have h1 : sigS X acc = acc ++ sigS X (⟨#[]⟩ : ByteArray) := by unfold sigS; rw [Zja, e0, ByteArray.append_assoc]
  have h2 : ∀ h, resS X (acc ++ h) = acc ++ resS X h := by intro h; unfold resS; split; · rfl
                                                           · rw [ByteArray.append_assoc]
  have h3 : ∀ h, Zaw ns X (acc ++ h) = acc ++ Zaw ns X h := by
    intro h
    unfold Zaw
    split
    · simp only [ByteArray.append_assoc]
    · simp only [ByteArray.append_assoc]
  unfold fnS
  rw [h1, h2, h3]
/-- what a right function is -/
def Zak (ns : List Za) (X : FnT) : Prop := X.f0.size ≤ 1048576 ∧ X.f1.length ≤ 3 ∧ (∀ q : Nat, q < X.f1.length → (rd_T58 X.f1 (q : Int)).f0.size ≤ 1048576 ∧ 1 ≤ (rd_T58 X.f1 (q : Int)).f1 ∧ (rd_T58 X.f1 (q : Int)).f1 ≤ 4) ∧ (0 ≤ X.f2 ∧ X.f2 ≤ 2) ∧
  (∃ b : Nat, X.f3 = (b : Int) ∧ Zaf ns b ∧ Zai ns 10 (b : Int) ∧ (rd_T62 ns (b : Int)).f0 = 20) ∧ (X.f4 ≥ 0 → ∃ r : Nat, X.f4 = (r : Int) ∧ Zaf ns r ∧ Zai ns 10 (r : Int) ∧ 1 ≤ (rd_T62 ns (r : Int)).f0 ∧ (rd_T62 ns (r : Int)).f0 ≤ 12)
theorem Zit (ns : List Za) (X : FnT) (h : Zak ns X) : ∀ q : Nat, q < (idx X.f1.length).length → (parS X.f1 (rd (idx X.f1.length) (q : Int))).size ≤ 1048586 := by
  intro q hq
  rw [Zgo] at hq
  rw [Zhp _ q hq, parS, ByteArray.size_append, ByteArray.size_append]
  have h1 := (h.2.2.1 q hq).1
  have h2 := Zal (rd_T58 X.f1 (q : Int)).f1
  have h3 : (⟨#[58, 32]⟩ : ByteArray).size = 2 := rfl
  omega
theorem Zeh (ns : List Za) (X : FnT) (h : Zak ns X) (acc : ByteArray) : (sigS X acc).size ≤ acc.size + 5000000 := by
  have h1 := Zcl (parS X.f1) (idx X.f1.length) 1048586 X.f1.length 0 (acc ++ (((⟨#[102, 110, 32]⟩ : ByteArray) ++ X.f0) ++ (⟨#[40]⟩ : ByteArray))) (by rw [Zgo]; omega) (Zit ns X h)
  have l1 : (⟨#[102, 110, 32]⟩ : ByteArray).size = 3 := rfl
  have l2 : (⟨#[40]⟩ : ByteArray).size = 1 := rfl
  have l3 : (⟨#[41]⟩ : ByteArray).size = 1 := rfl
  have h2 := h.1
  have h3 : X.f1.length * (1048586 + 2) ≤ 3 * (1048586 + 2) := Nat.mul_le_mul_right _ h.2.1
  rw [ByteArray.size_append, ByteArray.size_append, ByteArray.size_append] at h1
  unfold sigS
  rw [ByteArray.size_append]
  omega
theorem Zdy (X : FnT) (a : ByteArray) : (resS X a).size ≤ a.size + 12 := by
  have h2 := Zal X.f2
  have l1 : (⟨#[32, 45, 62, 32]⟩ : ByteArray).size = 4 := rfl
  unfold resS
  split
  · omega
  · rw [ByteArray.size_append, ByteArray.size_append]; omega
theorem Zfe (ns : List Za) (F : List FnT) (hP : Zq ns F) (X : FnT) (h : Zak ns X) (acc : ByteArray) : (fnS ns X acc).size ≤ acc.size + 110000000000000000 := by
  have h1 := Zeh ns X h acc
  have h2 := Zdy X (sigS X acc)
  obtain ⟨b, eb, gb, db, kb⟩ := h.2.2.2.2.1
  have h3 := (((Zce ns F hP 10 b (by omega) gb db).2 kb) 1).2.2
  have h4 := Zdl 10 (by omega)
  have l1 : (⟨#[32, 123, 10]⟩ : ByteArray).size = 3 := rfl
  have l2 : (⟨#[32, 32, 114, 101, 116, 32]⟩ : ByteArray).size = 6 := rfl
  have l3 : (⟨#[59, 10]⟩ : ByteArray).size = 2 := rfl
  have l4 : (⟨#[125, 10]⟩ : ByteArray).size = 2 := rfl
  unfold fnS Zaw
  rw [eb]
  split
  · rename_i hr
    obtain ⟨r, er, gr, dr, kr⟩ := h.2.2.2.2.2 hr
    have h5 := (Zbg ns F hP 10 r (by omega) gr dr kr).2.2
    have h6 := Zcr 10 (by omega)
    rw [er]
    simp only [ByteArray.size_append]
    omega
  · simp only [ByteArray.size_append]
    omega
theorem Zgd (ns : List Za) (F : List FnT) (hP : Zq ns F) (X : FnT) (h : Zak ns X) (a : ByteArray) (ha : a.size ≤ 10000000) : Ev (fun k => impl_showFn.j1 k a ns F X.f0 X.f1 X.f2 X.f3 X.f4) (Zaw ns X a) := by
  obtain ⟨b, eb, gb, db, kb⟩ := h.2.2.2.2.1
  obtain ⟨_, E1, h3⟩ := ((Zce ns F hP 10 b (by omega) gb db).2 kb) 1
  have h4 := Zdl 10 (by omega)
  have l1 : (⟨#[32, 123, 10]⟩ : ByteArray).size = 3 := rfl
  have l2 : (⟨#[32, 32, 114, 101, 116, 32]⟩ : ByteArray).size = 6 := rfl
  have l3 : (⟨#[59, 10]⟩ : ByteArray).size = 2 := rfl
  have l4 : (⟨#[125, 10]⟩ : ByteArray).size = 2 := rfl
  unfold Zaw
  by_cases hr : X.f4 ≥ 0
  · obtain ⟨r, er, gr, dr, kr⟩ := h.2.2.2.2.2 hr
    obtain ⟨_, E2, h5⟩ := Zbg ns F hP 10 r (by omega) gr dr kr
    have h6 := Zcr 10 (by omega)
    rw [eb, er, if_pos (by omega)]
    refine Zh E1 E2 fun k e1 e2 => ?_
    rw [impl_showFn.j1, e1, Option.bind_some, if_pos (by omega), if_pos (by rw [ByteArray.size_append]; omega), if_pos (by omega), e2, Option.bind_some, if_pos (by omega), if_pos (by rw [ByteArray.size_append]; omega), if_pos (by simp only [ByteArray.size_append]; omega), if_pos (by simp only [ByteArray.size_append]; omega)]
  · rw [eb, if_neg hr]
    refine Zb E1 fun k e1 => ?_
    rw [impl_showFn.j1, e1, Option.bind_some, if_pos (by omega), if_pos (by rw [ByteArray.size_append]; omega), if_neg hr, if_pos (by simp only [ByteArray.size_append]; omega)]
theorem Zcq (ns : List Za) (F : List FnT) (hP : Zq ns F) (X : FnT) (h : Zak ns X) : ∀ (n p : Nat) (l : List ByteArray), n + p = X.f1.length → l.length = p → l ++ mapG (parS X.f1) (idx X.f1.length) n p = mapG (parS X.f1) (idx X.f1.length) X.f1.length 0 →
    Ev (fun k => impl_showFn.l0 k l X.f1 (X.f1.length : Int) (p : Int) ns F X.f0 X.f1 X.f2 X.f3 X.f4) (fnS ns X (⟨#[]⟩ : ByteArray))
  | 0, p, l, hn, hl, he => by
    have e0 : ∀ a : ByteArray, (⟨#[]⟩ : ByteArray) ++ a = a := fun a => Zca (by simp [ByteArray.data_append])
    have J := Zda (parS X.f1) (idx X.f1.length) X.f1.length ((⟨#[]⟩ : ByteArray) ++ (((⟨#[102, 110, 32]⟩ : ByteArray) ++ X.f0) ++ (⟨#[40]⟩ : ByteArray)))
    have hs := Zeh ns X h (⟨#[]⟩ : ByteArray)
    have hz : (⟨#[]⟩ : ByteArray).size = 0 := rfl
    have l1 : (⟨#[102, 110, 32]⟩ : ByteArray).size = 3 := rfl
    have l2 : (⟨#[40]⟩ : ByteArray).size = 1 := rfl
    have l3 : (⟨#[41]⟩ : ByteArray).size = 1 := rfl
    have l4 : (⟨#[32, 45, 62, 32]⟩ : ByteArray).size = 4 := rfl
    have hx := h.1
    have ht := Zal X.f2
    have e1 : l = mapG (parS X.f1) (idx X.f1.length) X.f1.length 0 := by rw [← he, mapG, List.append_nil]
    have hsg : sigS X (⟨#[]⟩ : ByteArray) = argS (parS X.f1) (idx X.f1.length) X.f1.length 0 ((⟨#[]⟩ : ByteArray) ++ (((⟨#[102, 110, 32]⟩ : ByteArray) ++ X.f0) ++ (⟨#[40]⟩ : ByteArray))) ++ (⟨#[41]⟩ : ByteArray) := rfl
    have sz : (Lib.join ((mapG (parS X.f1) (idx X.f1.length) X.f1.length 0).map (·.data.toList)) [44, 32]).length ≤ 5000000 := by
      have := congrArg List.length J
      rw [List.length_append] at this
      have s1 : (argS (parS X.f1) (idx X.f1.length) X.f1.length 0 ((⟨#[]⟩ : ByteArray) ++ (((⟨#[102, 110, 32]⟩ : ByteArray) ++ X.f0) ++ (⟨#[40]⟩ : ByteArray)))).data.toList.length = (argS (parS X.f1) (idx X.f1.length) X.f1.length 0 ((⟨#[]⟩ : ByteArray) ++ (((⟨#[102, 110, 32]⟩ : ByteArray) ++ X.f0) ++ (⟨#[40]⟩ : ByteArray)))).size := rfl
      rw [hsg, ByteArray.size_append] at hs
      omega
    have hm : (mapG (parS X.f1) (idx X.f1.length) X.f1.length 0).length ≤ 3 := by rw [← e1, hl]; have := h.2.1; omega
    have hj : strings_Join.f l (⟨#[44, 32]⟩ : ByteArray) = some ⟨(Lib.join ((mapG (parS X.f1) (idx X.f1.length) X.f1.length 0).map (·.data.toList)) [44, 32]).toArray⟩ := by
      rw [strings_Join.f, if_pos ⟨by rw [e1]; omega, by rw [e1]; show (Lib.join _ [44, 32]).length ≤ _; omega⟩, e1]
    have sj : (⟨(Lib.join ((mapG (parS X.f1) (idx X.f1.length) X.f1.length 0).map (·.data.toList)) [44, 32]).toArray⟩ : ByteArray).size ≤ 5000000 := by simpa [ByteArray.size] using sz
    have hg : (((((⟨#[102, 110, 32]⟩ : ByteArray) ++ X.f0) ++ (⟨#[40]⟩ : ByteArray)) ++ (⟨(Lib.join ((mapG (parS X.f1) (idx X.f1.length) X.f1.length 0).map (·.data.toList)) [44, 32]).toArray⟩ : ByteArray)) ++ (⟨#[41]⟩ : ByteArray)) = sigS X (⟨#[]⟩ : ByteArray) := by
      rw [hsg, e0]
      rw [e0] at J
      congr 1
      refine Zca ?_
      rw [J]
      simp [ByteArray.data_append]
    have E := Zgd ns F hP X h (resS X (sigS X (⟨#[]⟩ : ByteArray))) (by have := Zdy X (sigS X (⟨#[]⟩ : ByteArray)); omega)
    have hfn : fnS ns X (⟨#[]⟩ : ByteArray) = Zaw ns X (resS X (sigS X (⟨#[]⟩ : ByteArray))) := rfl
    rw [hfn]
    generalize Zaw ns X (resS X (sigS X (⟨#[]⟩ : ByteArray))) = R at E
    refine Zb E fun k e => ?_
    rw [impl_showFn.l0, if_neg (by omega), if_pos (by omega), if_pos (by rw [ByteArray.size_append]; omega), hj, Option.bind_some, if_pos (by simp only [ByteArray.size_append]; omega), if_pos (by simp only [ByteArray.size_append]; omega), hg]
    unfold resS at e
    by_cases c : X.f2 = 0
    · rw [if_pos c] at e ⊢
      exact e
    · rw [if_neg c] at e ⊢
      rw [Zed X.f2 (by have := h.2.2.2.1; omega) (by have := h.2.2.2.1; omega), Option.bind_some, if_pos (by omega), if_pos (by rw [ByteArray.size_append]; omega)]
      exact e
  | n + 1, p, l, hn, hl, he => by
    have hp : p < X.f1.length := by omega
    obtain ⟨g1, g2, g3⟩ := h.2.2.1 p hp
    have ht := Zal (rd_T58 X.f1 (p : Int)).f1
    have l1 : (⟨#[58, 32]⟩ : ByteArray).size = 2 := rfl
    have h31 := h.2.1
    refine Zb (Zcq ns F hP X h n (p + 1) (l ++ [parS X.f1 (p : Int)]) (by omega) (by simp; omega) (by rw [← he, mapG, Zhp _ p hp]; simp)) fun k e1 => ?_
    rw [impl_showFn.l0, if_pos (by omega), if_pos (by omega), if_pos (by omega), if_pos (by omega), Zed _ g2 g3, Option.bind_some, if_pos (by rw [ByteArray.size_append]; omega), if_pos (by omega), Zf (by omega)]
    exact e1
theorem Zgr (ns : List Za) (F : List FnT) (hP : Zq ns F) (X : FnT) (h : Zak ns X) : Ev (fun k => impl_showFn.f k ns F X.f0 X.f1 X.f2 X.f3 X.f4) (fnS ns X (⟨#[]⟩ : ByteArray)) :=
  Zj (Zcq ns F hP X h X.f1.length 0 [] (by omega) rfl (by simp)) fun k e => e
def Zbp (ns : List Za) (F : List FnT) : Nat → Nat → ByteArray → ByteArray
  | 0, _, acc => acc
  | n + 1, p, acc => Zbp ns F n (p + 1) (fnS ns (rd_T56 F (p : Int)) acc)
def endV (t : ByteArray) : ByteArray × Bool := if (t.size : Int) > 3000 then ((⟨#[]⟩ : ByteArray), false) else (t, true)
theorem Zbt (ns : List Za) (F : List FnT) (hP : Zq ns F) (hF : F.length ≤ 8) (hg : ∀ i : Nat, i < F.length → Zak ns (rd_T56 F (i : Int))) : ∀ (n p : Nat) (acc : ByteArray), n + p = F.length → acc.size ≤ p * 110000000000000000 →
    Ev (fun k => impl_ShowProgram.l0 k acc F (F.length : Int) (p : Int) ns F) (endV (Zbp ns F n p acc))
  | 0, p, acc, h, ha => Zd fun k => by
    rw [impl_ShowProgram.l0, if_neg (by omega), Zbp, endV]
    split <;> rfl
  | n + 1, p, acc, h, ha => by
    have hp : p < F.length := by omega
    have g := hg p hp
    have h1 := Zfe ns F hP _ g acc
    have h2 := Zfe ns F hP _ g (⟨#[]⟩ : ByteArray)
    have hz : (⟨#[]⟩ : ByteArray).size = 0 := rfl
    refine Zh (Zgr ns F hP _ g) (Zbt ns F hP hF hg n (p + 1) (fnS ns (rd_T56 F (p : Int)) acc) (by omega) (by omega)) fun k e1 e2 => ?_
    rw [impl_ShowProgram.l0, if_pos (by omega), if_pos (by omega), if_pos (by omega), e1, Option.bind_some, if_pos (by omega), ← Zjk, Zf (by omega), Zbp]
    exact e2
/-- the reference's half -/
theorem Zgq (ns : List Za) (F : List FnT) (hP : Zq ns F) (X : FnT) (h : Zak ns X) (i : Nat) (hi : i < 100) (a : ByteArray) (ha : a.size ≤ 900000000000000000) (R : ByteArray × Bool) (E : Ev (fun k => spec_ShowProgram.l0 k (Zaw ns X a) ((i + 1 : Nat) : Int) ns F) R) :
    Ev (fun k => spec_ShowProgram.j2 k a (i : Int) ns F X.f0 X.f1 X.f2 X.f3 X.f4) R := by
  obtain ⟨b, eb, gb, db, kb⟩ := h.2.2.2.2.1
  obtain ⟨E1, _, h3⟩ := ((Zce ns F hP 10 b (by omega) gb db).2 kb) 1
  have h4 := Zdl 10 (by omega)
  have l1 : (⟨#[32, 123, 10]⟩ : ByteArray).size = 3 := rfl
  have l2 : (⟨#[32, 32, 114, 101, 116, 32]⟩ : ByteArray).size = 6 := rfl
  have l3 : (⟨#[59, 10]⟩ : ByteArray).size = 2 := rfl
  have l4 : (⟨#[125, 10]⟩ : ByteArray).size = 2 := rfl
  unfold Zaw at E
  by_cases hr : X.f4 ≥ 0
  · obtain ⟨r, er, gr, dr, kr⟩ := h.2.2.2.2.2 hr
    obtain ⟨E2, _, h5⟩ := Zbg ns F hP 10 r (by omega) gr dr kr
    have h6 := Zcr 10 (by omega)
    rw [if_pos hr] at E
    rw [eb, er] at E ⊢
    refine Zdc E1 E2 E fun k e1 e2 e3 => ?_
    rw [spec_ShowProgram.j2, if_pos (by omega), e1, Option.bind_some, if_pos (by rw [ByteArray.size_append]; omega), if_pos (by omega), if_pos (by simp only [ByteArray.size_append]; omega), e2, Option.bind_some, if_pos (by simp only [ByteArray.size_append]; omega), if_pos (by simp only [ByteArray.size_append]; omega), if_pos (by simp only [ByteArray.size_append]; omega), Zf (by omega)]
    simp only [ByteArray.append_assoc] at e3 ⊢
    exact e3
  · rw [if_neg hr] at E
    rw [eb] at E ⊢
    refine Zh E1 E fun k e1 e3 => ?_
    rw [spec_ShowProgram.j2, if_pos (by omega), e1, Option.bind_some, if_pos (by rw [ByteArray.size_append]; omega), if_neg hr, if_pos (by simp only [ByteArray.size_append]; omega), Zf (by omega)]
    simp only [ByteArray.append_assoc] at e3 ⊢
    exact e3
theorem Zbc (ns : List Za) (F : List FnT) (hP : Zq ns F) (X : FnT) (h : Zak ns X) (i : Nat) (hi : i < 100) (T : ByteArray) (hT : T.size ≤ 890000000000000000) (R : ByteArray × Bool) (E : Ev (fun k => spec_ShowProgram.j2 k (resS X (T ++ (⟨#[41]⟩ : ByteArray))) (i : Int) ns F X.f0 X.f1 X.f2 X.f3 X.f4) R) :
    ∀ (n p : Nat) (acc : ByteArray), n + p = X.f1.length → argS (parS X.f1) (idx X.f1.length) n p acc = T → acc.size + n * 1048590 ≤ 891000000000000000 → Ev (fun k => spec_ShowProgram.l1 k acc (i : Int) (p : Int) ns F X.f0 X.f1 X.f2 X.f3 X.f4) R
  | 0, p, acc, hn, he, ha => by
    have l1 : (⟨#[41]⟩ : ByteArray).size = 1 := rfl
    have l4 : (⟨#[32, 45, 62, 32]⟩ : ByteArray).size = 4 := rfl
    have ht := Zal X.f2
    rw [argS] at he
    subst he
    refine Zb E fun k e => ?_
    rw [spec_ShowProgram.l1, if_neg (by omega), if_pos (by omega)]
    unfold resS at e
    by_cases c : X.f2 = 0
    · rw [if_pos c] at e ⊢
      exact e
    · rw [if_neg c] at e ⊢
      rw [if_pos (by rw [ByteArray.size_append]; omega), Zcb, Option.bind_some, if_pos (by simp only [ByteArray.size_append]; omega)]
      simp only [ByteArray.append_assoc] at e ⊢
      exact e
  | n + 1, p, acc, hn, he, ha => by
    have hp : p < X.f1.length := by omega
    obtain ⟨g1, g2, g3⟩ := h.2.2.1 p hp
    have h31 := h.2.1
    have ht := Zal (rd_T58 X.f1 (p : Int)).f1
    have l1 : (⟨#[58, 32]⟩ : ByteArray).size = 2 := rfl
    have l2 : (⟨#[44, 32]⟩ : ByteArray).size = 2 := rfl
    rw [argS, Zhp _ p hp] at he
    have hq : (parS X.f1 (p : Int)).size ≤ 1048586 := by unfold parS; simp only [ByteArray.size_append]; omega
    by_cases c : p = 0
    · rw [if_pos c] at he
      refine Zb (Zbc ns F hP X h i hi T hT R E n (p + 1) _ (by omega) he (by rw [ByteArray.size_append]; omega)) fun k e => ?_
      rw [spec_ShowProgram.l1, if_pos (by omega), if_neg (by omega), if_pos (by omega), if_pos (by omega), if_pos (by rw [ByteArray.size_append]; omega), Zcb, Option.bind_some, if_pos (by simp only [ByteArray.size_append]; omega), Zf (by omega)]
      unfold parS at e
      simp only [ByteArray.append_assoc] at e ⊢
      exact e
    · rw [if_neg c] at he
      refine Zb (Zbc ns F hP X h i hi T hT R E n (p + 1) _ (by omega) he (by simp only [ByteArray.size_append]; omega)) fun k e => ?_
      rw [spec_ShowProgram.l1, if_pos (by omega), if_pos (by omega), if_pos (by omega), if_pos (by omega), if_pos (by rw [ByteArray.size_append]; omega), if_pos (by simp only [ByteArray.size_append]; omega), Zcb, Option.bind_some, if_pos (by simp only [ByteArray.size_append]; omega), Zf (by omega)]
      unfold parS at e
      simp only [ByteArray.append_assoc] at e ⊢
      exact e
theorem Zbr (ns : List Za) (F : List FnT) (hP : Zq ns F) (hF : F.length ≤ 8) (hg : ∀ i : Nat, i < F.length → Zak ns (rd_T56 F (i : Int))) : ∀ (n p : Nat) (acc : ByteArray), n + p = F.length → acc.size ≤ p * 110000000000000000 →
    Ev (fun k => spec_ShowProgram.l0 k acc (p : Int) ns F) (endV (Zbp ns F n p acc))
  | 0, p, acc, h, ha => Zd fun k => by
    rw [spec_ShowProgram.l0, if_neg (by omega), Zbp, endV]
    split <;> rfl
  | n + 1, p, acc, h, ha => by
    have hp : p < F.length := by omega
    have g := hg p hp
    have h1 := Zfe ns F hP _ g acc
    have hs := Zeh ns _ g acc
    have hr := Zdy (rd_T56 F (p : Int)) (sigS (rd_T56 F (p : Int)) acc)
    have hx := g.1
    have h31 := g.2.1
    have l1 : (⟨#[102, 110, 32]⟩ : ByteArray).size = 3 := rfl
    have l2 : (⟨#[40]⟩ : ByteArray).size = 1 := rfl
    have l3 : (⟨#[41]⟩ : ByteArray).size = 1 := rfl
    have E0 := Zbr ns F hP hF hg n (p + 1) (fnS ns (rd_T56 F (p : Int)) acc) (by omega) (by omega)
    have E1 := Zgq ns F hP _ g p (by omega) (resS (rd_T56 F (p : Int)) (sigS (rd_T56 F (p : Int)) acc)) (by omega) _ E0
    have hsz : (argS (parS (rd_T56 F (p : Int)).f1) (idx (rd_T56 F (p : Int)).f1.length) (rd_T56 F (p : Int)).f1.length 0 (acc ++ (((⟨#[102, 110, 32]⟩ : ByteArray) ++ (rd_T56 F (p : Int)).f0) ++ (⟨#[40]⟩ : ByteArray)))).size ≤ 890000000000000000 := by
      unfold sigS at hs
      rw [ByteArray.size_append] at hs
      omega
    have E2 := Zbc ns F hP _ g p (by omega) _ hsz _ E1 (rd_T56 F (p : Int)).f1.length 0 _ (by omega) rfl (by simp only [ByteArray.size_append]; omega)
    refine Zb E2 fun k e => ?_
    rw [spec_ShowProgram.l0, if_pos (by omega), if_pos (by omega), if_pos (by omega), if_pos (by rw [ByteArray.size_append]; omega), if_pos (by simp only [ByteArray.size_append]; omega), Zbp]
    simp only [ByteArray.append_assoc] at e ⊢
    exact e
theorem Zei (P : List Za) (F : List FnT) : ∀ (n i : Nat) (U : List Int), Zz P F n i U = true → ∀ q : Nat, i ≤ q → q < i + n → fnV P F q = true
  | 0, i, U, h, q, h1, h2 => by omega
  | n + 1, i, U, h, q, h1, h2 => by
    rw [Zz, Bool.and_eq_true] at h
    by_cases e : q = i
    · subst e; exact h.1
    · have h3 := h.2
      simp only at h3
      split at h3
      · exact Zei P F n (i + 1) _ h3 q (by omega) (by omega)
      · exact Zei P F n (i + 1) _ h3 q (by omega) (by omega)
theorem Zfp (xs : List ParT) : ∀ (n p : Nat), Zx xs n p = true → ∀ q : Nat, p ≤ q → q < p + n → Zo (rd_T58 xs (q : Int)).f0 = true ∧ 1 ≤ (rd_T58 xs (q : Int)).f1 ∧ (rd_T58 xs (q : Int)).f1 ≤ 4
  | 0, p, h, q, h1, h2 => by omega
  | n + 1, p, h, q, h1, h2 => by
    rw [Zx, Bool.and_eq_true, Bool.and_eq_true] at h
    by_cases e : q = p
    · subst e
      have := h.2.1
      unfold inB at this
      exact ⟨h.1, of_decide_eq_true this⟩
    · exact Zfp xs n (p + 1) h.2.2 q (by omega) (by omega)
theorem Zev (s : ByteArray) (h : Zo s = true) : s.size ≤ 8 := by
  unfold Zo at h
  simp only [Bool.and_eq_true, decide_eq_true_eq] at h
  exact h.1.1.1.2
theorem Zia (P : List Za) (F : List FnT) (h : Zaz P F = true) : F.length ≤ 8 ∧ ∀ i : Nat, i < F.length → Zak P (rd_T56 F (i : Int)) := by
  unfold Zaz at h
  simp only [Bool.and_eq_true] at h
  obtain ⟨h1, h2, h3, h4⟩ := h
  have hn : 1 ≤ (P.length : Int) ∧ (P.length : Int) ≤ 300 := by unfold inB at h1; exact of_decide_eq_true h1
  have hf : 1 ≤ (F.length : Int) ∧ (F.length : Int) ≤ 8 := by unfold inB at h2; exact of_decide_eq_true h2
  have hd : ¬ Zam P ((P.length : Int) - 1) = 0 := by
    intro e
    rw [e] at h3
    exact absurd h3 (by decide)
  obtain ⟨m, em, hm, gm, _⟩ := Zhz P _ hd
  have hml : m + 1 = P.length := by omega
  have hds : ∃ ds, Zg P (m + 1) = some ds := by
    unfold Zam inB at hd
    rw [em, Int.toNat_natCast] at hd
    cases e : Zg P (m + 1) with
    | none => rw [e] at hd; simp at hd
    | some ds => exact ⟨ds, rfl⟩
  obtain ⟨ds, eds⟩ := hds
  have hgood : ∀ j : Nat, j < P.length → Zaf P j := fun j hj i hi => gm i (by omega)
  have hdep : ∀ j : Nat, j < P.length → Zai P 10 (j : Int) := fun j hj => Zff P (m + 1) ds eds 10 j (by omega) ((Zah P _ ds eds).2 j (by omega)).2
  refine ⟨by omega, fun i hi => ?_⟩
  have hv := Zei P F F.length 0 _ h4 i (by omega) (by omega)
  unfold fnV at hv
  rw [Bool.and_eq_true] at hv
  have hok := hv.1
  unfold Zdi at hok
  simp only [Bool.and_eq_true, decide_eq_true_eq] at hok
  obtain ⟨k1, k2, k3, k4, k5⟩ := hok
  have k3' : 0 ≤ (rd_T56 F (i : Int)).f2 ∧ (rd_T56 F (i : Int)).f2 ≤ 2 := by unfold inB at k3; exact of_decide_eq_true k3
  unfold Zbn Zfs at k5
  simp only [Bool.and_eq_true, beq_iff_eq] at k5
  obtain ⟨⟨b1, b2⟩, r1⟩ := k5
  have b1' : 0 ≤ (rd_T56 F (i : Int)).f3 ∧ (rd_T56 F (i : Int)).f3 ≤ (P.length : Int) - 1 := by unfold inB at b1; exact of_decide_eq_true b1
  obtain ⟨b, eb⟩ := Int.eq_ofNat_of_zero_le b1'.1
  refine ⟨by have := Zev _ k1; omega, k2, fun q hq => ?_, k3', ⟨b, eb, hgood b (by omega), hdep b (by omega), by rw [← eb]; exact b2⟩, fun hr => ?_⟩
  · have h5 := Zfp _ _ 0 k4 q (by omega) (by omega)
    exact ⟨by have := Zev _ h5.1; omega, h5.2⟩
  · unfold retV at r1
    by_cases c : (rd_T56 F (i : Int)).f2 = 0
    · rw [if_pos c, beq_iff_eq] at r1
      omega
    · rw [if_neg c, Bool.and_eq_true] at r1
      obtain ⟨r2, r3⟩ := r1
      have r2' : 0 ≤ (rd_T56 F (i : Int)).f4 ∧ (rd_T56 F (i : Int)).f4 ≤ (P.length : Int) - 1 := by unfold inB at r2; exact of_decide_eq_true r2
      have r3' : 1 ≤ (rd_T62 P (rd_T56 F (i : Int)).f4).f0 ∧ (rd_T62 P (rd_T56 F (i : Int)).f4).f0 ≤ 12 := by unfold inB at r3; exact of_decide_eq_true r3
      obtain ⟨r, er⟩ := Int.eq_ofNat_of_zero_le r2'.1
      exact ⟨r, er, hgood r (by omega), hdep r (by omega), by rw [← er]; exact r3'⟩
theorem Zgf (P : List Za) (F : List FnT) (hP : Zq P F) : ∃ (t : ByteArray) (b : Bool), Ev (fun k => spec_ShowProgram.f k P F) (t, b) ∧ Ev (fun k => impl_ShowProgram.f k P F) (t, b) := by
  have E1 := Zep P F hP
  have E2 := Zen P F hP
  have hz : (⟨#[]⟩ : ByteArray).size = 0 := rfl
  cases c : Zaz P F with
  | false =>
    rw [c] at E1 E2
    exact ⟨(⟨#[]⟩ : ByteArray), false, Zj E1 fun k e => by rw [spec_ShowProgram.f, e, Option.bind_some, if_neg (by decide)], Zj E2 fun k e => by rw [impl_ShowProgram.f, e, Option.bind_some, if_neg (by decide)]⟩
  | true =>
    rw [c] at E1 E2
    obtain ⟨hF, hg⟩ := Zia P F c
    have S := Zbr P F hP hF hg F.length 0 (⟨#[]⟩ : ByteArray) (by omega) (by omega)
    have I := Zbt P F hP hF hg F.length 0 (⟨#[]⟩ : ByteArray) (by omega) (by omega)
    refine ⟨(endV (Zbp P F F.length 0 (⟨#[]⟩ : ByteArray))).1, (endV (Zbp P F F.length 0 (⟨#[]⟩ : ByteArray))).2, Zax E1 S fun k e e2 => ?_, Zax E2 I fun k e e2 => ?_⟩
    · rw [spec_ShowProgram.f, e, Option.bind_some, if_pos rfl]; exact e2
    · rw [impl_ShowProgram.f, e, Option.bind_some, if_pos rfl]; exact e2

theorem FnExactShowProgram : ∀ (l0_0 : List S80) (l0_1 : List S84), (l0_0.length ≤ maxLen ∧ ∀ a ∈ l0_0, G80 a) → (l0_1.length ≤ maxLen ∧ ∀ a ∈ l0_1, G84 a) → ∃ k, laws_FnExactShowProgram.f k l0_0 l0_1 = some true := by
  intro ns fs hn hf
  obtain ⟨r, E1, h1⟩ := Zem ns fs 1048576 (by decide) (by decide) hn.1 (fun x hx => ⟨(hn.2 x hx).2.2.1, (hn.2 x hx).2.2.2.1⟩) hf.1 (fun x hx => ⟨(hf.2 x hx).1, (hf.2 x hx).2.1.1, fun y hy => ((hf.2 x hx).2.1.2 y hy).1⟩)
  by_cases c : r < 0
  · obtain ⟨k, e⟩ := E1.rounds
    have e' : laws_szProgram.f k ns fs 1048576 = some r := e
    exact ⟨k, by rw [laws_FnExactShowProgram.f, e', Option.bind_some, if_pos c]⟩
  rcases h1 with h1 | h1
  · exact absurd h1 c
  have hP := h1.2.2
  obtain ⟨t, b, E7, E8⟩ := Zgf _ _ hP
  obtain ⟨K1, e1⟩ := E1
  obtain ⟨K3, e3⟩ := Zeq ns fs hP
  obtain ⟨K5, e5⟩ := Zeo _ _ hP
  obtain ⟨K7, e7⟩ := E7
  obtain ⟨K8, e8⟩ := E8
  refine ⟨K1 + K3 + K5 + K7 + K8 + 1, ?_⟩
  have f1 := e1 (K1 + K3 + K5 + K7 + K8 + 1) (by omega)
  have f3 := e3 (K1 + K3 + K5 + K7 + K8 + 1) (by omega)
  have g3 := e3 (K1 + K3 + K5 + K7 + K8) (by omega)
  have g5 := e5 (K1 + K3 + K5 + K7 + K8) (by omega)
  have f7 := e7 (K1 + K3 + K5 + K7 + K8 + 1) (by omega)
  have f8 := e8 (K1 + K3 + K5 + K7 + K8 + 1) (by omega)
  simp only [laws_FnExactShowProgram.f]
  simp only [f1, f3, f7, f8, Option.bind_some, if_neg c, if_true, bne_self_eq_false]
  rw [laws_FnExactShowProgram.j0, if_neg (by decide)]
  simp only [g3, g5, Option.bind_some, if_true]
end Go.Proofs.YtcoapbnbakmkoaaGreatDoor.Pure
