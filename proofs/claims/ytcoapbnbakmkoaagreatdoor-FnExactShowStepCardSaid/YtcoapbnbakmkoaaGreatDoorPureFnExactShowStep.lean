/- The program's ShowStep returns what the reference's returns, for all programs and places, and leaves its argument as it is. No condition beside what the statement itself asks. -/
import Derived.Test.YtcoapbnbakmkoaaGreatDoorPFnExactShowStepx15
import Derived.Test.YtcoapbnbakmkoaaGreatDoorRdFnExactShowStep
import Derived.Lib.ItoaNum
import Derived.Lib.ItoaLen
import Derived.Lib.Join
set_option linter.unusedVariables false
set_option linter.unusedSimpArgs false
namespace Go.Proofs.YtcoapbnbakmkoaaGreatDoor.Pure
open Go.RowKit Go.Proofs.YtcoapbnbakmkoaaGreatDoor.PFnExactShowStep Go.Proofs.YtcoapbnbakmkoaaGreatDoor.RdFnExactShowStep Go.Proofs.YtcoapbnbakmkoaaGreatDoorW.PrintWords Go.Proofs.YtcoapbnbakmkoaaGreatDoorW.PrintLast

theorem b_w64 {x : Int} (h0 : -9223372036854775808 ≤ x) (h1 : x ≤ 9223372036854775807) : wrap64 x = x := by unfold wrap64; omega
theorem b_i64 {x : Int} (h : (Lit.int .i64 x).wf = true) : -9223372036854775808 ≤ x ∧ x ≤ 9223372036854775807 := by
  simp only [Lit.wf, Bool.and_eq_true, decide_eq_true_eq] at h
  have h1 : IntKind.i64.min = -9223372036854775808 := by decide
  have h2 : IntKind.i64.max = 9223372036854775807 := by decide
  omega
theorem b_tmod {x y : Int} (h : 0 ≤ x) : Int.tmod x y = x % y := Int.tmod_eq_emod_of_nonneg h
theorem b_tdiv {x y : Int} (h : 0 ≤ x) : Int.tdiv x y = x / y := Int.tdiv_eq_ediv_of_nonneg h
theorem ev_a0 {α : Type} {F : Nat → Option α} {r : α} (H : ∀ k, F k = some r) : Ev F r := ⟨0, fun k _ => H k⟩
theorem ev_s0 {α : Type} {F : Nat → Option α} {r : α} (H : ∀ k, F (k + 1) = some r) : Ev F r := by
  refine ⟨1, fun k hk => ?_⟩
  obtain ⟨m, rfl⟩ : ∃ m, k = m + 1 := ⟨k - 1, by omega⟩
  exact H m
theorem ev_a1 {α β : Type} {F : Nat → Option α} {r : α} {g : Nat → Option β} {a : β} (ha : Ev g a) (H : ∀ k, g k = some a → F k = some r) : Ev F r := by
  obtain ⟨K, ha⟩ := ha
  exact ⟨K, fun k hk => H k (ha k hk)⟩
theorem ev_s1 {α β : Type} {F : Nat → Option α} {r : α} {g : Nat → Option β} {a : β} (ha : Ev g a) (H : ∀ k, g k = some a → F (k + 1) = some r) : Ev F r := by
  obtain ⟨K, ha⟩ := ha
  refine ⟨K + 1, fun k hk => ?_⟩
  obtain ⟨m, rfl⟩ : ∃ m, k = m + 1 := ⟨k - 1, by omega⟩
  exact H m (ha m (by omega))
theorem ev_and {α β : Type} {g : Nat → Option α} {f : Nat → Option β} {a : α} {b : β} (ha : Ev g a) (hb : Ev f b) : ∃ K, ∀ k, K ≤ k → g k = some a ∧ f k = some b := by
  obtain ⟨K, ha⟩ := ha
  obtain ⟨K', hb⟩ := hb
  exact ⟨max K K', fun k hk => ⟨ha k (by omega), hb k (by omega)⟩⟩
theorem ev_a2 {α β γ : Type} {F : Nat → Option α} {r : α} {g : Nat → Option β} {a : β} {f : Nat → Option γ} {b : γ} (ha : Ev g a) (hb : Ev f b) (H : ∀ k, g k = some a → f k = some b → F k = some r) : Ev F r := by
  obtain ⟨K, h⟩ := ev_and ha hb
  exact ⟨K, fun k hk => H k (h k hk).1 (h k hk).2⟩
theorem ev_s2 {α β γ : Type} {F : Nat → Option α} {r : α} {g : Nat → Option β} {a : β} {f : Nat → Option γ} {b : γ} (ha : Ev g a) (hb : Ev f b) (H : ∀ k, g k = some a → f k = some b → F (k + 1) = some r) : Ev F r := by
  obtain ⟨K, h⟩ := ev_and ha hb
  refine ⟨K + 1, fun k hk => ?_⟩
  obtain ⟨m, rfl⟩ : ∃ m, k = m + 1 := ⟨k - 1, by omega⟩
  exact H m (h m (by omega)).1 (h m (by omega)).2
theorem ev_s3 {α β γ δ : Type} {F : Nat → Option α} {r : α} {g : Nat → Option β} {a : β} {f : Nat → Option γ} {b : γ} {e : Nat → Option δ} {c : δ} (ha : Ev g a) (hb : Ev f b) (hc : Ev e c) (H : ∀ k, g k = some a → f k = some b → e k = some c → F (k + 1) = some r) : Ev F r := by
  obtain ⟨K, h⟩ := ev_and ha hb
  obtain ⟨K', h'⟩ := hc
  refine ⟨max K K' + 1, fun k hk => ?_⟩
  obtain ⟨m, rfl⟩ : ∃ m, k = m + 1 := ⟨k - 1, by omega⟩
  exact H m (h m (by omega)).1 (h m (by omega)).2 (h' m (by omega))
theorem set_at {α : Type} : ∀ (a : List α) (b : α) (r : List α) (v : α) (i : Nat), a.length = i → (a ++ b :: r).set i v = a ++ v :: r
  | [], b, r, v, i, h => by subst h; rfl
  | x :: a, b, r, v, i, h => by
    subst h
    simp only [List.cons_append, List.length_cons, List.set_cons_succ, set_at a b r v a.length rfl]
theorem copy_step {α β : Type} (f : α → β) (xs : List α) (z : β) (i : Nat) (h : i < xs.length) :
    ((xs.take i).map f ++ List.replicate (xs.length - i) z).set i (f xs[i]) = (xs.take (i + 1)).map f ++ List.replicate (xs.length - (i + 1)) z := by
  rw [show xs.length - i = (xs.length - (i + 1)) + 1 by omega, List.replicate_succ, set_at _ _ _ _ i (by simp; omega), List.take_succ_eq_append_getElem h, List.map_append, List.append_assoc]
  rfl
theorem rd_nat (xs : List Int) (i : Nat) (h : i < xs.length) : rd xs (i : Int) = xs[i] := by
  unfold rd
  rw [Int.toNat_natCast, List.getD_eq_getElem?_getD, List.getElem?_eq_getElem h]; rfl
theorem getD_nat {α : Type} (xs : List α) (z : α) (i : Nat) (h : i < xs.length) : xs.getD ((i : Int)).toNat z = xs[i] := by
  rw [Int.toNat_natCast, List.getD_eq_getElem?_getD, List.getElem?_eq_getElem h]; rfl
theorem w_succ {i : Nat} (h : i < 4611686018427387904) : wrap64 ((i : Int) + 1) = ((i + 1 : Nat) : Int) := by unfold wrap64; omega
theorem laws_toIntS_l0 (l : List Int) (hl : l.length ≤ 1048576) : ∀ (d i : Nat), i + d = l.length →
    Ev (fun k => laws_toIntS.l0 k l ((l.take i).map id ++ List.replicate (l.length - i) 0) (i : Int)) l
  | 0, i, h => by
    refine ev_s0 (fun k => ?_)
    simp only [laws_toIntS.l0]
    rw [if_neg (by omega), show l.length - i = 0 by omega, show i = l.length by omega]; simp
  | d + 1, i, h => by
    refine ev_s1 (laws_toIntS_l0 l hl d (i + 1) (by omega)) (fun k e => ?_)
    have hi : i < l.length := by omega
    simp only [laws_toIntS.l0]
    rw [if_pos (by omega), if_pos (by omega), if_pos (by simp; omega), Int.toNat_natCast, rd_nat l i hi, show l[i] = id l[i] from rfl, copy_step id l 0 i hi, w_succ (by omega)]
    exact e
theorem laws_toIntS_ev (l : List Int) (hl : l.length ≤ 1048576) : Ev (fun k => laws_toIntS.f k l) l := by
  refine ev_a1 (laws_toIntS_l0 l hl l.length 0 (by omega)) (fun k e => ?_)
  simp only [laws_toIntS.f]
  rw [if_pos (by omega), Int.toNat_natCast, if_pos (by omega)]
  simpa using e
theorem laws_eqIntS_l0 (a : List Int) (hl : a.length ≤ 1048576) : ∀ (d i : Nat), i + d = a.length → Ev (fun k => laws_eqIntS.l0 k a a (i : Int)) true
  | 0, i, h => by
    refine ev_s0 (fun k => ?_)
    simp only [laws_eqIntS.l0]
    rw [if_neg (by omega)]
  | d + 1, i, h => by
    refine ev_s1 (laws_eqIntS_l0 a hl d (i + 1) (by omega)) (fun k e => ?_)
    simp only [laws_eqIntS.l0, if_true]
    rw [if_pos (by omega), if_pos (by omega), if_pos (by omega), w_succ (by omega)]
    exact e
theorem laws_eqIntS_ev (a : List Int) (hl : a.length ≤ 1048576) : Ev (fun k => laws_eqIntS.f k a a) true := by
  refine ev_a1 (laws_eqIntS_l0 a hl a.length 0 (by omega)) (fun k e => ?_)
  simp only [laws_eqIntS.f, if_true]
  exact e

theorem w_succ2 {i : Nat} (h : i < 9223372036854775807) : wrap64 ((i : Int) + 1) = ((i + 1 : Nat) : Int) := by unfold wrap64; omega
theorem sz_sub (a : Int) (n : Nat) (h0 : 0 ≤ a) (h1 : a ≤ 1048576) (hn : n ≤ maxLen) : wrap64 (a - (n : Int)) = a - n := by
  unfold maxLen at hn
  exact b_w64 (by omega) (by omega)
theorem laws_szIntS_or (l : List Int) (a : Int) (h0 : 0 ≤ a) (h1 : a ≤ 1048576) (hl : l.length ≤ maxLen) : ∃ r, laws_szIntS.f l a = some r ∧ (r < 0 ∨ (0 ≤ r ∧ r ≤ a ∧ l.length ≤ 1048576)) := by
  rw [laws_szIntS.f, sz_sub a _ h0 h1 hl]
  by_cases c : a - (l.length : Int) < 0
  · rw [if_pos c]; exact ⟨_, rfl, .inl (by omega)⟩
  · rw [if_neg c]; exact ⟨_, rfl, .inr ⟨by omega, by omega, by omega⟩⟩
abbrev NodeL := S80
abbrev NodeT := S62
def nodeOf (x : NodeL) : NodeT := ⟨x.f0, x.f1, x.f2, x.f3⟩
def nodeWf (x : NodeL) : Prop := x.f2.size ≤ maxLen ∧ x.f3.length ≤ maxLen
def nodeSm (x : NodeT) : Prop := x.f2.size ≤ 1048576 ∧ x.f3.length ≤ 1048576
theorem rdNL_nat (xs : List NodeL) (i : Nat) (h : i < xs.length) : rd_T80 xs (i : Int) = xs[i] := by
  unfold rd_T80
  exact getD_nat xs _ i h
theorem rdNT_nat (xs : List NodeT) (i : Nat) (h : i < xs.length) : rd_T62 xs (i : Int) = xs[i] := by
  unfold rd_T62
  exact getD_nat xs _ i h
theorem laws_szNode_or (x : NodeL) (a : Int) (h0 : 0 ≤ a) (h1 : a ≤ 1048576) (w : nodeWf x) : ∃ r, laws_szNode.f x.f0 x.f1 x.f2 x.f3 a = some r ∧ (r < 0 ∨ (0 ≤ r ∧ r ≤ a ∧ nodeSm (nodeOf x))) := by
  rw [laws_szNode.f, sz_sub a _ h0 h1 w.1]
  by_cases c : a - (x.f2.size : Int) < 0
  · rw [if_pos c]; exact ⟨_, rfl, .inl (by omega)⟩
  · rw [if_neg c]
    obtain ⟨r, e, h⟩ := laws_szIntS_or x.f3 (a - (x.f2.size : Int)) (by omega) (by omega) w.2
    rw [e, Option.bind_some]
    by_cases d : r < 0
    · rw [if_pos d]; exact ⟨_, rfl, .inl (by omega)⟩
    · rw [if_neg d]
      rcases h with h | h
      · exact absurd h d
      · exact ⟨_, rfl, .inr ⟨h.1, by omega, ⟨by show x.f2.size ≤ 1048576; omega, h.2.2⟩⟩⟩
theorem laws_szNodeS_l0 (l : List NodeL) (hl : l.length ≤ maxLen) (hw : ∀ x ∈ l, nodeWf x) : ∀ (d i : Nat) (a : Int), i + d = l.length → 0 ≤ a → a ≤ 1048576 →
    ∃ r, Ev (fun k => laws_szNodeS.l0 k l a (i : Int)) r ∧ (r < 0 ∨ (0 ≤ r ∧ r ≤ a ∧ ∀ x ∈ l.drop i, nodeSm (nodeOf x)))
  | 0, i, a, h, h0, h1 => ⟨a, ev_s0 (fun k => by simp only [laws_szNodeS.l0]; rw [if_neg (by omega)]), .inr ⟨h0, by omega, by rw [List.drop_eq_nil_of_le (by omega)]; simp⟩⟩
  | d + 1, i, a, h, h0, h1 => by
    have hi : i < l.length := by omega
    have hl' := hl
    unfold maxLen at hl'
    obtain ⟨r, e, hr⟩ := laws_szNode_or l[i] a h0 h1 (hw _ (List.getElem_mem hi))
    have q1 : (i : Int) < (l.length : Int) := by omega
    have q2 : (0 : Int) ≤ (i : Int) := by omega
    by_cases c : r < 0
    · exact ⟨-1, ev_s0 (fun k => by simp only [laws_szNodeS.l0]; rw [if_pos q1, if_pos q2, rdNL_nat l i hi, e, Option.bind_some, if_pos c]), .inl (by omega)⟩
    · rcases hr with hr | hr
      · exact absurd hr c
      · obtain ⟨r2, E, h2⟩ := laws_szNodeS_l0 l hl hw d (i + 1) r (by omega) hr.1 (by omega)
        refine ⟨r2, ev_s1 E (fun k e' => ?_), ?_⟩
        · simp only [laws_szNodeS.l0]; rw [if_pos q1, if_pos q2, rdNL_nat l i hi, e, Option.bind_some, if_neg c, w_succ2 (by omega)]; exact e'
        · rcases h2 with h2 | h2
          · exact .inl h2
          · refine .inr ⟨h2.1, by omega, ?_⟩
            rw [List.drop_eq_getElem_cons hi]
            intro x hx
            rcases List.mem_cons.mp hx with hx | hx
            · rw [hx]; exact hr.2.2
            · exact h2.2.2 x hx
theorem laws_szNodeS_or (l : List NodeL) (a : Int) (h0 : 0 ≤ a) (h1 : a ≤ 1048576) (hl : l.length ≤ maxLen) (hw : ∀ x ∈ l, nodeWf x) :
    ∃ r, Ev (fun k => laws_szNodeS.f k l a) r ∧ (r < 0 ∨ (0 ≤ r ∧ r ≤ a ∧ l.length ≤ 1048576 ∧ ∀ x ∈ l, nodeSm (nodeOf x))) := by
  have e := sz_sub a _ h0 h1 hl
  by_cases c : a - (l.length : Int) < 0
  · exact ⟨-1, ev_a0 (fun k => by simp only [laws_szNodeS.f]; rw [e, if_pos c]), .inl (by omega)⟩
  · obtain ⟨r, E, h⟩ := laws_szNodeS_l0 l hl hw l.length 0 (a - (l.length : Int)) (by omega) (by omega) (by omega)
    refine ⟨r, ev_a1 E (fun k e' => by simp only [laws_szNodeS.f]; rw [e, if_neg c]; exact e'), ?_⟩
    rcases h with h | h
    · exact .inl h
    · exact .inr ⟨h.1, by omega, by omega, fun x hx => h.2.2 x (by simpa using hx)⟩
theorem laws_toNodeS_l0 (l : List NodeL) (hl : l.length ≤ 1048576) (hk : ∀ x ∈ l, nodeSm (nodeOf x)) : ∀ (d i : Nat), i + d = l.length →
    Ev (fun k => laws_toNodeS.l0 k l ((l.take i).map nodeOf ++ List.replicate (l.length - i) z62) (i : Int)) (l.map nodeOf)
  | 0, i, h => by
    refine ev_s0 (fun k => ?_)
    simp only [laws_toNodeS.l0]
    rw [if_neg (by omega), show l.length - i = 0 by omega, show i = l.length by omega]; simp
  | d + 1, i, h => by
    have hi : i < l.length := by omega
    refine ev_s2 (laws_toNodeS_l0 l hl hk d (i + 1) (by omega)) (laws_toIntS_ev l[i].f3 (hk _ (List.getElem_mem hi)).2) (fun k e e2 => ?_)
    simp only [laws_toNodeS.l0, laws_toNode.f]
    rw [if_pos (by omega), if_pos (by omega), rdNL_nat l i hi, e2]
    simp only [Option.bind_some]
    rw [if_pos (by simp; omega), Int.toNat_natCast, show (⟨l[i].f0, l[i].f1, l[i].f2, l[i].f3⟩ : NodeT) = nodeOf l[i] from rfl, copy_step nodeOf l z62 i hi, w_succ (by omega)]
    exact e
theorem laws_toNodeS_ev (l : List NodeL) (hl : l.length ≤ 1048576) (hk : ∀ x ∈ l, nodeSm (nodeOf x)) : Ev (fun k => laws_toNodeS.f k l) (l.map nodeOf) := by
  refine ev_a1 (laws_toNodeS_l0 l hl hk l.length 0 (by omega)) (fun k e => ?_)
  simp only [laws_toNodeS.f]
  rw [if_pos (by omega), Int.toNat_natCast, if_pos (by omega)]
  simpa using e
theorem laws_eqNodeS_l0 (a : List NodeT) (hl : a.length ≤ 1048576) (hk : ∀ x ∈ a, nodeSm x) : ∀ (d i : Nat), i + d = a.length → Ev (fun k => laws_eqNodeS.l0 k a a (i : Int)) true
  | 0, i, h => by
    refine ev_s0 (fun k => ?_)
    simp only [laws_eqNodeS.l0]
    rw [if_neg (by omega)]
  | d + 1, i, h => by
    have hi : i < a.length := by omega
    refine ev_s2 (laws_eqNodeS_l0 a hl hk d (i + 1) (by omega)) (laws_eqIntS_ev a[i].f3 (hk _ (List.getElem_mem hi)).2) (fun k e e2 => ?_)
    simp only [laws_eqNodeS.l0, laws_eqNode.f, if_true]
    rw [if_pos (by omega), if_pos (by omega), if_pos (by omega), rdNT_nat a i hi, e2]
    simp only [Option.bind_some, if_true]
    rw [w_succ (by omega)]
    exact e
theorem laws_eqNodeS_ev (a : List NodeT) (hl : a.length ≤ 1048576) (hk : ∀ x ∈ a, nodeSm x) : Ev (fun k => laws_eqNodeS.f k a a) true := by
  refine ev_a1 (laws_eqNodeS_l0 a hl hk a.length 0 (by omega)) (fun k e => ?_)
  simp only [laws_eqNodeS.f, if_true]
  exact e

open Given
def keyIn (l : List ByteArray) (s : ByteArray) : Bool := l.any fun w => decide (w.toList = s.toList)
theorem keyIn_step (l : List ByteArray) (i : Nat) (h : i < l.length) (s : ByteArray) : keyIn (l.drop i) s = if (rdOf ByteArray.empty l (i : Int)).toList = s.toList then true else keyIn (l.drop (i + 1)) s := by
  rw [List.drop_eq_getElem_cons h]
  have e : rdOf ByteArray.empty l (i : Int) = l[i] := by simp [rdOf, List.getD, List.getElem?_eq_getElem h]
  rw [e]
  unfold keyIn
  rw [List.any_cons]
  by_cases c : l[i].toList = s.toList
  · rw [if_pos c, decide_eq_true c]; rfl
  · rw [if_neg c, decide_eq_false c]; rfl
theorem spec_KeyWord_l0_ev (s : ByteArray) (l : List ByteArray) (hl : l.length ≤ 1000) : ∀ n i : Nat, l.length - i = n → i ≤ l.length → Ev (fun k => spec_KeyWord.l0 k s l (i : Int)) (keyIn (l.drop i) s)
  | 0, i, hn, hi => ev_s0 fun k => by
    have : ¬ (i : Int) < (l.length : Int) := by omega
    have e : l.drop i = [] := List.drop_eq_nil_of_le (by omega)
    rw [spec_KeyWord.l0, if_neg this, e]; rfl
  | n + 1, i, hn, hi => ev_s1 (spec_KeyWord_l0_ev s l hl n (i + 1) (by omega) (by omega)) fun k h => by
    have q1 : (i : Int) < (l.length : Int) := by omega
    have q2 : (0 : Int) ≤ i := by omega
    have q3 : i < l.length := by omega
    have e : wrap64 ((i : Int) + 1) = ((i + 1 : Nat) : Int) := by rw [b_w64 (by omega) (by omega)]; omega
    rw [spec_KeyWord.l0, if_pos q1, if_pos q2, e, keyIn_step l i q3 s]
    by_cases c : (rdOf ByteArray.empty l (i : Int)).toList = s.toList
    · rw [if_pos c, if_pos c]
    · rw [if_neg c, if_neg c]; exact h
theorem impl_oneOf_l0_ev (s : ByteArray) (l : List ByteArray) (hl : l.length ≤ 1000) : ∀ n i : Nat, l.length - i = n → i ≤ l.length → Ev (fun k => impl_oneOf.l0 k s l (l.length : Int) (i : Int)) (keyIn (l.drop i) s)
  | 0, i, hn, hi => ev_s0 fun k => by
    have : ¬ (i : Int) < (l.length : Int) := by omega
    have e : l.drop i = [] := List.drop_eq_nil_of_le (by omega)
    rw [impl_oneOf.l0, if_neg this, e]; rfl
  | n + 1, i, hn, hi => ev_s1 (impl_oneOf_l0_ev s l hl n (i + 1) (by omega) (by omega)) fun k h => by
    have q1 : (i : Int) < (l.length : Int) := by omega
    have q2 : (0 : Int) ≤ i := by omega
    have q3 : i < l.length := by omega
    have e : wrap64 ((i : Int) + 1) = ((i + 1 : Nat) : Int) := by rw [b_w64 (by omega) (by omega)]; omega
    rw [impl_oneOf.l0, if_pos q1, if_pos q2, if_pos q1, e, keyIn_step l i q3 s]
    by_cases c : (rdOf ByteArray.empty l (i : Int)).toList = s.toList
    · rw [if_pos c, if_pos c]
    · rw [if_neg c, if_neg c]; exact h
def theKeys : List ByteArray := [⟨#[102, 110]⟩, ⟨#[108, 101, 116]⟩, ⟨#[105, 102]⟩, ⟨#[101, 108, 115, 101]⟩, ⟨#[119, 104, 105, 108, 101]⟩, ⟨#[112, 114, 105, 110, 116]⟩, ⟨#[100, 111]⟩, ⟨#[110, 101, 119]⟩, ⟨#[99, 108, 111, 110, 101]⟩, ⟨#[109, 117, 116]⟩, ⟨#[105, 110, 112, 117, 116]⟩, ⟨#[105, 110, 116]⟩, ⟨#[98, 111, 120]⟩, ⟨#[114, 101, 116]⟩]
theorem theKeys_spec : spec_l03Keys.f = some theKeys := rfl
theorem theKeys_split : strings_Split.f (⟨#[102, 110, 32, 108, 101, 116, 32, 105, 102, 32, 101, 108, 115, 101, 32, 119, 104, 105, 108, 101, 32, 112, 114, 105, 110, 116, 32, 100, 111, 32, 110, 101, 119, 32, 99, 108, 111, 110, 101, 32, 109, 117, 116, 32, 105, 110, 112, 117, 116, 32, 105, 110, 116, 32, 98, 111, 120, 32, 114, 101, 116]⟩ : ByteArray) (⟨#[32]⟩ : ByteArray) = some theKeys := by
  kernel_rfl
theorem spec_KeyWord_ev (s : ByteArray) : Ev (fun k => spec_KeyWord.f k s) (keyIn theKeys s) :=
  ev_a1 (spec_KeyWord_l0_ev s theKeys (by decide) 14 0 rfl (by decide)) fun k h => by
    rw [spec_KeyWord.f, theKeys_spec]; exact h
theorem impl_KeyWord_ev (s : ByteArray) : Ev (fun k => impl_KeyWord.f k s) (keyIn theKeys s) :=
  ev_a1 (impl_oneOf_l0_ev s theKeys (by decide) 14 0 rfl (by decide)) fun k h => by
    rw [impl_KeyWord.f, impl_oneOf.f, theKeys_split, Option.bind_some]
    have h' : impl_oneOf.l0 k s theKeys (theKeys.length : Int) 0 = some (keyIn theKeys s) := h
    rw [h']; rfl

def isLe (x : Int) : Bool := decide (97 ≤ x ∧ x ≤ 122)
def isFi (x : Int) : Bool := decide (48 ≤ x ∧ x ≤ 57)
theorem spec_letter_is (x : Int) : spec_l03Letter.f x = some (isLe x) := by
  unfold spec_l03Letter.f isLe
  by_cases c : x ≥ 97
  · rw [if_pos c]; by_cases d : x ≤ 122 <;> simp [d, c]
  · rw [if_neg c]; simp; intro h; omega
theorem spec_figure_is (x : Int) : spec_l03Figure.f x = some (isFi x) := by
  unfold spec_l03Figure.f isFi
  by_cases c : x ≥ 48
  · rw [if_pos c]; by_cases d : x ≤ 57 <;> simp [d, c]
  · rw [if_neg c]; simp; intro h; omega
theorem impl_letter_is (x : Int) : impl_isLetter.f x = some (isLe x) := spec_letter_is x
theorem impl_figure_is (x : Int) : impl_isFigure.f x = some (isFi x) := spec_figure_is x

theorem spec_in_is (x y z : Int) : spec_l01In.f x y z = some (decide (y ≤ x ∧ x ≤ z)) := by
  unfold spec_l01In.f
  by_cases c : x ≥ y
  · rw [if_pos c]; by_cases d : x ≤ z <;> simp [d, c]
  · rw [if_neg c]; simp; intro h; omega

theorem impl_in_is (x y z : Int) : impl_in.f x y z = some (decide (y ≤ x ∧ x ≤ z)) := by
  unfold impl_in.f
  by_cases c : x ≥ y
  · rw [if_pos c]; by_cases d : x ≤ z <;> simp [d, c]
  · rw [if_neg c]; simp; intro h; omega

def allAl (s : ByteArray) : Nat → Nat → Bool
  | 0, _ => true
  | n + 1, i => if isLe (bt s (i : Int)) = true then allAl s n (i + 1) else if isFi (bt s (i : Int)) = true then allAl s n (i + 1) else false
theorem spec_NameOk_l0_ev (s : ByteArray) (hs : s.size ≤ 1000) : ∀ n i : Nat, s.size - i = n → i ≤ s.size → Ev (fun k => spec_NameOk.l0 k s (i : Int)) (allAl s n i)
  | 0, i, hn, hi => ev_s0 fun k => by
    have : ¬ (i : Int) < (s.size : Int) := by omega
    rw [spec_NameOk.l0, if_neg this]; rfl
  | n + 1, i, hn, hi => ev_s1 (spec_NameOk_l0_ev s hs n (i + 1) (by omega) (by omega)) fun k h => by
    have q1 : (i : Int) < (s.size : Int) := by omega
    have q2 : (0 : Int) ≤ i := by omega
    have e : wrap64 ((i : Int) + 1) = ((i + 1 : Nat) : Int) := by rw [b_w64 (by omega) (by omega)]; omega
    rw [spec_NameOk.l0, if_pos q1, if_pos q2, e, spec_letter_is, spec_figure_is, Option.bind_some, Option.bind_some, h, allAl]
    cases isLe (bt s (i : Int)) <;> cases isFi (bt s (i : Int)) <;> rfl
theorem impl_NameOk_l0_ev (s : ByteArray) (hs : s.size ≤ 1000) : ∀ n i : Nat, s.size - i = n → i ≤ s.size → Ev (fun k => impl_NameOk.l0 k s (i : Int)) (allAl s n i && !keyIn theKeys s)
  | 0, i, hn, hi => ev_s1 (impl_KeyWord_ev s) fun k h => by
    have : ¬ (i : Int) < (s.size : Int) := by omega
    have h2 := impl_KeyWord.mono s k _ h
    rw [impl_NameOk.l0, if_neg this, h]; rfl
  | n + 1, i, hn, hi => ev_s1 (impl_NameOk_l0_ev s hs n (i + 1) (by omega) (by omega)) fun k h => by
    have q1 : (i : Int) < (s.size : Int) := by omega
    have q2 : (0 : Int) ≤ i := by omega
    have e : wrap64 ((i : Int) + 1) = ((i + 1 : Nat) : Int) := by rw [b_w64 (by omega) (by omega)]; omega
    rw [impl_NameOk.l0, if_pos q1, if_pos q2, e, impl_letter_is, impl_figure_is, Option.bind_some, Option.bind_some, h, allAl]
    cases isLe (bt s (i : Int)) <;> cases isFi (bt s (i : Int)) <;> rfl
def nameOk (s : ByteArray) : Bool := decide (1 ≤ s.size ∧ s.size ≤ 8) && isLe (bt s 0) && allAl s s.size 0 && !keyIn theKeys s
theorem spec_NameOk_ev (s : ByteArray) : Ev (fun k => spec_NameOk.f k s) (nameOk s) := by
  by_cases q : 1 ≤ s.size ∧ s.size ≤ 8
  · have q1 : 0 < (s.size : Int) := by omega
    have q2 : (1 : Int) ≤ (s.size : Int) ∧ (s.size : Int) ≤ 8 := by omega
    obtain ⟨K, H⟩ := ev_and (spec_KeyWord_ev s) (spec_NameOk_l0_ev s (by omega) s.size 0 (by omega) (by omega))
    refine ⟨K + 1, fun k hk => ?_⟩
    obtain ⟨m, rfl⟩ : ∃ m, k = m + 1 := ⟨k - 1, by omega⟩
    have h1 := (H (m + 1) (by omega)).1
    have h2 := (H m (by omega)).2
    have h2' : spec_NameOk.l0 m s 0 = some (allAl s s.size 0) := h2
    show spec_NameOk.f (m + 1) s = _
    rw [spec_NameOk.f, spec_in_is, Option.bind_some, decide_eq_true q2, if_pos rfl, if_pos q1, spec_letter_is, Option.bind_some, h1, Option.bind_some, nameOk, decide_eq_true q, spec_NameOk.j0, spec_NameOk.j0, h2']
    cases isLe (bt s 0) <;> cases keyIn theKeys s <;> cases allAl s s.size 0 <;> rfl
  · have q2 : ¬ ((1 : Int) ≤ (s.size : Int) ∧ (s.size : Int) ≤ 8) := by omega
    refine ⟨1, fun k hk => ?_⟩
    obtain ⟨m, rfl⟩ : ∃ m, k = m + 1 := ⟨k - 1, by omega⟩
    show spec_NameOk.f (m + 1) s = _
    rw [spec_NameOk.f, spec_in_is, Option.bind_some, decide_eq_false q2, nameOk, decide_eq_false q, spec_NameOk.j0]
    rfl
theorem impl_NameOk_ev (s : ByteArray) : Ev (fun k => impl_NameOk.f k s) (nameOk s) := by
  by_cases q : 1 ≤ s.size ∧ s.size ≤ 8
  · have q1 : 0 < (s.size : Int) := by omega
    have q2 : (1 : Int) ≤ (s.size : Int) ∧ (s.size : Int) ≤ 8 := by omega
    obtain ⟨K, H⟩ := impl_NameOk_l0_ev s (by omega) s.size 0 (by omega) (by omega)
    refine ⟨K + 1, fun k hk => ?_⟩
    obtain ⟨m, rfl⟩ : ∃ m, k = m + 1 := ⟨k - 1, by omega⟩
    have h2' : impl_NameOk.l0 m s 0 = some (allAl s s.size 0 && !keyIn theKeys s) := H m (by omega)
    show impl_NameOk.f (m + 1) s = _
    rw [impl_NameOk.f, impl_in_is, Option.bind_some, decide_eq_true q2, if_pos rfl, if_pos q1, impl_letter_is, Option.bind_some, nameOk, decide_eq_true q, impl_NameOk.j0, h2']
    cases isLe (bt s 0) <;> cases keyIn theKeys s <;> cases allAl s s.size 0 <;> rfl
  · have q2 : ¬ ((1 : Int) ≤ (s.size : Int) ∧ (s.size : Int) ≤ 8) := by omega
    refine ⟨1, fun k hk => ?_⟩
    obtain ⟨m, rfl⟩ : ∃ m, k = m + 1 := ⟨k - 1, by omega⟩
    show impl_NameOk.f (m + 1) s = _
    rw [impl_NameOk.f, impl_in_is, Option.bind_some, decide_eq_false q2, nameOk, decide_eq_false q, impl_NameOk.j0]
    rfl

def inB (x lo hi : Int) : Bool := decide (lo ≤ x ∧ x ≤ hi)
def shapeV (a : Int) : Int × Int :=
  if a = 8 ∨ a = 13 ∨ a = 14 ∨ a = 15 ∨ a = 18 ∨ a = 19 then (1, 1) else if a = 9 ∨ a = 10 ∨ a = 11 ∨ a = 17 then (2, 2) else if a = 12 then (0, 3) else if a = 16 then (3, 3) else if a = 20 then (0, 12) else (0, 0)
theorem spec_kids_ev (a : Int) : Ev (fun k => spec_l04Kids.f k a) (shapeV a) := by
  refine ⟨2, fun k hk => ?_⟩
  obtain ⟨m, rfl⟩ : ∃ m, k = m + 2 := ⟨k - 2, by omega⟩
  show spec_l04Kids.f (m + 2) a = _
  by_cases h8 : a = 8
  · subst h8; rfl
  by_cases h13 : a = 13
  · subst h13; rfl
  by_cases h14 : a = 14
  · subst h14; rfl
  by_cases h15 : a = 15
  · subst h15; rfl
  by_cases h18 : a = 18
  · subst h18; rfl
  by_cases h19 : a = 19
  · subst h19; rfl
  by_cases h9 : a = 9
  · subst h9; rfl
  by_cases h10 : a = 10
  · subst h10; rfl
  by_cases h11 : a = 11
  · subst h11; rfl
  by_cases h17 : a = 17
  · subst h17; rfl
  by_cases h12 : a = 12
  · subst h12; rfl
  by_cases h16 : a = 16
  · subst h16; rfl
  by_cases h20 : a = 20
  · subst h20; rfl
  simp [spec_l04Kids.f, spec_l04Kids.j0, spec_l04Kids.j1, shapeV, h8, h13, h14, h15, h18, h19, h9, h10, h11, h17, h12, h16, h20]
theorem impl_shape_ev (a : Int) : Ev (fun k => impl_shape.f k a) (shapeV a) := by
  refine ⟨2, fun k hk => ?_⟩
  obtain ⟨m, rfl⟩ : ∃ m, k = m + 2 := ⟨k - 2, by omega⟩
  show impl_shape.f (m + 2) a = _
  by_cases h8 : a = 8
  · subst h8; rfl
  by_cases h13 : a = 13
  · subst h13; rfl
  by_cases h14 : a = 14
  · subst h14; rfl
  by_cases h15 : a = 15
  · subst h15; rfl
  by_cases h18 : a = 18
  · subst h18; rfl
  by_cases h19 : a = 19
  · subst h19; rfl
  by_cases h9 : a = 9
  · subst h9; rfl
  by_cases h10 : a = 10
  · subst h10; rfl
  by_cases h11 : a = 11
  · subst h11; rfl
  by_cases h17 : a = 17
  · subst h17; rfl
  by_cases h12 : a = 12
  · subst h12; rfl
  by_cases h16 : a = 16
  · subst h16; rfl
  by_cases h20 : a = 20
  · subst h20; rfl
  simp [impl_shape.f, impl_shape.j0, impl_shape.j1, shapeV, h8, h13, h14, h15, h18, h19, h9, h10, h11, h17, h12, h16, h20]
def namedV (a : Int) : Bool := inB a 2 6 || inB a 12 15
theorem spec_named_is (a : Int) : spec_l04Named.f a = some (namedV a) := by
  by_cases h : 2 ≤ a ∧ a ≤ 6
  · have : a = 2 ∨ a = 3 ∨ a = 4 ∨ a = 5 ∨ a = 6 := by omega
    rcases this with h | h | h | h | h <;> subst h <;> rfl
  by_cases h2 : 12 ≤ a ∧ a ≤ 15
  · have : a = 12 ∨ a = 13 ∨ a = 14 ∨ a = 15 := by omega
    rcases this with h | h | h | h <;> subst h <;> rfl
  rw [spec_l04Named.f, if_neg (by omega), if_neg (by omega), if_neg (by omega), if_neg (by omega), if_neg (by omega), if_neg (by omega), if_neg (by omega), if_neg (by omega), if_neg (by omega), namedV, inB, inB, decide_eq_false h, decide_eq_false h2]
  rfl
theorem impl_named_is (a : Int) : impl_hasName.f a = some (namedV a) := by
  rw [impl_hasName.f, impl_in_is, impl_in_is, Option.bind_some, namedV, inB, inB]
  cases decide (2 ≤ a ∧ a ≤ 6) <;> rfl
def fitsV (kind i kid : Int) : Bool := if kind = 20 then inB kid 13 19 else if (kind = 16 ∨ kind = 17) ∧ i > 0 then kid == 20 else if kind = 19 then kid == 12 else inB kid 1 12
theorem spec_fits_ev (kind i kid : Int) : Ev (fun k => spec_l04Fits.f k kind i kid) (fitsV kind i kid) := by
  refine ⟨1, fun k hk => ?_⟩
  obtain ⟨m, rfl⟩ : ∃ m, k = m + 1 := ⟨k - 1, by omega⟩
  show spec_l04Fits.f (m + 1) kind i kid = _
  rw [spec_l04Fits.f, spec_l04Statement.f, spec_in_is, fitsV]
  by_cases h20 : kind = 20
  · rw [if_pos h20, if_pos h20]; rfl
  rw [if_neg h20, if_neg h20]
  by_cases h16 : kind = 16
  · rw [if_pos h16, h16, spec_l04Fits.j0, if_pos (show ((16 : Int) == 16) = true from rfl), spec_l04Value.f, spec_in_is]
    by_cases hi : i > 0
    · rw [if_pos hi, if_pos ⟨.inl rfl, hi⟩]
    · rw [if_neg hi, if_neg (fun h => hi h.2), if_neg (by decide)]; rfl
  rw [if_neg h16, spec_l04Fits.j0, spec_l04Value.f, spec_in_is]
  by_cases h17 : kind = 17
  · rw [h17, if_pos (show ((17 : Int) == 17) = true from rfl)]
    by_cases hi : i > 0
    · rw [if_pos hi, if_pos ⟨.inr rfl, hi⟩]
    · rw [if_neg hi, if_neg (fun h => hi h.2), if_neg (by decide)]; rfl
  have e : (kind == 17) = false := beq_eq_false_iff_ne.mpr h17
  rw [e, if_neg (by decide), if_neg (show ¬ ((kind = 16 ∨ kind = 17) ∧ i > 0) from fun h => h.1.elim h16 h17)]
  by_cases h19 : kind = 19
  · rw [if_pos h19, if_pos h19]
  · rw [if_neg h19, if_neg h19]; rfl
theorem impl_fits_ev (kind i kid : Int) : Ev (fun k => impl_kidFits.f k kind i kid) (fitsV kind i kid) := by
  refine ⟨1, fun k hk => ?_⟩
  obtain ⟨m, rfl⟩ : ∃ m, k = m + 1 := ⟨k - 1, by omega⟩
  show impl_kidFits.f (m + 1) kind i kid = _
  rw [impl_kidFits.f, impl_isStep.f, impl_in_is, fitsV]
  by_cases h20 : kind = 20
  · rw [if_pos h20, if_pos h20]; rfl
  rw [if_neg h20, if_neg h20]
  by_cases h16 : kind = 16
  · rw [if_pos h16, h16, impl_kidFits.j0, impl_isValue.f, impl_in_is]
    by_cases hi : i > 0
    · rw [decide_eq_true hi, if_pos rfl, if_pos ⟨.inl rfl, hi⟩]
    · rw [decide_eq_false hi, if_neg (by decide), if_neg (by decide), if_neg (fun h => hi h.2), if_neg (by decide)]; rfl
  rw [if_neg h16]
  by_cases h17 : kind = 17
  · rw [if_pos h17, h17, impl_kidFits.j0, impl_isValue.f, impl_in_is]
    by_cases hi : i > 0
    · rw [decide_eq_true hi, if_pos rfl, if_pos ⟨.inr rfl, hi⟩]
    · rw [decide_eq_false hi, if_neg (by decide), if_neg (by decide), if_neg (fun h => hi h.2), if_neg (by decide)]; rfl
  rw [if_neg h17, impl_kidFits.j0, impl_isValue.f, impl_in_is, if_neg (by decide), if_neg (show ¬ ((kind = 16 ∨ kind = 17) ∧ i > 0) from fun h => h.1.elim h16 h17)]
  by_cases h19 : kind = 19
  · rw [if_pos h19, if_pos h19]
  · rw [if_neg h19, if_neg h19]; rfl
def dupR (kids : List Int) (v : Int) : Nat → Nat → Bool
  | 0, _ => false
  | n + 1, j => if v = rd kids (j : Int) then true else dupR kids v n (j + 1)
theorem rd_take (kids : List Int) (p j : Nat) (hj : j < p) (hp : p ≤ kids.length) : rd (kids.take p) (j : Int) = rd kids (j : Int) := by
  rw [rd_nat _ j (by rw [List.length_take]; omega), rd_nat kids j (by omega), List.getElem_take]
theorem impl_hasInt_l0 (kids : List Int) (p : Nat) (hp : p ≤ kids.length) (hk : kids.length ≤ 1048576) (v : Int) : ∀ n j : Nat, p - j = n → j ≤ p →
    Ev (fun k => impl_hasInt.l0 k v (kids.take p) ((kids.take p).length : Int) (j : Int)) (dupR kids v n j)
  | 0, j, hn, hj => ev_s0 fun k => by
    have hl : (kids.take p).length = p := by rw [List.length_take]; omega
    rw [impl_hasInt.l0, hl, if_neg (by omega)]; rfl
  | n + 1, j, hn, hj => ev_s1 (impl_hasInt_l0 kids p hp hk v n (j + 1) (by omega) (by omega)) fun k h => by
    have hl : (kids.take p).length = p := by rw [List.length_take]; omega
    rw [hl] at h
    rw [impl_hasInt.l0, hl, if_pos (by omega), if_pos (by omega), if_pos (by omega), rd_take kids p j (by omega) hp, w_succ (by omega), h, dupR]
    by_cases c : rd kids (j : Int) = v
    · rw [if_pos c, if_pos c.symm]
    · rw [if_neg c, if_neg (fun e => c e.symm)]
theorem impl_hasInt_ev (kids : List Int) (p : Nat) (hp : p ≤ kids.length) (hk : kids.length ≤ 1048576) (v : Int) : Ev (fun k => impl_hasInt.f k (kids.take p) v) (dupR kids v p 0) :=
  ev_a1 (impl_hasInt_l0 kids p hp hk v p 0 (by omega) (by omega)) fun k h => h
def kidsR (ns : List NodeT) (K kind : Int) (kids : List Int) : Nat → Nat → Bool
  | 0, _ => true
  | n + 1, p => inB (rd kids (p : Int)) 0 (K - 1) && fitsV kind (p : Int) (rd_T62 ns (rd kids (p : Int))).f0 && !dupR kids (rd kids (p : Int)) p 0 && kidsR ns K kind kids n (p + 1)
theorem spec_dup_l1 (ns : List NodeT) (i : Nat) (hi : i < ns.length) (hn : ns.length ≤ 1048576) (kind num : Int) (name : ByteArray) (kids : List Int) (hk : kids.length ≤ 1048576) (p : Nat) (hp : p < kids.length) (R : Bool) (H : Ev (fun k => spec_NodeOk.l0 k ns (i : Int) ((p + 1 : Nat) : Int) kind num name kids) R) : ∀ n j : Nat, p - j = n → j ≤ p →
    Ev (fun k => spec_NodeOk.l1 k ns (i : Int) (p : Int) (j : Int) kind num name kids) (!dupR kids (rd kids (p : Int)) n j && R)
  | 0, j, hn', hj => ev_s1 H fun k h => by
    rw [spec_NodeOk.l1, if_neg (by omega), w_succ (by omega), h]; rfl
  | n + 1, j, hn', hj => ev_s1 (spec_dup_l1 ns i hi hn kind num name kids hk p hp R H n (j + 1) (by omega) (by omega)) fun k h => by
    rw [spec_NodeOk.l1, if_pos (by omega), if_pos (by omega), if_pos (by omega), if_pos (by omega), if_pos (by omega), w_succ (by omega), h, dupR]
    by_cases c : rd kids (p : Int) = rd kids (j : Int)
    · rw [if_pos c, if_pos c]; rfl
    · rw [if_neg c, if_neg c]
theorem spec_kids_l0 (ns : List NodeT) (i : Nat) (hi : i < ns.length) (hn : ns.length ≤ 1048576) (kind num : Int) (name : ByteArray) (kids : List Int) (hk : kids.length ≤ 1048576) : ∀ n p : Nat, kids.length - p = n → p ≤ kids.length → Ev (fun k => spec_NodeOk.l0 k ns (i : Int) (p : Int) kind num name kids) (kidsR ns (i : Int) kind kids n p)
  | 0, p, hn', hp => ev_s0 fun k => by rw [spec_NodeOk.l0, if_neg (by omega)]; rfl
  | n + 1, p, hn', hp => by
    have q1 : (p : Int) < (kids.length : Int) := by omega
    have q2 : (0 : Int) ≤ (p : Int) := by omega
    have w1 : wrap64 ((i : Int) - 1) = (i : Int) - 1 := b_w64 (by omega) (by omega)
    have ih := spec_kids_l0 ns i hi hn kind num name kids hk n (p + 1) (by omega) (by omega)
    have hd := spec_dup_l1 ns i hi hn kind num name kids hk p (by omega) _ ih p 0 (by omega) (by omega)
    rw [kidsR]
    cases hb : inB (rd kids (p : Int)) 0 ((i : Int) - 1) with
    | false =>
      have h4 : Ev (fun k => spec_NodeOk.j4 k ns (i : Int) (p : Int) true kind num name kids) false := ev_s0 fun k => by rw [spec_NodeOk.j4, if_pos rfl]
      refine ev_s1 h4 fun k h => ?_
      unfold inB at hb
      rw [spec_NodeOk.l0, if_pos q1, if_pos q2, w1, spec_in_is, Option.bind_some, hb, if_neg (by decide)]
      exact h
    | true =>
      have hb' : 0 ≤ rd kids (p : Int) ∧ rd kids (p : Int) ≤ (i : Int) - 1 := by simpa [inB] using hb
      have p1 := hb'.1
      have p2 : rd kids (p : Int) < (ns.length : Int) := by have := hb'.2; omega
      have hf := spec_fits_ev kind (p : Int) (rd_T62 ns (rd kids (p : Int))).f0
      unfold inB at hb
      cases hv : fitsV kind (p : Int) (rd_T62 ns (rd kids (p : Int))).f0 with
      | false =>
        rw [hv] at hf
        have h4 : Ev (fun k => spec_NodeOk.j4 k ns (i : Int) (p : Int) true kind num name kids) false := ev_s0 fun k => by rw [spec_NodeOk.j4, if_pos rfl]
        refine ev_s2 hf h4 fun k h h' => ?_
        rw [spec_NodeOk.l0, if_pos q1, if_pos q2, w1, spec_in_is, Option.bind_some, hb, if_pos rfl, if_pos p1, if_pos p2, h, Option.bind_some]
        exact h'
      | true =>
        rw [hv] at hf
        have h4 : Ev (fun k => spec_NodeOk.j4 k ns (i : Int) (p : Int) false kind num name kids) (!dupR kids (rd kids (p : Int)) p 0 && kidsR ns (i : Int) kind kids n (p + 1)) := ev_s1 hd fun k h => by rw [spec_NodeOk.j4, if_neg (by decide)]; exact h
        refine ev_s2 hf h4 fun k h h' => ?_
        rw [spec_NodeOk.l0, if_pos q1, if_pos q2, w1, spec_in_is, Option.bind_some, hb, if_pos rfl, if_pos p1, if_pos p2, h, Option.bind_some]
        rw [Bool.and_self, Bool.true_and]
        exact h'
def nameV (kind : Int) (name : ByteArray) : Bool := if namedV kind = true then nameOk name else name.toList == ([] : List UInt8)
def numV2 (kind num : Int) : Bool := if kind = 1 then inB num 0 1000000000 else num == 0
theorem nameOk_nil (s : ByteArray) (h : s.toList = []) : nameOk s = false := by
  have e : s.size = 0 := by
    have e1 : s.data.toList.length = s.size := rfl
    rw [← e1, ← Lib.toList_data, h]; rfl
  unfold nameOk
  rw [decide_eq_false (by omega)]
  rfl
theorem spec_j2_ev (ns : List NodeT) (i : Nat) (hi : i < ns.length) (hn : ns.length ≤ 1048576) (kind num : Int) (name : ByteArray) (kids : List Int) (hk : kids.length ≤ 1048576) (b : Bool) : Ev (fun k => spec_NodeOk.j2 k ns (i : Int) b kind num name kids) (!b && kidsR ns (i : Int) kind kids kids.length 0) := by
  cases b with
  | true => exact ev_s0 fun k => by rw [spec_NodeOk.j2, if_pos rfl]; rfl
  | false => exact ev_s1 (spec_kids_l0 ns i hi hn kind num name kids hk kids.length 0 (by omega) (by omega)) fun k h => by rw [spec_NodeOk.j2, if_neg (by decide)]; exact h
theorem spec_j1_ev (ns : List NodeT) (i : Nat) (hi : i < ns.length) (hn : ns.length ≤ 1048576) (kind num : Int) (name : ByteArray) (kids : List Int) (hk : kids.length ≤ 1048576) (b : Bool) : Ev (fun k => spec_NodeOk.j1 k ns (i : Int) b kind num name kids) (!b && (nameV kind name && kidsR ns (i : Int) kind kids kids.length 0)) := by
  cases b with
  | true => exact ev_s0 fun k => by rw [spec_NodeOk.j1, if_pos rfl]; rfl
  | false =>
    have jt := spec_j2_ev ns i hi hn kind num name kids hk true
    have jf := spec_j2_ev ns i hi hn kind num name kids hk false
    by_cases e : name.toList = ([] : List UInt8)
    · have e1 : (name.toList != ([] : List UInt8)) = false := by rw [e]; rfl
      have e2 : (name.toList == ([] : List UInt8)) = true := by rw [e]; rfl
      cases hv : namedV kind with
      | true =>
        refine ev_s1 jt fun k h => ?_
        rw [spec_NodeOk.j1, if_neg (by decide), spec_named_is, Option.bind_some, hv, e1, if_pos (by decide), h, nameV, if_pos hv, nameOk_nil name e]; rfl
      | false =>
        refine ev_s1 jf fun k h => ?_
        rw [spec_NodeOk.j1, if_neg (by decide), spec_named_is, Option.bind_some, hv, e1, if_neg (by decide), if_pos e, h, nameV, if_neg (by rw [hv]; decide), e2]; rfl
    · have e1 : (name.toList != ([] : List UInt8)) = true := by simpa using e
      have e2 : (name.toList == ([] : List UInt8)) = false := by simpa using e
      cases hv : namedV kind with
      | true =>
        have hN := spec_NameOk_ev name
        have jN := spec_j2_ev ns i hi hn kind num name kids hk (!nameOk name)
        refine ev_s2 hN jN fun k h h' => ?_
        rw [spec_NodeOk.j1, if_neg (by decide), spec_named_is, Option.bind_some, hv, e1, if_neg (by decide), if_neg e, h, Option.bind_some, h', nameV, if_pos hv]
        cases nameOk name <;> rfl
      | false =>
        refine ev_s1 jt fun k h => ?_
        rw [spec_NodeOk.j1, if_neg (by decide), spec_named_is, Option.bind_some, hv, e1, if_pos (by decide), h, nameV, if_neg (by rw [hv]; decide), e2]; rfl
def nodeOkV (ns : List NodeT) (a : Int) : Bool :=
  inB a 0 ((ns.length : Int) - 1) && (inB (rd_T62 ns a).f0 1 20 && (inB ((rd_T62 ns a).f3.length : Int) (shapeV (rd_T62 ns a).f0).1 (shapeV (rd_T62 ns a).f0).2 &&
    (numV2 (rd_T62 ns a).f0 (rd_T62 ns a).f1 && (nameV (rd_T62 ns a).f0 (rd_T62 ns a).f2 && kidsR ns a (rd_T62 ns a).f0 (rd_T62 ns a).f3 (rd_T62 ns a).f3.length 0))))
theorem spec_NodeOk_ev (ns : List NodeT) (hn : ns.length ≤ 1048576) (hk : ∀ x ∈ ns, nodeSm x) (a : Int) : Ev (fun k => spec_NodeOk.f k ns a) (nodeOkV ns a) := by
  have w1 : wrap64 ((ns.length : Int) - 1) = (ns.length : Int) - 1 := b_w64 (by omega) (by omega)
  have jt : Ev (fun k => spec_NodeOk.j0 k ns a true) false := ev_s0 fun k => by rw [spec_NodeOk.j0, if_pos rfl]
  by_cases ha : 0 ≤ a ∧ a ≤ (ns.length : Int) - 1
  · obtain ⟨i, rfl⟩ := Int.eq_ofNat_of_zero_le ha.1
    have hi : i < ns.length := by omega
    have q1 : (0 : Int) ≤ (i : Int) := by omega
    have q2 : (i : Int) < (ns.length : Int) := by omega
    have hb : inB (i : Int) 0 ((ns.length : Int) - 1) = true := decide_eq_true ha
    have hkk : (rd_T62 ns (i : Int)).f3.length ≤ 1048576 := by rw [rdNT_nat ns i hi]; exact (hk _ (List.getElem_mem hi)).2
    generalize hX : rd_T62 ns (i : Int) = X at hkk
    have j1 := fun b => spec_j1_ev ns i hi hn X.f0 X.f1 X.f2 X.f3 hkk b
    have hs := spec_kids_ev X.f0
    rw [nodeOkV, hb, Bool.true_and, hX]
    cases hkind : inB X.f0 1 20 with
    | false =>
      refine ev_a1 jt fun k h => ?_
      unfold inB at hkind
      rw [spec_NodeOk.f, w1, spec_in_is, Option.bind_some, decide_eq_true ha, if_pos rfl, if_pos q1, if_pos q2, hX, spec_in_is, Option.bind_some, hkind]
      exact h
    | true =>
      have j0 : Ev (fun k => spec_NodeOk.j0 k ns (i : Int) false) (inB (X.f3.length : Int) (shapeV X.f0).1 (shapeV X.f0).2 && (numV2 X.f0 X.f1 && (nameV X.f0 X.f2 && kidsR ns (i : Int) X.f0 X.f3 X.f3.length 0))) := by
        cases hlen : inB (X.f3.length : Int) (shapeV X.f0).1 (shapeV X.f0).2 with
        | false =>
          refine ev_s2 hs (j1 true) fun k h h' => ?_
          unfold inB at hlen
          rw [spec_NodeOk.j0, if_neg (by decide), if_pos q1, if_pos q2, hX, h, Option.bind_some, spec_in_is, Option.bind_some, hlen, if_neg (by decide)]
          exact h'
        | true =>
          by_cases hnum : 0 ≤ X.f1 ∧ X.f1 ≤ 1000000000
          · by_cases hone : X.f0 = 1
            · refine ev_s2 hs (j1 false) fun k h h' => ?_
              unfold inB at hlen
              rw [spec_NodeOk.j0, if_neg (by decide), if_pos q1, if_pos q2, hX, h, Option.bind_some, spec_in_is, Option.bind_some, hlen, if_pos rfl, spec_in_is, Option.bind_some, decide_eq_true hnum, if_pos rfl, if_pos hone, h', numV2, if_pos hone, inB, decide_eq_true hnum]
              rfl
            · refine ev_s2 hs (j1 (X.f1 != 0)) fun k h h' => ?_
              unfold inB at hlen
              rw [spec_NodeOk.j0, if_neg (by decide), if_pos q1, if_pos q2, hX, h, Option.bind_some, spec_in_is, Option.bind_some, hlen, if_pos rfl, spec_in_is, Option.bind_some, decide_eq_true hnum, if_pos rfl, if_neg hone, h', numV2, if_neg hone]
              cases hz : X.f1 == 0 <;> simp [bne, hz]
          · refine ev_s2 hs (j1 true) fun k h h' => ?_
            have hz : numV2 X.f0 X.f1 = false := by
              unfold numV2
              by_cases hone : X.f0 = 1
              · rw [if_pos hone, inB, decide_eq_false hnum]
              · rw [if_neg hone]
                have : ¬ X.f1 = 0 := by intro e; apply hnum; omega
                exact beq_eq_false_iff_ne.mpr this
            unfold inB at hlen
            rw [spec_NodeOk.j0, if_neg (by decide), if_pos q1, if_pos q2, hX, h, Option.bind_some, spec_in_is, Option.bind_some, hlen, if_pos rfl, spec_in_is, Option.bind_some, decide_eq_false hnum, if_neg (by decide), h', hz]
            rfl
      refine ev_a1 j0 fun k h => ?_
      unfold inB at hkind
      rw [spec_NodeOk.f, w1, spec_in_is, Option.bind_some, decide_eq_true ha, if_pos rfl, if_pos q1, if_pos q2, hX, spec_in_is, Option.bind_some, hkind]
      exact h
  · refine ev_a1 jt fun k h => ?_
    rw [spec_NodeOk.f, w1, spec_in_is, Option.bind_some, decide_eq_false ha, if_neg (by decide), nodeOkV, inB, decide_eq_false ha]
    exact h
theorem impl_j2_ev (kind num : Int) (name : ByteArray) (kids : List Int) (b : Bool) : Ev (fun k => impl_NodeOk.j2 k b kind num name kids) (!b && nameV kind name) := by
  cases b with
  | true => exact ev_s0 fun k => by rw [impl_NodeOk.j2, if_pos rfl]; rfl
  | false =>
    refine ev_s1 (impl_NameOk_ev name) fun k h => ?_
    rw [impl_NodeOk.j2, if_neg (by decide), impl_named_is, Option.bind_some, h, nameV]
    cases namedV kind <;> rfl
theorem impl_kids_l0 (ns : List NodeT) (i : Nat) (hi : i < ns.length) (hn : ns.length ≤ 1048576) (kind num : Int) (name : ByteArray) (kids : List Int) (hk : kids.length ≤ 1048576) : ∀ n p : Nat, kids.length - p = n → p ≤ kids.length → Ev (fun k => impl_NodeOk.l0 k ns (i : Int) kids (kids.length : Int) (p : Int) kind num name kids) (kidsR ns (i : Int) kind kids n p && (numV2 kind num && nameV kind name))
  | 0, p, hn', hp => by
    rw [kidsR, Bool.true_and]
    by_cases hone : kind = 1
    · have j := impl_j2_ev kind num name kids (!inB num 0 1000000000)
      refine ev_s1 j fun k h => ?_
      rw [impl_NodeOk.l0, if_neg (by omega), if_pos hone, impl_in_is, Option.bind_some, numV2, if_pos hone]
      unfold inB at h ⊢
      cases hb : decide (0 ≤ num ∧ num ≤ 1000000000) <;> rw [hb] at h
      · rw [if_neg (by decide)]; exact h
      · rw [if_pos rfl]; exact h
    · refine ev_s1 (impl_j2_ev kind num name kids (num != 0)) fun k h => ?_
      rw [impl_NodeOk.l0, if_neg (by omega), if_neg hone, numV2, if_neg hone, h]
      cases hz : num == 0 <;> simp [bne, hz]
  | n + 1, p, hn', hp => by
    have q1 : (p : Int) < (kids.length : Int) := by omega
    have q2 : (0 : Int) ≤ (p : Int) := by omega
    have q3 : (p : Int) ≤ (kids.length : Int) := by omega
    have w1 : wrap64 ((i : Int) - 1) = (i : Int) - 1 := b_w64 (by omega) (by omega)
    have w2 : wrap64 ((p : Int) + 1) = ((p + 1 : Nat) : Int) := w_succ (by omega)
    have ih := impl_kids_l0 ns i hi hn kind num name kids hk n (p + 1) (by omega) (by omega)
    have hd := impl_hasInt_ev kids p (by omega) hk (rd kids (p : Int))
    have hf := impl_fits_ev kind (p : Int) (rd_T62 ns (rd kids (p : Int))).f0
    rw [kidsR]
    cases hb : inB (rd kids (p : Int)) 0 ((i : Int) - 1) with
    | false =>
      refine ev_s0 fun k => ?_
      unfold inB at hb
      rw [impl_NodeOk.l0, if_pos q1, if_pos q2, if_pos q1, w1, impl_in_is, Option.bind_some, hb, if_neg (by decide)]
      rfl
    | true =>
      have hb' : 0 ≤ rd kids (p : Int) ∧ rd kids (p : Int) ≤ (i : Int) - 1 := by simpa [inB] using hb
      have p1 := hb'.1
      have p2 : rd kids (p : Int) < (ns.length : Int) := by have := hb'.2; omega
      unfold inB at hb
      refine ev_s3 hd hf ih fun k h h' h'' => ?_
      rw [impl_NodeOk.l0, if_pos q1, if_pos q2, if_pos q1, w1, impl_in_is, Option.bind_some, hb, if_pos rfl, if_pos q3, Int.toNat_natCast, h, Option.bind_some, if_pos p1, if_pos p2, h', w2, h'']
      cases dupR kids (rd kids (p : Int)) p 0 <;> cases fitsV kind (p : Int) (rd_T62 ns (rd kids (p : Int))).f0 <;> rfl
theorem impl_NodeOk_ev (ns : List NodeT) (hn : ns.length ≤ 1048576) (hk : ∀ x ∈ ns, nodeSm x) (a : Int) : Ev (fun k => impl_NodeOk.f k ns a) (nodeOkV ns a) := by
  have w1 : wrap64 ((ns.length : Int) - 1) = (ns.length : Int) - 1 := b_w64 (by omega) (by omega)
  by_cases ha : 0 ≤ a ∧ a ≤ (ns.length : Int) - 1
  · obtain ⟨i, rfl⟩ := Int.eq_ofNat_of_zero_le ha.1
    have hi : i < ns.length := by omega
    have q1 : (0 : Int) ≤ (i : Int) := by omega
    have q2 : (i : Int) < (ns.length : Int) := by omega
    have hb : inB (i : Int) 0 ((ns.length : Int) - 1) = true := decide_eq_true ha
    have hkk : (rd_T62 ns (i : Int)).f3.length ≤ 1048576 := by rw [rdNT_nat ns i hi]; exact (hk _ (List.getElem_mem hi)).2
    generalize hX : rd_T62 ns (i : Int) = X at hkk
    have hs := impl_shape_ev X.f0
    have j0 : ∀ b : Bool, Ev (fun k => impl_NodeOk.j0 k ns (i : Int) b X.f0 X.f1 X.f2 X.f3) (!b && (kidsR ns (i : Int) X.f0 X.f3 X.f3.length 0 && (numV2 X.f0 X.f1 && nameV X.f0 X.f2))) := by
      intro b
      cases b with
      | true => exact ev_s0 fun k => by rw [impl_NodeOk.j0, if_pos rfl]; rfl
      | false => exact ev_s1 (impl_kids_l0 ns i hi hn X.f0 X.f1 X.f2 X.f3 hkk X.f3.length 0 (by omega) (by omega)) fun k h => by rw [impl_NodeOk.j0, if_neg (by decide)]; exact h
    rw [nodeOkV, hb, Bool.true_and, hX]
    cases hkind : inB X.f0 1 20 with
    | false =>
      refine ev_a2 hs (j0 true) fun k h h' => ?_
      unfold inB at hkind
      rw [impl_NodeOk.f, w1, impl_in_is, Option.bind_some, decide_eq_true ha, if_pos rfl, if_pos q1, if_pos q2, hX, h, Option.bind_some, impl_in_is, Option.bind_some, hkind, if_neg (by decide), h']
      rfl
    | true =>
      refine ev_a2 hs (j0 (!inB (X.f3.length : Int) (shapeV X.f0).1 (shapeV X.f0).2)) fun k h h' => ?_
      unfold inB at hkind h'
      rw [impl_NodeOk.f, w1, impl_in_is, Option.bind_some, decide_eq_true ha, if_pos rfl, if_pos q1, if_pos q2, hX, h, Option.bind_some, impl_in_is, Option.bind_some, hkind, if_pos rfl, impl_in_is, Option.bind_some, h']
      unfold inB
      generalize kidsR ns (i : Int) X.f0 X.f3 X.f3.length 0 = b1
      generalize numV2 X.f0 X.f1 = b2
      generalize nameV X.f0 X.f2 = b3
      generalize decide ((shapeV X.f0).1 ≤ (X.f3.length : Int) ∧ (X.f3.length : Int) ≤ (shapeV X.f0).2) = b4
      cases b1 <;> cases b2 <;> cases b3 <;> cases b4 <;> rfl
  · exact ev_a0 fun k => by
      rw [impl_NodeOk.f, w1, impl_in_is, Option.bind_some, decide_eq_false ha, if_neg (by decide), nodeOkV, inB, decide_eq_false ha]
      rfl

theorem kidsR_in (ns : List NodeT) (K kind : Int) (kids : List Int) : ∀ n p : Nat, kidsR ns K kind kids n p = true → ∀ q, p ≤ q → q < p + n → 0 ≤ rd kids (q : Int) ∧ rd kids (q : Int) ≤ K - 1
  | 0, p, _, q, h1, h2 => by omega
  | n + 1, p, h, q, h1, h2 => by
    rw [kidsR] at h
    simp only [Bool.and_eq_true] at h
    by_cases e : q = p
    · subst e
      have h0 := h.1.1.1
      unfold inB at h0
      exact of_decide_eq_true h0
    · exact kidsR_in ns K kind kids n (p + 1) h.2 q (by omega) (by omega)
theorem nodeOkV_kids (ns : List NodeT) (i : Nat) (h : nodeOkV ns (i : Int) = true) : ∀ q : Nat, q < (rd_T62 ns (i : Int)).f3.length → 0 ≤ rd (rd_T62 ns (i : Int)).f3 (q : Int) ∧ rd (rd_T62 ns (i : Int)).f3 (q : Int) ≤ (i : Int) - 1 := by
  intro q hq
  unfold nodeOkV at h
  simp only [Bool.and_eq_true] at h
  exact kidsR_in ns _ _ _ _ 0 h.2.2.2.2.2 q (by omega) (by omega)
theorem nodeOkV_lt (ns : List NodeT) (i : Nat) (h : nodeOkV ns (i : Int) = true) : i < ns.length := by
  unfold nodeOkV inB at h
  simp only [Bool.and_eq_true, decide_eq_true_eq] at h
  omega
def kidsMax (ds kids : List Int) : Nat → Nat → Int → Int
  | 0, _, d => d
  | n + 1, p, d => kidsMax ds kids n (p + 1) (if rd ds (rd kids (p : Int)) + 1 > d then rd ds (rd kids (p : Int)) + 1 else d)
theorem kidsMax_ge (ds kids : List Int) : ∀ (n p : Nat) (d : Int), d ≤ kidsMax ds kids n p d
  | 0, _, d => by rw [kidsMax]; omega
  | n + 1, p, d => by
    rw [kidsMax]
    refine Int.le_trans ?_ (kidsMax_ge ds kids n (p + 1) _)
    split <;> omega
def nodeDeep (ns : List NodeT) (ds : List Int) (i : Nat) : Int := kidsMax ds (rd_T62 ns (i : Int)).f3 (rd_T62 ns (i : Int)).f3.length 0 1
def deeps (ns : List NodeT) : Nat → Option (List Int)
  | 0 => some []
  | i + 1 => match deeps ns i with
    | none => none
    | some ds => if nodeOkV ns (i : Int) = true then (if nodeDeep ns ds i > 10 then none else some (ds ++ [nodeDeep ns ds i])) else none
theorem rd_app_lt (xs ys : List Int) (j : Nat) (h : j < xs.length) : rd (xs ++ ys) (j : Int) = rd xs (j : Int) := by
  rw [rd_nat _ j (by rw [List.length_append]; omega), rd_nat xs j h, List.getElem_append_left h]
theorem rd_app_at (xs : List Int) (v : Int) (i : Nat) (h : xs.length = i) : rd (xs ++ [v]) (i : Int) = v := by
  subst h
  rw [rd_nat _ _ (by rw [List.length_append, List.length_singleton]; omega)]
  simp
theorem deeps_is (ns : List NodeT) : ∀ (i : Nat) (ds : List Int), deeps ns i = some ds → ds.length = i ∧ ∀ j : Nat, j < i → 1 ≤ rd ds (j : Int) ∧ rd ds (j : Int) ≤ 10
  | 0, ds, h => by rw [deeps] at h; cases h; exact ⟨rfl, fun j hj => by omega⟩
  | i + 1, ds, h => by
    rw [deeps] at h
    cases e : deeps ns i with
    | none => rw [e] at h; cases h
    | some es =>
      rw [e] at h
      obtain ⟨hl, hb⟩ := deeps_is ns i es e
      simp only [] at h
      split at h
      · split at h
        · cases h
        · rename_i _ hD
          cases h
          have hg := kidsMax_ge es (rd_T62 ns (i : Int)).f3 (rd_T62 ns (i : Int)).f3.length 0 1
          refine ⟨by rw [List.length_append, List.length_singleton]; omega, fun j hj => ?_⟩
          by_cases c : j = i
          · subst c
            rw [rd_app_at es _ j hl]
            unfold nodeDeep at hD ⊢
            omega
          · rw [rd_app_lt es _ j (by omega)]; exact hb j (by omega)
      · cases h
theorem deeps_none (ns : List NodeT) (i : Nat) (h : deeps ns i = none) : ∀ d : Nat, deeps ns (i + d) = none
  | 0 => h
  | d + 1 => by rw [← Nat.add_assoc, deeps, deeps_none ns i h d]
theorem deeps_ok (ns : List NodeT) (i : Nat) (ds : List Int) (h : deeps ns (i + 1) = some ds) : nodeOkV ns (i : Int) = true ∧ ∃ es, deeps ns i = some es ∧ nodeDeep ns es i ≤ 10 ∧ ds = es ++ [nodeDeep ns es i] := by
  rw [deeps] at h
  cases e : deeps ns i with
  | none => rw [e] at h; cases h
  | some es =>
    rw [e] at h
    simp only [] at h
    split at h
    · split at h
      · cases h
      · rename_i h1 h2
        cases h
        exact ⟨h1, es, rfl, by omega, rfl⟩
    · cases h
theorem w_kid (x : Int) (h0 : 1 ≤ x) (h1 : x ≤ 10) : wrap64 (x + 1) = x + 1 := b_w64 (by omega) (by omega)
theorem impl_depths_l1 (ns : List NodeT) (a : Int) (ds : List Int) (i : Nat) (hd : ds.length = i) (hb : ∀ j : Nat, j < i → 1 ≤ rd ds (j : Int) ∧ rd ds (j : Int) ≤ 10) (kids : List Int) (hk : kids.length ≤ 1048576)
    (hkk : ∀ q : Nat, q < kids.length → 0 ≤ rd kids (q : Int) ∧ rd kids (q : Int) ≤ (i : Int) - 1) (R : List Int × Bool) :
    ∀ (n p : Nat) (d : Int), kids.length - p = n → p ≤ kids.length →
    Ev (fun k => if kidsMax ds kids n p d > 10 then (some (([] : List Int), false)) else (if ds.length < 17592186044416 then (impl_depths.l0 k ns a (ds ++ [kidsMax ds kids n p d]) (wrap64 ((i : Int) + 1))) else (none))) R →
    Ev (fun k => impl_depths.l1 k ns a ds (i : Int) d kids (kids.length : Int) (p : Int)) R
  | 0, p, d, hn, hp, H => by
    refine ev_s1 H fun k h => ?_
    rw [impl_depths.l1, if_neg (by omega)]
    exact h
  | n + 1, p, d, hn, hp, H => by
    have q1 : (p : Int) < (kids.length : Int) := by omega
    have q2 : (0 : Int) ≤ (p : Int) := by omega
    obtain ⟨k1, k2⟩ := hkk p (by omega)
    obtain ⟨m, hm⟩ := Int.eq_ofNat_of_zero_le k1
    obtain ⟨b1, b2⟩ := hb m (by omega)
    have q3 : rd kids (p : Int) < (ds.length : Int) := by omega
    have r1 : kids.length - (p + 1) = n := by omega
    have r2 : p + 1 ≤ kids.length := by omega
    have w1 : wrap64 (rd ds (rd kids (p : Int)) + 1) = rd ds (rd kids (p : Int)) + 1 := by rw [hm]; exact w_kid _ b1 b2
    have w2 : wrap64 ((p : Int) + 1) = ((p + 1 : Nat) : Int) := w_succ (by omega)
    have e : mx d (rd ds (rd kids (p : Int)) + 1) = (if rd ds (rd kids (p : Int)) + 1 > d then rd ds (rd kids (p : Int)) + 1 else d) := by
      unfold mx; by_cases c : d < rd ds (rd kids (p : Int)) + 1
      · rw [if_pos c]
      · rw [if_neg c]
    refine ev_s1 (impl_depths_l1 ns a ds i hd hb kids hk hkk R n (p + 1) (if rd ds (rd kids (p : Int)) + 1 > d then rd ds (rd kids (p : Int)) + 1 else d) r1 r2 H) fun k h => ?_
    rw [impl_depths.l1, if_pos q1, if_pos q2, if_pos q1, if_pos k1, if_pos q3, w1, w2, e]
    exact h
def depthsV (ns : List NodeT) (i : Nat) : List Int × Bool := match deeps ns i with | some l => (l, true) | none => ([], false)
theorem impl_depths_l0 (ns : List NodeT) (hn : ns.length ≤ 1048576) (hk : ∀ x ∈ ns, nodeSm x) (a : Nat) (ha : a < ns.length) : ∀ (d i : Nat) (ds : List Int), i + d = a + 1 → deeps ns i = some ds →
    Ev (fun k => impl_depths.l0 k ns (a : Int) ds (i : Int)) (depthsV ns (a + 1))
  | 0, i, ds, h, e => by
    refine ev_s0 fun k => ?_
    obtain rfl : i = a + 1 := by omega
    rw [impl_depths.l0, if_neg (by omega), depthsV, e]
  | d + 1, i, ds, h, e => by
    have q1 : (i : Int) ≤ (a : Int) := by omega
    have q2 : (0 : Int) ≤ (i : Int) := by omega
    have hi : i < ns.length := by omega
    have q3 : (i : Int) < (ns.length : Int) := by omega
    obtain ⟨hl, hb⟩ := deeps_is ns i ds e
    have hN := impl_NodeOk_ev ns hn hk (i : Int)
    cases ok : nodeOkV ns (i : Int) with
    | false =>
      rw [ok] at hN
      have hz : deeps ns (i + 1) = none := by rw [deeps, e]; simp [ok]
      have hz2 := deeps_none ns (i + 1) hz d
      rw [show i + 1 + d = a + 1 by omega] at hz2
      refine ev_s1 hN fun k h1 => ?_
      rw [impl_depths.l0, if_pos q1, h1, Option.bind_some, if_neg (by decide), depthsV, hz2]
    | true =>
      rw [ok] at hN
      have hkk := nodeOkV_kids ns i ok
      have hkl : (rd_T62 ns (i : Int)).f3.length ≤ 1048576 := by rw [rdNT_nat ns i hi]; exact (hk _ (List.getElem_mem hi)).2
      have H : Ev (fun k => impl_depths.l1 k ns (a : Int) ds (i : Int) 1 (rd_T62 ns (i : Int)).f3 ((rd_T62 ns (i : Int)).f3.length : Int) ((0 : Nat) : Int)) (depthsV ns (a + 1)) := by
        refine impl_depths_l1 ns a ds i hl hb _ hkl hkk _ (rd_T62 ns (i : Int)).f3.length 0 1 rfl (by omega) ?_
        by_cases c : nodeDeep ns ds i > 10
        · have hz : deeps ns (i + 1) = none := by rw [deeps, e]; simp [ok, c]
          have hz2 := deeps_none ns (i + 1) hz d
          rw [show i + 1 + d = a + 1 by omega] at hz2
          refine ev_a0 fun k => ?_
          unfold nodeDeep at c
          rw [if_pos c, depthsV, hz2]
        · have hz : deeps ns (i + 1) = some (ds ++ [nodeDeep ns ds i]) := by rw [deeps, e]; simp [ok, c]
          refine ev_a1 (impl_depths_l0 ns hn hk a ha d (i + 1) _ (by omega) hz) fun k h1 => ?_
          unfold nodeDeep at c h1
          rw [if_neg c, if_pos (by omega), w_succ (by omega)]
          exact h1
      refine ev_s2 hN H fun k h1 h2 => ?_
      rw [impl_depths.l0, if_pos q1, h1, Option.bind_some, if_pos rfl, if_pos q2, if_pos q3]
      exact h2
def deepV (ns : List NodeT) (a : Int) : Int := if inB a 0 ((ns.length : Int) - 1) = true then (match deeps ns (a.toNat + 1) with | some l => rd l a | none => 0) else 0
theorem impl_DeepOf_ev (ns : List NodeT) (hn : ns.length ≤ 1048576) (hk : ∀ x ∈ ns, nodeSm x) (a : Int) : Ev (fun k => impl_DeepOf.f k ns a) (deepV ns a) := by
  have w1 : wrap64 ((ns.length : Int) - 1) = (ns.length : Int) - 1 := b_w64 (by omega) (by omega)
  by_cases ha : 0 ≤ a ∧ a ≤ (ns.length : Int) - 1
  · obtain ⟨i, rfl⟩ := Int.eq_ofNat_of_zero_le ha.1
    refine ev_a1 (impl_depths_l0 ns hn hk i (by omega) (i + 1) 0 [] (by omega) rfl) fun k h => ?_
    have h' : impl_depths.l0 k ns (i : Int) [] 0 = some (depthsV ns (i + 1)) := h
    have q1 : (0 : Int) ≤ (i : Int) := by omega
    rw [impl_DeepOf.f, impl_depths.f, w1, impl_in_is, Option.bind_some, decide_eq_true ha, if_pos rfl, h', Option.bind_some, deepV, inB, decide_eq_true ha, if_pos rfl, Int.toNat_natCast, depthsV]
    cases e : deeps ns (i + 1) with
    | none => simp
    | some l =>
      have hl := (deeps_is ns _ l e).1
      simp only [if_true]
      rw [if_pos q1, if_pos (by omega)]
  · refine ev_a0 fun k => ?_
    rw [impl_DeepOf.f, impl_depths.f, w1, impl_in_is, Option.bind_some, decide_eq_false ha, if_neg (by decide), Option.bind_some, deepV, inB, decide_eq_false ha]
    simp
def specL (ns : List NodeT) : Nat → List Int
  | 0 => []
  | i + 1 => match deeps ns (i + 1) with | some ds => ds | none => specL ns i ++ [0]
theorem specL_some (ns : List NodeT) (i : Nat) (ds : List Int) (h : deeps ns i = some ds) : specL ns i = ds := by
  cases i with
  | zero => rw [deeps] at h; cases h; rfl
  | succ i => rw [specL, h]
theorem specL_len (ns : List NodeT) : ∀ i : Nat, (specL ns i).length = i
  | 0 => rfl
  | i + 1 => by
    rw [specL]
    cases e : deeps ns (i + 1) with
    | some ds => exact (deeps_is ns _ ds e).1
    | none => simp only [List.length_append, List.length_singleton, specL_len ns i]
theorem specL_zero (ns : List NodeT) (i : Nat) (h : deeps ns (i + 1) = none) : rd (specL ns (i + 1)) (i : Int) = 0 := by
  rw [specL, h]
  exact rd_app_at _ 0 i (specL_len ns i)
theorem spec_deeps_l1 (ns : List NodeT) (a : Int) (ds : List Int) (i : Nat) (hi : i < ns.length) (hd : ds.length = i) (hb : ∀ j : Nat, j < i → 1 ≤ rd ds (j : Int) ∧ rd ds (j : Int) ≤ 10) (kids : List Int) (hK : (rd_T62 ns (i : Int)).f3 = kids) (hk : kids.length ≤ 1048576)
    (hkk : ∀ q : Nat, q < kids.length → 0 ≤ rd kids (q : Int) ∧ rd kids (q : Int) ≤ (i : Int) - 1) (R : List Int) :
    ∀ (n p : Nat) (d : Int), kids.length - p = n → p ≤ kids.length → 1 ≤ d →
    Ev (fun k => if kidsMax ds kids n p d > 10 then (if ds.length < 17592186044416 then (spec_l04Deeps.l0 k ns a (ds ++ [0]) (wrap64 ((i : Int) + 1))) else (none)) else (if ds.length < 17592186044416 then (spec_l04Deeps.l0 k ns a (ds ++ [kidsMax ds kids n p d]) (wrap64 ((i : Int) + 1))) else (none))) R →
    Ev (fun k => spec_l04Deeps.l1 k ns a ds (i : Int) d (p : Int)) R
  | 0, p, d, hn, hp, h1d, H => by
    have q1 : (0 : Int) ≤ (i : Int) := by omega
    have q2 : (i : Int) < (ns.length : Int) := by omega
    have H2 : Ev (fun k => spec_l04Deeps.j5 k ns a ds (i : Int) d (p : Int) false) R := ev_s1 H fun k h => by
      rw [spec_l04Deeps.j5, if_neg (by decide)]; exact h
    refine ev_s1 H2 fun k h => ?_
    rw [spec_l04Deeps.l1, if_pos (by omega), if_pos q1, if_pos q2, hK, decide_eq_false (by omega)]
    exact h
  | n + 1, p, d, hn, hp, h1d, H => by
    have q1 : (0 : Int) ≤ (i : Int) := by omega
    have q2 : (i : Int) < (ns.length : Int) := by omega
    have q3 : (p : Int) < (kids.length : Int) := by omega
    have q4 : (0 : Int) ≤ (p : Int) := by omega
    obtain ⟨k1, k2⟩ := hkk p (by omega)
    obtain ⟨m, hm⟩ := Int.eq_ofNat_of_zero_le k1
    obtain ⟨b1, b2⟩ := hb m (by omega)
    have q5 : rd kids (p : Int) < (ds.length : Int) := by omega
    have r1 : kids.length - (p + 1) = n := by omega
    have r2 : p + 1 ≤ kids.length := by omega
    have hge : 1 ≤ (if rd ds (rd kids (p : Int)) + 1 > d then rd ds (rd kids (p : Int)) + 1 else d) := by split <;> omega
    have q0 : d > 0 := by omega
    have w1 : wrap64 (rd ds (rd kids (p : Int)) + 1) = rd ds (rd kids (p : Int)) + 1 := by rw [hm]; exact w_kid _ b1 b2
    have w2 : wrap64 ((p : Int) + 1) = ((p + 1 : Nat) : Int) := w_succ (by omega)
    have ih := spec_deeps_l1 ns a ds i hi hd hb kids hK hk hkk R n (p + 1) (if rd ds (rd kids (p : Int)) + 1 > d then rd ds (rd kids (p : Int)) + 1 else d) r1 r2 hge H
    have H2 : Ev (fun k => spec_l04Deeps.j5 k ns a ds (i : Int) d (p : Int) true) R := ev_s1 ih fun k h => by
      rw [spec_l04Deeps.j5, if_pos rfl, if_pos q1, if_pos q2, hK, if_pos q4, if_pos q3, if_pos k1, if_pos q5, w1, w2]
      by_cases c : rd ds (rd kids (p : Int)) + 1 > d
      · rw [if_pos c] at h ⊢; exact h
      · rw [if_neg c] at h ⊢; exact h
    refine ev_s1 H2 fun k h => ?_
    rw [spec_l04Deeps.l1, if_pos q0, if_pos q1, if_pos q2, hK, decide_eq_true q3]
    exact h
theorem spec_deeps_zero (ns : List NodeT) (a : Int) (l : List Int) (i : Nat) (hi : i < 1048576) (hl : l.length = i) (R : List Int) (H : Ev (fun k => spec_l04Deeps.l0 k ns a (l ++ [0]) ((i + 1 : Nat) : Int)) R) (d : Int) : Ev (fun k => spec_l04Deeps.j2 k ns a l (i : Int) d true) R := by
  have h5 : Ev (fun k => spec_l04Deeps.j5 k ns a l (i : Int) 0 0 false) R := ev_s1 H fun k h => by
    rw [spec_l04Deeps.j5, if_neg (by decide), if_neg (by decide), if_pos (by omega), w_succ (by omega)]; exact h
  have h1 : Ev (fun k => spec_l04Deeps.l1 k ns a l (i : Int) 0 0) R := ev_s1 h5 fun k h => by rw [spec_l04Deeps.l1, if_neg (by decide)]; exact h
  have h3 : Ev (fun k => spec_l04Deeps.j3 k ns a l (i : Int) 0) R := ev_s1 h1 fun k h => by rw [spec_l04Deeps.j3]; exact h
  exact ev_s1 h3 fun k h => by rw [spec_l04Deeps.j2, if_pos rfl]; exact h
theorem spec_deeps_l0 (ns : List NodeT) (hn : ns.length ≤ 1048576) (hk : ∀ x ∈ ns, nodeSm x) (a : Nat) (ha : a < ns.length) : ∀ (d i : Nat), i + d = a + 1 →
    Ev (fun k => spec_l04Deeps.l0 k ns (a : Int) (specL ns i) (i : Int)) (specL ns (a + 1))
  | 0, i, h => by
    obtain rfl : i = a + 1 := by omega
    have h1 : Ev (fun k => spec_l04Deeps.j1 k ns (a : Int) (specL ns (a + 1)) ((a + 1 : Nat) : Int) false) (specL ns (a + 1)) := ev_s0 fun k => by rw [spec_l04Deeps.j1, if_neg (by decide)]
    refine ev_s1 h1 fun k h => ?_
    rw [spec_l04Deeps.l0, if_neg (by omega)]; exact h
  | d + 1, i, h => by
    have q1 : (i : Int) ≤ (a : Int) := by omega
    have hi : i < ns.length := by omega
    have q3 : (i : Int) < (ns.length : Int) := by omega
    have ih := spec_deeps_l0 ns hn hk a ha d (i + 1) (by omega)
    have hl := specL_len ns i
    have hN := spec_NodeOk_ev ns hn hk (i : Int)
    have H1 : Ev (fun k => spec_l04Deeps.j1 k ns (a : Int) (specL ns i) (i : Int) true) (specL ns (a + 1)) := by
      cases ok : nodeOkV ns (i : Int) with
      | false =>
        have hz : deeps ns (i + 1) = none := by
          rw [deeps]
          cases deeps ns i with
          | none => rfl
          | some ds => simp [ok]
        have e : specL ns (i + 1) = specL ns i ++ [0] := by rw [specL, hz]
        rw [ok] at hN
        rw [e] at ih
        refine ev_s2 hN (spec_deeps_zero ns a _ i (by omega) hl _ ih 1) fun k h1 h2 => ?_
        rw [spec_l04Deeps.j1, if_pos rfl, h1, Option.bind_some, if_neg (by decide)]
        exact h2
      | true =>
        rw [ok] at hN
        cases e : deeps ns i with
        | none =>
          have hz : deeps ns (i + 1) = none := by rw [deeps, e]
          have e2 : specL ns (i + 1) = specL ns i ++ [0] := by rw [specL, hz]
          rw [e2] at ih
          obtain ⟨j, rfl⟩ : ∃ j, i = j + 1 := ⟨i - 1, by cases i with | zero => rw [deeps] at e; cases e | succ j => omega⟩
          have z := specL_zero ns j e
          have w1 : wrap64 (((j + 1 : Nat) : Int) - 1) = (j : Int) := by rw [b_w64 (by omega) (by omega)]; omega
          refine ev_s2 hN (spec_deeps_zero ns a _ (j + 1) (by omega) hl _ ih 1) fun k h1 h2 => ?_
          rw [spec_l04Deeps.j1, if_pos rfl, h1, Option.bind_some, if_pos rfl, if_pos (by omega), w1, if_pos (by omega), if_pos (by rw [hl]; omega), z]
          exact h2
        | some ds =>
          obtain ⟨hdl, hdb⟩ := deeps_is ns i ds e
          have es := specL_some ns i ds e
          rw [es]
          have hkk := nodeOkV_kids ns i ok
          have hkl : (rd_T62 ns (i : Int)).f3.length ≤ 1048576 := by rw [rdNT_nat ns i hi]; exact (hk _ (List.getElem_mem hi)).2
          have hL : Ev (fun k => spec_l04Deeps.l1 k ns (a : Int) ds (i : Int) 1 ((0 : Nat) : Int)) (specL ns (a + 1)) := by
            refine spec_deeps_l1 ns a ds i hi hdl hdb _ rfl hkl hkk _ (rd_T62 ns (i : Int)).f3.length 0 1 rfl (by omega) (by omega) ?_
            by_cases c : nodeDeep ns ds i > 10
            · have hz : deeps ns (i + 1) = none := by rw [deeps, e]; simp [ok, c]
              have e2 : specL ns (i + 1) = ds ++ [0] := by rw [specL, hz, es]
              rw [e2] at ih
              refine ev_a1 ih fun k h1 => ?_
              unfold nodeDeep at c
              rw [if_pos c, if_pos (by omega), w_succ (by omega)]
              exact h1
            · have hz : deeps ns (i + 1) = some (ds ++ [nodeDeep ns ds i]) := by rw [deeps, e]; simp [ok, c]
              have e2 : specL ns (i + 1) = ds ++ [nodeDeep ns ds i] := by rw [specL, hz]
              rw [e2] at ih
              refine ev_a1 ih fun k h1 => ?_
              unfold nodeDeep at c h1
              rw [if_neg c, if_pos (by omega), w_succ (by omega)]
              exact h1
          have h3 : Ev (fun k => spec_l04Deeps.j3 k ns (a : Int) ds (i : Int) 1) (specL ns (a + 1)) := ev_s1 hL fun k h => by rw [spec_l04Deeps.j3]; exact h
          have h2 : Ev (fun k => spec_l04Deeps.j2 k ns (a : Int) ds (i : Int) 1 false) (specL ns (a + 1)) := ev_s1 h3 fun k h => by rw [spec_l04Deeps.j2, if_neg (by decide)]; exact h
          by_cases c : i = 0
          · refine ev_s2 hN h2 fun k h1 h2 => ?_
            rw [spec_l04Deeps.j1, if_pos rfl, h1, Option.bind_some, if_pos rfl, if_neg (by omega)]
            exact h2
          · have hb := hdb (i - 1) (by omega)
            have w1 : wrap64 ((i : Int) - 1) = ((i - 1 : Nat) : Int) := by rw [b_w64 (by omega) (by omega)]; omega
            refine ev_s2 hN h2 fun k h1 h2 => ?_
            rw [spec_l04Deeps.j1, if_pos rfl, h1, Option.bind_some, if_pos rfl, if_pos (by omega), w1, if_pos (by omega), if_pos (by rw [hdl]; omega), beq_eq_false_iff_ne.mpr (by omega)]
            exact h2
    refine ev_s1 H1 fun k h => ?_
    rw [spec_l04Deeps.l0, if_pos q1, decide_eq_true q3]
    exact h

theorem spec_DeepOf_ev (ns : List NodeT) (hn : ns.length ≤ 1048576) (hk : ∀ x ∈ ns, nodeSm x) (a : Int) : Ev (fun k => spec_DeepOf.f k ns a) (deepV ns a) := by
  have w1 : wrap64 ((ns.length : Int) - 1) = (ns.length : Int) - 1 := b_w64 (by omega) (by omega)
  by_cases ha : 0 ≤ a ∧ a ≤ (ns.length : Int) - 1
  · obtain ⟨i, rfl⟩ := Int.eq_ofNat_of_zero_le ha.1
    refine ev_a1 (spec_deeps_l0 ns hn hk i (by omega) (i + 1) 0 (by omega)) fun k h => ?_
    have h' : spec_l04Deeps.l0 k ns (i : Int) [] 0 = some (specL ns (i + 1)) := h
    have q1 : (0 : Int) ≤ (i : Int) := by omega
    have hl := specL_len ns (i + 1)
    rw [spec_DeepOf.f, w1, spec_in_is, Option.bind_some, decide_eq_true ha, if_pos rfl, spec_l04Deeps.f, h', Option.bind_some, if_pos q1, if_pos (by rw [hl]; omega), deepV, inB, decide_eq_true ha, if_pos rfl, Int.toNat_natCast]
    cases e : deeps ns (i + 1) with
    | none => rw [specL_zero ns i e]
    | some l => rw [specL_some ns _ l e]
  · refine ev_a0 fun k => ?_
    rw [spec_DeepOf.f, w1, spec_in_is, Option.bind_some, decide_eq_false ha, if_neg (by decide), deepV, inB, decide_eq_false ha]
    simp

def goodN (P : List NodeT) (a : Nat) : Prop := ∀ i : Nat, i ≤ a → nodeOkV P (i : Int) = true
theorem deeps_good (P : List NodeT) : ∀ (a : Nat) (l : List Int), deeps P (a + 1) = some l → goodN P a
  | a, l, h => by
    obtain ⟨h1, es, h2, _⟩ := deeps_ok P a l h
    intro i hi
    by_cases c : i = a
    · subst c; exact h1
    · cases a with
      | zero => omega
      | succ a => exact deeps_good P a es h2 i (by omega)
theorem goodN_kid (P : List NodeT) (a : Nat) (h : goodN P a) (q : Nat) (hq : q < (rd_T62 P (a : Int)).f3.length) : ∃ m : Nat, rd (rd_T62 P (a : Int)).f3 (q : Int) = (m : Int) ∧ m < a ∧ goodN P m := by
  obtain ⟨k1, k2⟩ := nodeOkV_kids P a (h a (by omega)) q hq
  obtain ⟨m, hm⟩ := Int.eq_ofNat_of_zero_le k1
  exact ⟨m, hm, by omega, fun i hi => h i (by omega)⟩
theorem goodN_lt (P : List NodeT) (a : Nat) (h : goodN P a) : a < P.length := nodeOkV_lt P a (h a (by omega))

abbrev ParL := S124
abbrev ParT := S58
def parOf (x : ParL) : ParT := ⟨x.f0, x.f1⟩
theorem rdPL_nat (xs : List ParL) (i : Nat) (h : i < xs.length) : rd_T124 xs (i : Int) = xs[i] := by
  unfold rd_T124
  exact getD_nat xs _ i h
theorem laws_szParam_or (x : ParL) (a : Int) (h0 : 0 ≤ a) (h1 : a ≤ 1048576) (w : x.f0.size ≤ maxLen) : ∃ r, laws_szParam.f x.f0 x.f1 a = some r ∧ (r < 0 ∨ (0 ≤ r ∧ r ≤ a)) := by
  rw [laws_szParam.f, sz_sub a _ h0 h1 w]
  by_cases c : a - (x.f0.size : Int) < 0
  · rw [if_pos c]; exact ⟨_, rfl, .inl (by omega)⟩
  · rw [if_neg c]; exact ⟨_, rfl, .inr ⟨by omega, by omega⟩⟩
theorem laws_szParamS_l0 (l : List ParL) (hl : l.length ≤ maxLen) (hw : ∀ x ∈ l, x.f0.size ≤ maxLen) : ∀ (d i : Nat) (a : Int), i + d = l.length → 0 ≤ a → a ≤ 1048576 →
    ∃ r, Ev (fun k => laws_szParamS.l0 k l a (i : Int)) r ∧ (r < 0 ∨ (0 ≤ r ∧ r ≤ a))
  | 0, i, a, h, h0, h1 => ⟨a, ev_s0 (fun k => by simp only [laws_szParamS.l0]; rw [if_neg (by omega)]), .inr ⟨h0, by omega⟩⟩
  | d + 1, i, a, h, h0, h1 => by
    have hi : i < l.length := by omega
    have hl' := hl
    unfold maxLen at hl'
    obtain ⟨r, e, hr⟩ := laws_szParam_or l[i] a h0 h1 (hw _ (List.getElem_mem hi))
    have q1 : (i : Int) < (l.length : Int) := by omega
    have q2 : (0 : Int) ≤ (i : Int) := by omega
    by_cases c : r < 0
    · exact ⟨-1, ev_s0 (fun k => by simp only [laws_szParamS.l0]; rw [if_pos q1, if_pos q2, rdPL_nat l i hi, e, Option.bind_some, if_pos c]), .inl (by omega)⟩
    · rcases hr with hr | hr
      · exact absurd hr c
      · obtain ⟨r2, E, h2⟩ := laws_szParamS_l0 l hl hw d (i + 1) r (by omega) hr.1 (by omega)
        refine ⟨r2, ev_s1 E (fun k e' => ?_), ?_⟩
        · simp only [laws_szParamS.l0]; rw [if_pos q1, if_pos q2, rdPL_nat l i hi, e, Option.bind_some, if_neg c, w_succ2 (by omega)]; exact e'
        · rcases h2 with h2 | h2
          · exact .inl h2
          · exact .inr ⟨h2.1, by omega⟩
theorem laws_szParamS_or (l : List ParL) (a : Int) (h0 : 0 ≤ a) (h1 : a ≤ 1048576) (hl : l.length ≤ maxLen) (hw : ∀ x ∈ l, x.f0.size ≤ maxLen) :
    ∃ r, Ev (fun k => laws_szParamS.f k l a) r ∧ (r < 0 ∨ (0 ≤ r ∧ r ≤ a ∧ l.length ≤ 1048576)) := by
  have e := sz_sub a _ h0 h1 hl
  by_cases c : a - (l.length : Int) < 0
  · exact ⟨-1, ev_a0 (fun k => by simp only [laws_szParamS.f]; rw [e, if_pos c]), .inl (by omega)⟩
  · obtain ⟨r, E, h⟩ := laws_szParamS_l0 l hl hw l.length 0 (a - (l.length : Int)) (by omega) (by omega) (by omega)
    refine ⟨r, ev_a1 E (fun k e' => by simp only [laws_szParamS.f]; rw [e, if_neg c]; exact e'), ?_⟩
    rcases h with h | h
    · exact .inl h
    · exact .inr ⟨h.1, by omega, by omega⟩
theorem laws_toParamS_l0 (l : List ParL) (hl : l.length ≤ 1048576) : ∀ (d i : Nat), i + d = l.length →
    Ev (fun k => laws_toParamS.l0 k l ((l.take i).map parOf ++ List.replicate (l.length - i) z58) (i : Int)) (l.map parOf)
  | 0, i, h => by
    refine ev_s0 (fun k => ?_)
    simp only [laws_toParamS.l0]
    rw [if_neg (by omega), show l.length - i = 0 by omega, show i = l.length by omega]; simp
  | d + 1, i, h => by
    have hi : i < l.length := by omega
    refine ev_s1 (laws_toParamS_l0 l hl d (i + 1) (by omega)) (fun k e => ?_)
    simp only [laws_toParamS.l0, laws_toParam.f, Option.bind_some]
    rw [if_pos (by omega), if_pos (by omega), if_pos (by simp; omega), Int.toNat_natCast, rdPL_nat l i hi, show (⟨l[i].f0, l[i].f1⟩ : ParT) = parOf l[i] from rfl, copy_step parOf l z58 i hi, w_succ (by omega)]
    exact e
theorem laws_toParamS_ev (l : List ParL) (hl : l.length ≤ 1048576) : Ev (fun k => laws_toParamS.f k l) (l.map parOf) := by
  refine ev_a1 (laws_toParamS_l0 l hl l.length 0 (by omega)) (fun k e => ?_)
  simp only [laws_toParamS.f]
  rw [if_pos (by omega), Int.toNat_natCast, if_pos (by omega)]
  simpa using e
theorem laws_eqParamS_l0 (a : List ParT) (hl : a.length ≤ 1048576) : ∀ (d i : Nat), i + d = a.length → Ev (fun k => laws_eqParamS.l0 k a a (i : Int)) true
  | 0, i, h => by
    refine ev_s0 (fun k => ?_)
    simp only [laws_eqParamS.l0]
    rw [if_neg (by omega)]
  | d + 1, i, h => by
    refine ev_s1 (laws_eqParamS_l0 a hl d (i + 1) (by omega)) (fun k e => ?_)
    simp only [laws_eqParamS.l0, laws_eqParam.f]
    rw [if_pos (by omega), if_pos (by omega), if_pos (by omega), w_succ (by omega)]
    simpa using e
theorem laws_eqParamS_ev (a : List ParT) (hl : a.length ≤ 1048576) : Ev (fun k => laws_eqParamS.f k a a) true := by
  refine ev_a1 (laws_eqParamS_l0 a hl a.length 0 (by omega)) (fun k e => ?_)
  simp only [laws_eqParamS.f, if_true]
  exact e
abbrev FnL := S84
abbrev FnT := S56
def fnOf (x : FnL) : FnT := ⟨x.f0, x.f1.map parOf, x.f2, x.f3, x.f4⟩
def fnWf (x : FnL) : Prop := x.f0.size ≤ maxLen ∧ x.f1.length ≤ maxLen ∧ ∀ y ∈ x.f1, y.f0.size ≤ maxLen
def fnSm (x : FnT) : Prop := x.f0.size ≤ 1048576 ∧ x.f1.length ≤ 1048576
theorem rdFL_nat (xs : List FnL) (i : Nat) (h : i < xs.length) : rd_T84 xs (i : Int) = xs[i] := by
  unfold rd_T84
  exact getD_nat xs _ i h
theorem rdFT_nat (xs : List FnT) (i : Nat) (h : i < xs.length) : rd_T56 xs (i : Int) = xs[i] := by
  unfold rd_T56
  exact getD_nat xs _ i h
theorem laws_szFn_or (x : FnL) (a : Int) (h0 : 0 ≤ a) (h1 : a ≤ 1048576) (w : fnWf x) : ∃ r, Ev (fun k => laws_szFn.f k x.f0 x.f1 x.f2 x.f3 x.f4 a) r ∧ (r < 0 ∨ (0 ≤ r ∧ r ≤ a ∧ fnSm (fnOf x))) := by
  have e := sz_sub a _ h0 h1 w.1
  by_cases c : a - (x.f0.size : Int) < 0
  · exact ⟨-1, ev_a0 (fun k => by simp only [laws_szFn.f]; rw [e, if_pos c]), .inl (by omega)⟩
  · obtain ⟨r, E, h⟩ := laws_szParamS_or x.f1 (a - (x.f0.size : Int)) (by omega) (by omega) w.2.1 w.2.2
    by_cases d : r < 0
    · exact ⟨-1, ev_a1 E (fun k e' => by simp only [laws_szFn.f]; rw [e, if_neg c, e', Option.bind_some, if_pos d]), .inl (by omega)⟩
    · rcases h with h | h
      · exact absurd h d
      · exact ⟨r, ev_a1 E (fun k e' => by simp only [laws_szFn.f]; rw [e, if_neg c, e', Option.bind_some, if_neg d]), .inr ⟨h.1, by omega, ⟨by show x.f0.size ≤ 1048576; omega, by show (x.f1.map parOf).length ≤ 1048576; rw [List.length_map]; exact h.2.2⟩⟩⟩
theorem laws_szFnS_l0 (l : List FnL) (hl : l.length ≤ maxLen) (hw : ∀ x ∈ l, fnWf x) : ∀ (d i : Nat) (a : Int), i + d = l.length → 0 ≤ a → a ≤ 1048576 →
    ∃ r, Ev (fun k => laws_szFnS.l0 k l a (i : Int)) r ∧ (r < 0 ∨ (0 ≤ r ∧ r ≤ a ∧ ∀ x ∈ l.drop i, fnSm (fnOf x)))
  | 0, i, a, h, h0, h1 => ⟨a, ev_s0 (fun k => by simp only [laws_szFnS.l0]; rw [if_neg (by omega)]), .inr ⟨h0, by omega, by rw [List.drop_eq_nil_of_le (by omega)]; simp⟩⟩
  | d + 1, i, a, h, h0, h1 => by
    have hi : i < l.length := by omega
    have hl' := hl
    unfold maxLen at hl'
    obtain ⟨r, e, hr⟩ := laws_szFn_or l[i] a h0 h1 (hw _ (List.getElem_mem hi))
    have q1 : (i : Int) < (l.length : Int) := by omega
    have q2 : (0 : Int) ≤ (i : Int) := by omega
    by_cases c : r < 0
    · exact ⟨-1, ev_s1 e (fun k e => by simp only [laws_szFnS.l0]; rw [if_pos q1, if_pos q2, rdFL_nat l i hi, e, Option.bind_some, if_pos c]), .inl (by omega)⟩
    · rcases hr with hr | hr
      · exact absurd hr c
      · obtain ⟨r2, E, h2⟩ := laws_szFnS_l0 l hl hw d (i + 1) r (by omega) hr.1 (by omega)
        refine ⟨r2, ev_s2 E e (fun k e' e => ?_), ?_⟩
        · simp only [laws_szFnS.l0]; rw [if_pos q1, if_pos q2, rdFL_nat l i hi, e, Option.bind_some, if_neg c, w_succ2 (by omega)]; exact e'
        · rcases h2 with h2 | h2
          · exact .inl h2
          · refine .inr ⟨h2.1, by omega, ?_⟩
            rw [List.drop_eq_getElem_cons hi]
            intro x hx
            rcases List.mem_cons.mp hx with hx | hx
            · rw [hx]; exact hr.2.2
            · exact h2.2.2 x hx
theorem laws_szFnS_or (l : List FnL) (a : Int) (h0 : 0 ≤ a) (h1 : a ≤ 1048576) (hl : l.length ≤ maxLen) (hw : ∀ x ∈ l, fnWf x) :
    ∃ r, Ev (fun k => laws_szFnS.f k l a) r ∧ (r < 0 ∨ (0 ≤ r ∧ r ≤ a ∧ l.length ≤ 1048576 ∧ ∀ x ∈ l, fnSm (fnOf x))) := by
  have e := sz_sub a _ h0 h1 hl
  by_cases c : a - (l.length : Int) < 0
  · exact ⟨-1, ev_a0 (fun k => by simp only [laws_szFnS.f]; rw [e, if_pos c]), .inl (by omega)⟩
  · obtain ⟨r, E, h⟩ := laws_szFnS_l0 l hl hw l.length 0 (a - (l.length : Int)) (by omega) (by omega) (by omega)
    refine ⟨r, ev_a1 E (fun k e' => by simp only [laws_szFnS.f]; rw [e, if_neg c]; exact e'), ?_⟩
    rcases h with h | h
    · exact .inl h
    · exact .inr ⟨h.1, by omega, by omega, fun x hx => h.2.2 x (by simpa using hx)⟩
theorem laws_toFnS_l0 (l : List FnL) (hl : l.length ≤ 1048576) (hk : ∀ x ∈ l, fnSm (fnOf x)) : ∀ (d i : Nat), i + d = l.length →
    Ev (fun k => laws_toFnS.l0 k l ((l.take i).map fnOf ++ List.replicate (l.length - i) z56) (i : Int)) (l.map fnOf)
  | 0, i, h => by
    refine ev_s0 (fun k => ?_)
    simp only [laws_toFnS.l0]
    rw [if_neg (by omega), show l.length - i = 0 by omega, show i = l.length by omega]; simp
  | d + 1, i, h => by
    have hi : i < l.length := by omega
    have hp : l[i].f1.length ≤ 1048576 := by
      have := (hk _ (List.getElem_mem hi)).2
      have e : (fnOf l[i]).f1.length = l[i].f1.length := by simp [fnOf]
      omega
    refine ev_s2 (laws_toFnS_l0 l hl hk d (i + 1) (by omega)) (laws_toParamS_ev l[i].f1 hp) (fun k e e2 => ?_)
    simp only [laws_toFnS.l0, laws_toFn.f]
    rw [if_pos (by omega), if_pos (by omega), rdFL_nat l i hi, e2]
    simp only [Option.bind_some]
    rw [if_pos (by simp; omega), Int.toNat_natCast, show (⟨l[i].f0, l[i].f1.map parOf, l[i].f2, l[i].f3, l[i].f4⟩ : FnT) = fnOf l[i] from rfl, copy_step fnOf l z56 i hi, w_succ (by omega)]
    exact e
theorem laws_toFnS_ev (l : List FnL) (hl : l.length ≤ 1048576) (hk : ∀ x ∈ l, fnSm (fnOf x)) : Ev (fun k => laws_toFnS.f k l) (l.map fnOf) := by
  refine ev_a1 (laws_toFnS_l0 l hl hk l.length 0 (by omega)) (fun k e => ?_)
  simp only [laws_toFnS.f]
  rw [if_pos (by omega), Int.toNat_natCast, if_pos (by omega)]
  simpa using e
theorem laws_eqFnS_l0 (a : List FnT) (hl : a.length ≤ 1048576) (hk : ∀ x ∈ a, fnSm x) : ∀ (d i : Nat), i + d = a.length → Ev (fun k => laws_eqFnS.l0 k a a (i : Int)) true
  | 0, i, h => by
    refine ev_s0 (fun k => ?_)
    simp only [laws_eqFnS.l0]
    rw [if_neg (by omega)]
  | d + 1, i, h => by
    have hi : i < a.length := by omega
    refine ev_s2 (laws_eqFnS_l0 a hl hk d (i + 1) (by omega)) (laws_eqParamS_ev a[i].f1 (hk _ (List.getElem_mem hi)).2) (fun k e e2 => ?_)
    simp only [laws_eqFnS.l0, laws_eqFn.f, if_true]
    rw [if_pos (by omega), if_pos (by omega), if_pos (by omega), rdFT_nat a i hi, e2]
    simp only [Option.bind_some, if_true]
    rw [w_succ (by omega)]
    exact e
theorem laws_eqFnS_ev (a : List FnT) (hl : a.length ≤ 1048576) (hk : ∀ x ∈ a, fnSm x) : Ev (fun k => laws_eqFnS.f k a a) true := by
  refine ev_a1 (laws_eqFnS_l0 a hl hk a.length 0 (by omega)) (fun k e => ?_)
  simp only [laws_eqFnS.f, if_true]
  exact e

def progSm (P : List NodeT) (F : List FnT) : Prop := (P.length ≤ 1048576 ∧ ∀ x ∈ P, nodeSm x) ∧ (F.length ≤ 1048576 ∧ ∀ x ∈ F, fnSm x)
theorem laws_szProgram_or (ns : List NodeL) (fs : List FnL) (a : Int) (h0 : 0 ≤ a) (h1 : a ≤ 1048576) (hn : ns.length ≤ maxLen) (hw : ∀ x ∈ ns, nodeWf x) (hf : fs.length ≤ maxLen) (hv : ∀ x ∈ fs, fnWf x) :
    ∃ r, Ev (fun k => laws_szProgram.f k ns fs a) r ∧ (r < 0 ∨ (0 ≤ r ∧ r ≤ a ∧ progSm (ns.map nodeOf) (fs.map fnOf))) := by
  obtain ⟨r, E1, h1'⟩ := laws_szNodeS_or ns a h0 h1 hn hw
  by_cases c : r < 0
  · exact ⟨-1, ev_a1 E1 fun k e => by rw [laws_szProgram.f, e, Option.bind_some, if_pos c], .inl (by decide)⟩
  rcases h1' with h1' | h1'
  · exact absurd h1' c
  obtain ⟨r2, E2, h2⟩ := laws_szFnS_or fs r h1'.1 (by omega) hf hv
  by_cases d : r2 < 0
  · exact ⟨-1, ev_a2 E1 E2 fun k e1 e2 => by rw [laws_szProgram.f, e1, Option.bind_some, if_neg c, e2, Option.bind_some, if_pos d], .inl (by decide)⟩
  rcases h2 with h2 | h2
  · exact absurd h2 d
  refine ⟨r2, ev_a2 E1 E2 fun k e1 e2 => by rw [laws_szProgram.f, e1, Option.bind_some, if_neg c, e2, Option.bind_some, if_neg d], .inr ⟨h2.1, by omega, ⟨by rw [List.length_map]; exact h1'.2.2.1, fun x hx => ?_⟩, ⟨by rw [List.length_map]; exact h2.2.2.1, fun x hx => ?_⟩⟩⟩
  · obtain ⟨y, hy, rfl⟩ := List.mem_map.mp hx
    exact h1'.2.2.2 y hy
  · obtain ⟨y, hy, rfl⟩ := List.mem_map.mp hx
    exact h2.2.2.2 y hy
theorem laws_toProgram_ev (ns : List NodeL) (fs : List FnL) (h : progSm (ns.map nodeOf) (fs.map fnOf)) : Ev (fun k => laws_toProgram.f k ns fs) (ns.map nodeOf, fs.map fnOf) := by
  have l1 : ns.length ≤ 1048576 := by have := h.1.1; rwa [List.length_map] at this
  have l2 : fs.length ≤ 1048576 := by have := h.2.1; rwa [List.length_map] at this
  refine ev_a2 (laws_toNodeS_ev ns l1 fun x hx => h.1.2 _ (List.mem_map.mpr ⟨x, hx, rfl⟩)) (laws_toFnS_ev fs l2 fun x hx => h.2.2 _ (List.mem_map.mpr ⟨x, hx, rfl⟩)) fun k e1 e2 => ?_
  rw [laws_toProgram.f, e1, Option.bind_some, e2, Option.bind_some]
theorem laws_eqProgram_ev (P : List NodeT) (F : List FnT) (h : progSm P F) : Ev (fun k => laws_eqProgram.f k P F P F) true := by
  refine ev_a2 (laws_eqNodeS_ev P h.1.1 h.1.2) (laws_eqFnS_ev F h.2.1 h.2.2) fun k e1 e2 => ?_
  rw [laws_eqProgram.f, e1, Option.bind_some, if_pos rfl, e2, Option.bind_some, if_pos rfl]

theorem goodN_shape (P : List NodeT) (a : Nat) (h : goodN P a) : 1 ≤ (rd_T62 P (a : Int)).f0 ∧ (rd_T62 P (a : Int)).f0 ≤ 20 ∧ (shapeV (rd_T62 P (a : Int)).f0).1 ≤ ((rd_T62 P (a : Int)).f3.length : Int) ∧ ((rd_T62 P (a : Int)).f3.length : Int) ≤ (shapeV (rd_T62 P (a : Int)).f0).2 := by
  have := h a (by omega)
  unfold nodeOkV inB at this
  simp only [Bool.and_eq_true, decide_eq_true_eq] at this
  exact ⟨this.2.1.1, this.2.1.2, this.2.2.1.1, this.2.2.1.2⟩

theorem kidsMax_kid (ds kids : List Int) : ∀ (n p : Nat) (d : Int) (q : Nat), p ≤ q → q < p + n → rd ds (rd kids (q : Int)) + 1 ≤ kidsMax ds kids n p d
  | 0, p, d, q, h1, h2 => by omega
  | n + 1, p, d, q, h1, h2 => by
    rw [kidsMax]
    by_cases c : q = p
    · subst c
      refine Int.le_trans ?_ (kidsMax_ge ds kids n (q + 1) _)
      split <;> omega
    · exact kidsMax_kid ds kids n (p + 1) _ q (by omega) (by omega)
theorem deeps_prefix (ns : List NodeT) : ∀ (i : Nat) (ds : List Int), deeps ns i = some ds → ∀ j : Nat, j < i → ∃ es, es.length = j ∧ rd ds (j : Int) = nodeDeep ns es j ∧ (∀ m : Nat, m < j → rd ds (m : Int) = rd es (m : Int)) ∧ nodeOkV ns (j : Int) = true
  | 0, ds, h, j, hj => by omega
  | i + 1, ds, h, j, hj => by
    obtain ⟨ok, es, he, _, hd⟩ := deeps_ok ns i ds h
    have hl := (deeps_is ns i es he).1
    by_cases c : j = i
    · subst c
      refine ⟨es, hl, ?_, fun m hm => ?_, ok⟩
      · rw [hd, rd_app_at es _ j hl]
      · rw [hd, rd_app_lt es _ m (by omega)]
    · obtain ⟨fs, l1, l2, l3, l4⟩ := deeps_prefix ns i es he j (by omega)
      refine ⟨fs, l1, ?_, fun m hm => ?_, l4⟩
      · rw [hd, rd_app_lt es _ j (by omega)]; exact l2
      · rw [hd, rd_app_lt es _ m (by omega)]; exact l3 m hm
def depthLe (ns : List NodeT) : Nat → Int → Prop
  | 0, _ => False
  | d + 1, a => ∀ q : Nat, q < (rd_T62 ns a).f3.length → depthLe ns d (rd (rd_T62 ns a).f3 (q : Int))
theorem depth_of (ns : List NodeT) (i : Nat) (ds : List Int) (h : deeps ns i = some ds) : ∀ (d j : Nat), j < i → rd ds (j : Int) ≤ (d : Int) → depthLe ns d (j : Int)
  | 0, j, hj, hd => by
    have := (deeps_is ns i ds h).2 j hj
    omega
  | d + 1, j, hj, hd => by
    obtain ⟨es, l1, l2, l3, ok⟩ := deeps_prefix ns i ds h j hj
    intro q hq
    obtain ⟨k1, k2⟩ := nodeOkV_kids ns j ok q hq
    obtain ⟨m, hm⟩ := Int.eq_ofNat_of_zero_le k1
    have hk := kidsMax_kid es (rd_T62 ns (j : Int)).f3 (rd_T62 ns (j : Int)).f3.length 0 1 q (by omega) (by omega)
    rw [hm] at hk ⊢
    refine depth_of ns i ds h d m (by omega) ?_
    rw [l3 m (by omega)]
    unfold nodeDeep at l2
    omega
theorem deepV_depth (P : List NodeT) (a : Int) (h : ¬deepV P a = 0) : ∃ i : Nat, a = (i : Int) ∧ i < P.length ∧ goodN P i ∧ depthLe P 10 (i : Int) := by
  unfold deepV at h
  by_cases c : inB a 0 ((P.length : Int) - 1) = true
  · rw [if_pos c] at h
    have hb : 0 ≤ a ∧ a ≤ (P.length : Int) - 1 := by simpa [inB] using c
    obtain ⟨i, rfl⟩ := Int.eq_ofNat_of_zero_le hb.1
    rw [Int.toNat_natCast] at h
    cases e : deeps P (i + 1) with
    | none => rw [e] at h; exact absurd rfl h
    | some l => exact ⟨i, rfl, by omega, deeps_good P i l e, depth_of P (i + 1) l e 10 i (by omega) ((deeps_is P (i + 1) l e).2 i (by omega)).2⟩
  · rw [if_neg c] at h; exact absurd rfl h

open Given
def decD (m : Nat) : List UInt8 := if m = 0 then [] else Lib.decDigits m
theorem decD_step (m : Nat) (h : m ≠ 0) : decD m = decD (m / 10) ++ [UInt8.ofNat (48 + m % 10)] := by
  unfold decD
  rw [if_neg h, Lib.decDigits]
  by_cases c : m < 10
  · have e : m / 10 = 0 := by omega
    have e2 : m % 10 = m := by omega
    rw [dif_pos c, e, e2]
    simp
  · have e : ¬ m / 10 = 0 := by omega
    rw [dif_neg c, if_neg e]
theorem one_char (d : Nat) (h : d < 10) : (strOfNums [((48 + d : Nat) : Int)]).data.toList = [UInt8.ofNat (48 + d)] := by
  have : d = 0 ∨ d = 1 ∨ d = 2 ∨ d = 3 ∨ d = 4 ∨ d = 5 ∨ d = 6 ∨ d = 7 ∨ d = 8 ∨ d = 9 := by omega
  rcases this with h | h | h | h | h | h | h | h | h | h <;> subst h <;> rfl
theorem spec_figc (d : Nat) (h : d < 10) : spec_l01Figure.f (d : Int) = some ((48 + d : Nat) : Int) := by
  have e : wrap64 (48 + (d : Int)) % 256 = ((48 + d : Nat) : Int) := by rw [b_w64 (by omega) (by omega)]; omega
  rw [spec_l01Figure.f, if_pos (by omega), e]
def sgnI (neg : Bool) (m : Nat) : Int := if neg = true then -(m : Int) else (m : Int)
theorem sgn_div (neg : Bool) (m : Nat) (h : m ≤ 9223372036854775808) : wrap64 (Int.tdiv (sgnI neg m) 10) = sgnI neg (m / 10) := by
  have e : Int.tdiv (m : Int) 10 = ((m / 10 : Nat) : Int) := by rw [b_tdiv (by omega)]; omega
  cases neg
  · show wrap64 (Int.tdiv (m : Int) 10) = ((m / 10 : Nat) : Int)
    rw [e]; exact b_w64 (by omega) (by omega)
  · show wrap64 (Int.tdiv (-(m : Int)) 10) = -((m / 10 : Nat) : Int)
    rw [Int.neg_tdiv, e]; exact b_w64 (by omega) (by omega)
theorem sgn_mod (neg : Bool) (m : Nat) : Int.tmod (sgnI neg m) 10 = sgnI neg (m % 10) := by
  have e : Int.tmod (m : Int) 10 = ((m % 10 : Nat) : Int) := by rw [b_tmod (by omega)]; omega
  cases neg
  · exact e
  · show Int.tmod (-(m : Int)) 10 = -((m % 10 : Nat) : Int)
    rw [Int.neg_tmod, e]
theorem dec_l0 (neg : Bool) : ∀ (d m : Nat) (s : ByteArray), m < 10 ^ d → m ≤ 9223372036854775808 → s.size + d ≤ 1000 →
    ∃ R : ByteArray, Ev (fun k => spec_Decimal.l0 k (sgnI neg m) neg s) R ∧ R.data.toList = (if neg = true then [45] else []) ++ (decD m ++ s.data.toList) := by
  have base : ∀ s : ByteArray, s.size ≤ 1000 → ∃ R : ByteArray, Ev (fun k => spec_Decimal.l0 k (sgnI neg 0) neg s) R ∧ R.data.toList = (if neg = true then [45] else []) ++ (decD 0 ++ s.data.toList) := by
    intro s hs
    have e0 : sgnI neg 0 = 0 := by cases neg <;> rfl
    rw [e0]
    cases neg
    · exact ⟨s, ev_s0 fun k => by rw [spec_Decimal.l0, if_pos rfl, if_neg (by decide)], by simp [decD]⟩
    · exact ⟨(⟨#[45]⟩ : ByteArray) ++ s, ev_s0 fun k => by rw [spec_Decimal.l0, if_pos rfl, if_pos rfl, if_pos (by omega)], by simp [decD, ByteArray.data_append]⟩
  intro d
  induction d with
  | zero =>
    intro m s h h1 hs
    have : m = 0 := by omega
    subst this
    exact base s (by omega)
  | succ d ih =>
    intro m s h h1 hs
    by_cases c : m = 0
    · subst c
      exact base s (by omega)
    · have hd : m / 10 < 10 ^ d := by rw [Nat.div_lt_iff_lt_mul (by decide), ← Nat.pow_succ]; exact h
      have hsz : (strOfNums [((48 + m % 10 : Nat) : Int)]).size = 1 := by rw [strOfNums_size]; rfl
      have hm10 : m % 10 < 10 := Nat.mod_lt _ (by decide)
      obtain ⟨R, E, hR⟩ := ih (m / 10) (strOfNums [((48 + m % 10 : Nat) : Int)] ++ s) hd (by omega) (by rw [ByteArray.size_append, hsz]; omega)
      refine ⟨R, ev_s1 E fun k e => ?_, ?_⟩
      · have n0 : ¬ sgnI neg m = 0 := by cases neg <;> simp [sgnI] <;> omega
        have hz : 1 + s.size ≤ 9223372036854775807 := by omega
        rw [spec_Decimal.l0, if_neg n0, sgn_mod, sgn_div neg m h1]
        by_cases q : sgnI neg (m % 10) < 0
        · have e1 : wrap64 (-(sgnI neg (m % 10))) = ((m % 10 : Nat) : Int) := by
            cases neg
            · exact absurd q (by simp [sgnI]; omega)
            · show wrap64 (- -((m % 10 : Nat) : Int)) = _
              rw [Int.neg_neg]; exact b_w64 (by omega) (by omega)
          rw [if_pos q, e1, spec_figc _ hm10, Option.bind_some, Option.bind_some, hsz, if_pos hz]
          exact e
        · have e1 : sgnI neg (m % 10) = ((m % 10 : Nat) : Int) := by
            cases neg
            · rfl
            · have : m % 10 = 0 := by simp [sgnI] at q; omega
              rw [this]; rfl
          rw [if_neg q, e1, spec_figc _ hm10, Option.bind_some, Option.bind_some, hsz, if_pos hz]
          exact e
      · rw [hR, ByteArray.data_append, Array.toList_append, one_char _ hm10, decD_step m c, List.append_assoc]
theorem spec_Decimal_ev (n : Int) (h : (Lit.int .i64 n).wf = true) : ∃ R : ByteArray, Ev (fun k => spec_Decimal.f k n) R ∧ R.data.toList = Lib.itoa n := by
  have hb := b_i64 h
  by_cases c : n = 0
  · subst c
    exact ⟨⟨#[48]⟩, ev_a0 fun k => by rw [spec_Decimal.f, if_pos rfl], by rw [Lib.itoa, if_neg (by decide), show (0 : Int).toNat = 0 from rfl, Lib.decDigits_one (by decide)]; rfl⟩
  · obtain ⟨R, E, hR⟩ := dec_l0 (decide (n < 0)) 20 n.natAbs ⟨#[]⟩ (by omega) (by omega) (by decide)
    have e : sgnI (decide (n < 0)) n.natAbs = n := by
      unfold sgnI
      by_cases q : n < 0
      · rw [if_pos (decide_eq_true q)]; omega
      · rw [if_neg (by simp [q])]; omega
    rw [e] at E
    refine ⟨R, ev_a1 E fun k e => by rw [spec_Decimal.f, if_neg c]; exact e, ?_⟩
    have n0 : ¬ n.natAbs = 0 := by omega
    rw [hR, Lib.itoa, decD, if_neg n0]
    by_cases q : n < 0
    · rw [if_pos (decide_eq_true q), if_pos q]; simp
    · rw [if_neg (by simp [q]), if_neg q, show n.toNat = n.natAbs by omega]; simp

theorem impl_Decimal_is (n : Int) (h : (Lit.int .i64 n).wf = true) : impl_Decimal.f n = some ⟨(Lib.itoa n).toArray⟩ := by
  rw [impl_Decimal.f, strconv_Itoa.f, if_pos (b_i64 h)]; rfl

open Given
theorem ba_ext {a b : ByteArray} (h : a.data.toList = b.data.toList) : a = b := by
  cases a; cases b; simp at h; simp [h]
def kidS (ns : List NodeT) (g : Int → ByteArray) (a : Int) : ByteArray :=
  if 9 ≤ (rd_T62 ns a).f0 ∧ (rd_T62 ns a).f0 ≤ 11 then (((⟨#[40]⟩ : ByteArray) ++ g a) ++ (⟨#[41]⟩ : ByteArray)) else g a
def argS (g : Int → ByteArray) (kids : List Int) : Nat → Nat → ByteArray → ByteArray
  | 0, _, acc => acc
  | n + 1, p, acc => argS g kids n (p + 1) ((if p = 0 then acc else acc ++ (⟨#[44, 32]⟩ : ByteArray)) ++ g (rd kids (p : Int)))
def signS (kind : Int) : ByteArray := if kind = 9 then (⟨#[32, 43, 32]⟩ : ByteArray) else if kind = 10 then (⟨#[32, 60, 32]⟩ : ByteArray) else (⟨#[32, 61, 61, 32]⟩ : ByteArray)
def showB (ns : List NodeT) (g : Int → ByteArray) (kind num : Int) (name : ByteArray) (kids : List Int) : ByteArray :=
  if kind = 1 then ⟨(Lib.itoa num).toArray⟩ else if kind = 2 then name else if kind = 3 then (⟨#[42]⟩ : ByteArray) ++ name else if kind = 4 then (⟨#[99, 108, 111, 110, 101, 32]⟩ : ByteArray) ++ name
  else if kind = 5 then (⟨#[38]⟩ : ByteArray) ++ name else if kind = 6 then (⟨#[38, 109, 117, 116, 32]⟩ : ByteArray) ++ name else if kind = 7 then (⟨#[105, 110, 112, 117, 116]⟩ : ByteArray)
  else if kind = 8 then (⟨#[110, 101, 119, 32]⟩ : ByteArray) ++ kidS ns g (rd kids 0) else if kind = 12 then argS g kids kids.length 0 (name ++ (⟨#[40]⟩ : ByteArray)) ++ (⟨#[41]⟩ : ByteArray)
  else (kidS ns g (rd kids 0) ++ signS kind) ++ kidS ns g (rd kids 1)
def showR (ns : List NodeT) : Nat → Int → ByteArray
  | 0, _ => (⟨#[]⟩ : ByteArray)
  | d + 1, a => showB ns (showR ns d) (rd_T62 ns a).f0 (rd_T62 ns a).f1 (rd_T62 ns a).f2 (rd_T62 ns a).f3
def bnd : Nat → Nat
  | 0 => 0
  | d + 1 => 3 * bnd d + 1048640
theorem bnd_le : ∀ d e : Nat, bnd d ≤ bnd (d + e)
  | d, 0 => Nat.le_refl _
  | d, e + 1 => by rw [← Nat.add_assoc, bnd]; have := bnd_le d e; omega
theorem bnd_ten (d : Nat) (h : d ≤ 10) : bnd d ≤ 100000000000 := by
  have := bnd_le d (10 - d)
  rw [show d + (10 - d) = 10 by omega] at this
  have e : bnd 10 ≤ 100000000000 := by decide
  omega
theorem kidS_size (ns : List NodeT) (g : Int → ByteArray) (a : Int) : (kidS ns g a).size ≤ (g a).size + 2 := by
  unfold kidS
  split
  · rw [ByteArray.size_append, ByteArray.size_append]
    have e1 : (⟨#[40]⟩ : ByteArray).size = 1 := rfl
    have e2 : (⟨#[41]⟩ : ByteArray).size = 1 := rfl
    omega
  · omega
theorem signS_size (k : Int) : (signS k).size ≤ 4 := by
  unfold signS
  split
  · decide
  · split <;> decide
theorem argS_size (g : Int → ByteArray) (kids : List Int) (b : Nat) : ∀ (n p : Nat) (acc : ByteArray), n + p = kids.length → (∀ q : Nat, q < kids.length → (g (rd kids (q : Int))).size ≤ b) → (argS g kids n p acc).size ≤ acc.size + n * (b + 2)
  | 0, p, acc, h, H => by rw [argS]; omega
  | n + 1, p, acc, h, H => by
    rw [argS]
    have h1 := argS_size g kids b n (p + 1) ((if p = 0 then acc else acc ++ (⟨#[44, 32]⟩ : ByteArray)) ++ g (rd kids (p : Int))) (by omega) H
    have h2 := H p (by omega)
    have h3 : (if p = 0 then acc else acc ++ (⟨#[44, 32]⟩ : ByteArray)).size ≤ acc.size + 2 := by
      split
      · omega
      · rw [ByteArray.size_append]; have : (⟨#[44, 32]⟩ : ByteArray).size = 2 := rfl
        omega
    rw [ByteArray.size_append] at h1
    have h4 : (n + 1) * (b + 2) = n * (b + 2) + (b + 2) := Nat.succ_mul _ _
    omega
theorem itoaB_size (n : Int) (h0 : 0 ≤ n) (h1 : n ≤ 1000000000) : (⟨(Lib.itoa n).toArray⟩ : ByteArray).size ≤ 21 := by
  have := Lib.itoa_length_le n (by omega) (by omega)
  simpa [ByteArray.size] using this
section
variable (ns : List NodeT) (g : Int → ByteArray) (b : Nat) (hb : b ≤ 100000000000) (kind num : Int) (name : ByteArray) (kids : List Int) (hnm : name.size ≤ 1048576)
  (hv : 1 ≤ kind ∧ kind ≤ 12) (h1 : kind = 8 → 0 < kids.length) (h2 : kind = 9 ∨ kind = 10 ∨ kind = 11 → 1 < kids.length) (h3 : kind = 12 → kids.length ≤ 3) (hn : kind = 1 → 0 ≤ num ∧ num ≤ 1000000000)
  (Hs : ∀ q : Nat, q < kids.length → (g (rd kids (q : Int))).size ≤ b) (Hr : ∀ q : Nat, q < kids.length → 0 ≤ rd kids (q : Int) ∧ rd kids (q : Int) < (ns.length : Int))
include hb hnm hv h1 h2 h3 hn Hs
theorem showB_size : (showB ns g kind num name kids).size ≤ 3 * b + 1048640 := by
  have l1 : (⟨#[42]⟩ : ByteArray).size = 1 := rfl
  have l2 : (⟨#[99, 108, 111, 110, 101, 32]⟩ : ByteArray).size = 6 := rfl
  have l3 : (⟨#[38]⟩ : ByteArray).size = 1 := rfl
  have l4 : (⟨#[38, 109, 117, 116, 32]⟩ : ByteArray).size = 5 := rfl
  have l5 : (⟨#[105, 110, 112, 117, 116]⟩ : ByteArray).size = 5 := rfl
  have l6 : (⟨#[110, 101, 119, 32]⟩ : ByteArray).size = 4 := rfl
  have l7 : (⟨#[40]⟩ : ByteArray).size = 1 := rfl
  have l8 : (⟨#[41]⟩ : ByteArray).size = 1 := rfl
  unfold showB
  by_cases c1 : kind = 1
  · rw [if_pos c1]; have := itoaB_size num (hn c1).1 (hn c1).2; omega
  rw [if_neg c1]
  by_cases c2 : kind = 2
  · rw [if_pos c2]; omega
  rw [if_neg c2]
  by_cases c3 : kind = 3
  · rw [if_pos c3, ByteArray.size_append]; omega
  rw [if_neg c3]
  by_cases c4 : kind = 4
  · rw [if_pos c4, ByteArray.size_append]; omega
  rw [if_neg c4]
  by_cases c5 : kind = 5
  · rw [if_pos c5, ByteArray.size_append]; omega
  rw [if_neg c5]
  by_cases c6 : kind = 6
  · rw [if_pos c6, ByteArray.size_append]; omega
  rw [if_neg c6]
  by_cases c7 : kind = 7
  · rw [if_pos c7]; omega
  rw [if_neg c7]
  by_cases c8 : kind = 8
  · rw [if_pos c8, ByteArray.size_append]
    have q1 := kidS_size ns g (rd kids 0)
    have q2 := Hs 0 (h1 c8)
    have q3 : (g (rd kids 0)).size ≤ b := q2
    omega
  rw [if_neg c8]
  by_cases c12 : kind = 12
  · rw [if_pos c12, ByteArray.size_append]
    have q1 := argS_size g kids b kids.length 0 (name ++ (⟨#[40]⟩ : ByteArray)) (by omega) Hs
    have q2 := h3 c12
    rw [ByteArray.size_append] at q1
    have q4 : kids.length * (b + 2) ≤ 3 * (b + 2) := Nat.mul_le_mul_right _ q2
    omega
  rw [if_neg c12, ByteArray.size_append, ByteArray.size_append]
  have hl := h2 (by omega)
  have q1 := kidS_size ns g (rd kids 0)
  have q2 := kidS_size ns g (rd kids 1)
  have q3 : (g (rd kids 0)).size ≤ b := Hs 0 (by omega)
  have q4 : (g (rd kids 1)).size ≤ b := Hs 1 hl
  have q5 := signS_size kind
  omega
end
theorem spec_pair_is (a : Int) : spec_l06Pair.f a = some (decide (9 ≤ a ∧ a ≤ 11)) := by rw [spec_l06Pair.f, spec_in_is, Option.bind_some]
theorem spec_kid_ev (ns : List NodeT) (g : Int → ByteArray) (m : Int) (h0 : 0 ≤ m) (h1 : m < (ns.length : Int)) (hs : (g m).size ≤ 100000000000) (E : Ev (fun k => spec_l06Value.f k ns m) (g m)) : Ev (fun k => spec_l06Kid.f k ns m) (kidS ns g m) := by
  refine ev_s1 E fun k e => ?_
  have l7 : (⟨#[40]⟩ : ByteArray).size = 1 := rfl
  rw [spec_l06Kid.f, if_pos h0, if_pos h1, spec_pair_is, Option.bind_some, kidS]
  by_cases c : 9 ≤ (rd_T62 ns m).f0 ∧ (rd_T62 ns m).f0 ≤ 11
  · rw [if_pos (decide_eq_true c), if_pos c, e, Option.bind_some, if_pos (by omega), if_pos (by rw [ByteArray.size_append]; omega)]
  · rw [if_neg (by simpa using c), if_neg c, e, Option.bind_some]
theorem impl_in2_is (a lo hi : Int) : impl_in.f a lo hi = some (decide (lo ≤ a ∧ a ≤ hi)) := by
  unfold impl_in.f
  by_cases h : a ≥ lo
  · rw [if_pos h]; simp; omega
  · rw [if_neg h]; simp; omega
theorem impl_kid_ev (ns : List NodeT) (F : List FnT) (g : Int → ByteArray) (m : Int) (h0 : 0 ≤ m) (h1 : m < (ns.length : Int)) (hs : (g m).size ≤ 100000000000) (E : Ev (fun k => impl_showValue.f k ns F m) (g m)) : Ev (fun k => impl_showIn.f k ns F m) (kidS ns g m) := by
  refine ev_s1 E fun k e => ?_
  have l7 : (⟨#[40]⟩ : ByteArray).size = 1 := rfl
  rw [impl_showIn.f, if_pos h0, if_pos h1, impl_in2_is, Option.bind_some, kidS]
  by_cases c : 9 ≤ (rd_T62 ns m).f0 ∧ (rd_T62 ns m).f0 ≤ 11
  · rw [if_pos (decide_eq_true c), if_pos c, e, Option.bind_some, if_pos (by omega), if_pos (by rw [ByteArray.size_append]; omega)]
  · rw [if_neg (by simpa using c), if_neg c, e, Option.bind_some]
theorem spec_args_l0 (ns : List NodeT) (g : Int → ByteArray) (b : Nat) (hb : b ≤ 100000000000) (k0 n0 : Int) (name : ByteArray) (kids : List Int) (hk : kids.length ≤ 3) (Hs : ∀ q : Nat, q < kids.length → (g (rd kids (q : Int))).size ≤ b)
    (H : ∀ q : Nat, q < kids.length → Ev (fun k => spec_l06Value.f k ns (rd kids (q : Int))) (g (rd kids (q : Int)))) : ∀ (n p : Nat) (acc : ByteArray), n + p = kids.length → acc.size ≤ 2097152 + p * (b + 2) →
    Ev (fun k => spec_l06Value.l0 k ns acc (p : Int) k0 n0 name kids) (argS g kids n p acc ++ (⟨#[41]⟩ : ByteArray))
  | 0, p, acc, h, ha => by
    have q4 : p * (b + 2) ≤ 3 * (b + 2) := Nat.mul_le_mul_right _ (by omega)
    refine ev_s0 fun k => ?_
    rw [spec_l06Value.l0, if_neg (by omega), if_pos (by omega), argS]
  | n + 1, p, acc, h, ha => by
    have q4 : p * (b + 2) ≤ 3 * (b + 2) := Nat.mul_le_mul_right _ (by omega)
    have q5 : (p + 1) * (b + 2) = p * (b + 2) + (b + 2) := Nat.succ_mul _ _
    have hp := Hs p (by omega)
    have l2 : (⟨#[44, 32]⟩ : ByteArray).size = 2 := rfl
    by_cases c : p = 0
    · have sz : (acc ++ g (rd kids (p : Int))).size ≤ 2097152 + (p + 1) * (b + 2) := by rw [ByteArray.size_append]; omega
      refine ev_s2 (H p (by omega)) (spec_args_l0 ns g b hb k0 n0 name kids hk Hs H n (p + 1) (acc ++ g (rd kids (p : Int))) (by omega) sz) fun k e1 e2 => ?_
      rw [spec_l06Value.l0, if_pos (by omega), if_neg (by omega), if_pos (by omega), e1, Option.bind_some, if_pos (by omega), w_succ (by omega), e2, argS, if_pos c]
    · have sz : ((acc ++ (⟨#[44, 32]⟩ : ByteArray)) ++ g (rd kids (p : Int))).size ≤ 2097152 + (p + 1) * (b + 2) := by rw [ByteArray.size_append, ByteArray.size_append]; omega
      refine ev_s2 (H p (by omega)) (spec_args_l0 ns g b hb k0 n0 name kids hk Hs H n (p + 1) ((acc ++ (⟨#[44, 32]⟩ : ByteArray)) ++ g (rd kids (p : Int))) (by omega) sz) fun k e1 e2 => ?_
      rw [spec_l06Value.l0, if_pos (by omega), if_pos (by omega), if_pos (by omega), if_pos (by omega), e1, Option.bind_some, if_pos (by rw [ByteArray.size_append]; omega), w_succ (by omega), e2, argS, if_neg c]
def mapG (g : Int → ByteArray) (kids : List Int) : Nat → Nat → List ByteArray
  | 0, _ => []
  | n + 1, p => g (rd kids (p : Int)) :: mapG g kids n (p + 1)
theorem join_args (g : Int → ByteArray) (kids : List Int) : ∀ (n p : Nat) (acc : ByteArray), 0 < p → (argS g kids n p acc).data.toList = acc.data.toList ++ Lib.joinTail [44, 32] ((mapG g kids n p).map (·.data.toList))
  | 0, p, acc, h => by rw [argS, mapG]; simp [Lib.joinTail]
  | n + 1, p, acc, h => by
    rw [argS, join_args g kids n (p + 1) _ (by omega), if_neg (by omega), mapG]
    simp [Lib.joinTail, ByteArray.data_append]
theorem join_all (g : Int → ByteArray) (kids : List Int) (n : Nat) (acc : ByteArray) : (argS g kids n 0 acc).data.toList = acc.data.toList ++ Lib.join ((mapG g kids n 0).map (·.data.toList)) [44, 32] := by
  cases n with
  | zero => rw [argS, mapG]; simp [Lib.join_nil]
  | succ n =>
    rw [argS, join_args g kids n 1 _ (by omega), if_pos rfl, mapG, List.map_cons, Lib.join_cons]
    simp [ByteArray.data_append]
theorem impl_args_l0 (ns : List NodeT) (F : List FnT) (g : Int → ByteArray) (b : Nat) (hb : b ≤ 100000000000) (k0 n0 : Int) (name : ByteArray) (hnm : name.size ≤ 1048576) (kids : List Int) (hk : kids.length ≤ 3) (Hs : ∀ q : Nat, q < kids.length → (g (rd kids (q : Int))).size ≤ b)
    (H : ∀ q : Nat, q < kids.length → Ev (fun k => impl_showValue.f k ns F (rd kids (q : Int))) (g (rd kids (q : Int)))) : ∀ (n p : Nat) (l : List ByteArray), n + p = kids.length → l.length = p → l ++ mapG g kids n p = mapG g kids kids.length 0 →
    Ev (fun k => impl_showValue.l0 k l kids (kids.length : Int) (p : Int) ns F k0 n0 name kids) (argS g kids kids.length 0 (name ++ (⟨#[40]⟩ : ByteArray)) ++ (⟨#[41]⟩ : ByteArray))
  | 0, p, l, h, hl, he => by
    have l7 : (⟨#[40]⟩ : ByteArray).size = 1 := rfl
    have J := join_all g kids kids.length (name ++ (⟨#[40]⟩ : ByteArray))
    have S := argS_size g kids b kids.length 0 (name ++ (⟨#[40]⟩ : ByteArray)) (by omega) Hs
    have q4 : kids.length * (b + 2) ≤ 3 * (b + 2) := Nat.mul_le_mul_right _ hk
    rw [ByteArray.size_append] at S
    have e0 : l = mapG g kids kids.length 0 := by rw [← he, mapG, List.append_nil]
    have sz : (Lib.join ((mapG g kids kids.length 0).map (·.data.toList)) [44, 32]).length ≤ 1000000000000 := by
      have := congrArg List.length J
      rw [List.length_append] at this
      have s1 : (argS g kids kids.length 0 (name ++ (⟨#[40]⟩ : ByteArray))).data.toList.length = (argS g kids kids.length 0 (name ++ (⟨#[40]⟩ : ByteArray))).size := rfl
      omega
    have hj : strings_Join.f l (⟨#[44, 32]⟩ : ByteArray) = some ⟨(Lib.join ((mapG g kids kids.length 0).map (·.data.toList)) [44, 32]).toArray⟩ := by
      rw [strings_Join.f, if_pos ⟨by omega, by rw [e0]; show (Lib.join _ [44, 32]).length ≤ _; omega⟩, e0]
    have sj : (⟨(Lib.join ((mapG g kids kids.length 0).map (·.data.toList)) [44, 32]).toArray⟩ : ByteArray).size ≤ 1000000000000 := by simpa [ByteArray.size] using sz
    refine ev_s0 fun k => ?_
    rw [impl_showValue.l0, if_neg (by omega), if_pos (by omega), hj, Option.bind_some, if_pos (by rw [ByteArray.size_append]; omega), if_pos (by rw [ByteArray.size_append, ByteArray.size_append]; omega)]
    congr 2
    refine ba_ext ?_
    rw [J]
    simp [ByteArray.data_append]
  | n + 1, p, l, h, hl, he => by
    refine ev_s2 (H p (by omega)) (impl_args_l0 ns F g b hb k0 n0 name hnm kids hk Hs H n (p + 1) (l ++ [g (rd kids (p : Int))]) (by omega) (by simp; omega) (by rw [← he, mapG]; simp)) fun k e1 e2 => ?_
    rw [impl_showValue.l0, if_pos (by omega), if_pos (by omega), if_pos (by omega), e1, Option.bind_some, if_pos (by omega), w_succ (by omega), e2]
theorem wf_num (n : Int) (h0 : 0 ≤ n) (h1 : n ≤ 1000000000) : (Lit.int .i64 n).wf = true := by
  have a1 : IntKind.i64.min = -9223372036854775808 := by decide
  have a2 : IntKind.i64.max = 9223372036854775807 := by decide
  simp only [Lit.wf, Bool.and_eq_true, decide_eq_true_eq]
  omega
section
variable (ns : List NodeT) (F : List FnT) (g : Int → ByteArray) (b : Nat) (hb : b ≤ 100000000000) (a : Nat) (ha : a < ns.length) (kind num : Int) (name : ByteArray) (kids : List Int) (hX : rd_T62 ns (a : Int) = ⟨kind, num, name, kids⟩) (hnm : name.size ≤ 1048576)
  (hv : 1 ≤ kind ∧ kind ≤ 12) (h1 : kind = 8 → 0 < kids.length) (h2 : kind = 9 ∨ kind = 10 ∨ kind = 11 → 1 < kids.length) (h3 : kind = 12 → kids.length ≤ 3) (hn : kind = 1 → 0 ≤ num ∧ num ≤ 1000000000)
  (Hs : ∀ q : Nat, q < kids.length → (g (rd kids (q : Int))).size ≤ b) (Hr : ∀ q : Nat, q < kids.length → 0 ≤ rd kids (q : Int) ∧ rd kids (q : Int) < (ns.length : Int))
include hb ha hX hnm hv h1 h2 h3 hn Hs Hr
theorem spec_show_ev (H : ∀ q : Nat, q < kids.length → Ev (fun k => spec_l06Value.f k ns (rd kids (q : Int))) (g (rd kids (q : Int)))) : Ev (fun k => spec_l06Value.f k ns (a : Int)) (showB ns g kind num name kids) := by
  have q1 : (0 : Int) ≤ (a : Int) := by omega
  have q2 : (a : Int) < (ns.length : Int) := by omega
  have l7 : (⟨#[40]⟩ : ByteArray).size = 1 := rfl
  unfold showB
  by_cases c1 : kind = 1
  · obtain ⟨R, E, hR⟩ := spec_Decimal_ev num (wf_num num (hn c1).1 (hn c1).2)
    have e0 : (⟨(Lib.itoa num).toArray⟩ : ByteArray) = R := ba_ext (by rw [hR])
    rw [if_pos c1, e0]
    refine ev_s1 E fun k e => ?_
    rw [spec_l06Value.f, if_pos q1, if_pos q2, hX]
    simp only
    rw [if_pos c1, e, Option.bind_some]
  rw [if_neg c1]
  by_cases c2 : kind = 2
  · rw [if_pos c2]
    refine ev_s0 fun k => ?_
    rw [spec_l06Value.f, if_pos q1, if_pos q2, hX]
    simp only
    rw [if_neg c1, if_pos c2]
  rw [if_neg c2]
  by_cases c3 : kind = 3
  · rw [if_pos c3]
    refine ev_s0 fun k => ?_
    rw [spec_l06Value.f, if_pos q1, if_pos q2, hX]
    simp only
    rw [if_neg c1, if_neg c2, if_pos c3, if_pos (by omega)]
  rw [if_neg c3]
  by_cases c4 : kind = 4
  · rw [if_pos c4]
    refine ev_s0 fun k => ?_
    rw [spec_l06Value.f, if_pos q1, if_pos q2, hX]
    simp only
    rw [if_neg c1, if_neg c2, if_neg c3, if_pos c4, if_pos (by omega)]
  rw [if_neg c4]
  by_cases c5 : kind = 5
  · rw [if_pos c5]
    refine ev_s0 fun k => ?_
    rw [spec_l06Value.f, if_pos q1, if_pos q2, hX]
    simp only
    rw [if_neg c1, if_neg c2, if_neg c3, if_neg c4, if_pos c5, if_pos (by omega)]
  rw [if_neg c5]
  by_cases c6 : kind = 6
  · rw [if_pos c6]
    refine ev_s0 fun k => ?_
    rw [spec_l06Value.f, if_pos q1, if_pos q2, hX]
    simp only
    rw [if_neg c1, if_neg c2, if_neg c3, if_neg c4, if_neg c5, if_pos c6, if_pos (by omega)]
  rw [if_neg c6]
  by_cases c7 : kind = 7
  · rw [if_pos c7]
    refine ev_s0 fun k => ?_
    rw [spec_l06Value.f, if_pos q1, if_pos q2, hX]
    simp only
    rw [if_neg c1, if_neg c2, if_neg c3, if_neg c4, if_neg c5, if_neg c6, if_pos c7]
  rw [if_neg c7]
  by_cases c8 : kind = 8
  · have hl := h1 c8
    have z := kidS_size ns g (rd kids 0)
    have z2 : (g (rd kids 0)).size ≤ b := Hs 0 hl
    rw [if_pos c8]
    refine ev_s1 (spec_kid_ev ns g (rd kids 0) (Hr 0 hl).1 (Hr 0 hl).2 (by omega) (H 0 hl)) fun k e => ?_
    rw [spec_l06Value.f, if_pos q1, if_pos q2, hX]
    simp only
    rw [if_neg c1, if_neg c2, if_neg c3, if_neg c4, if_neg c5, if_neg c6, if_neg c7, if_pos c8, if_pos (by omega), e, Option.bind_some, if_pos (by omega)]
  rw [if_neg c8]
  by_cases c12 : kind = 12
  · rw [if_pos c12]
    refine ev_s1 (spec_args_l0 ns g b hb kind num name kids (h3 c12) Hs H kids.length 0 (name ++ (⟨#[40]⟩ : ByteArray)) (by omega) (by rw [ByteArray.size_append]; omega)) fun k e => ?_
    rw [spec_l06Value.f, if_pos q1, if_pos q2, hX]
    simp only
    rw [if_neg c1, if_neg c2, if_neg c3, if_neg c4, if_neg c5, if_neg c6, if_neg c7, if_neg c8, if_pos c12, if_pos (by omega)]
    exact e
  rw [if_neg c12]
  have hl := h2 (by omega)
  have z0 := kidS_size ns g (rd kids 0)
  have z1 := kidS_size ns g (rd kids 1)
  have z2 : (g (rd kids 0)).size ≤ b := Hs 0 (by omega)
  have z3 : (g (rd kids 1)).size ≤ b := Hs 1 hl
  have z4 := signS_size kind
  have hsg : spec_l06Sign.f kind = some (signS kind) := by
    rw [spec_l06Sign.f, signS]
    split
    · rfl
    · split <;> rfl
  refine ev_s2 (spec_kid_ev ns g (rd kids 0) (Hr 0 (by omega)).1 (Hr 0 (by omega)).2 (by omega) (H 0 (by omega))) (spec_kid_ev ns g (rd kids 1) (Hr 1 hl).1 (Hr 1 hl).2 (by omega) (H 1 hl)) fun k e1 e2 => ?_
  rw [spec_l06Value.f, if_pos q1, if_pos q2, hX]
  simp only
  rw [if_neg c1, if_neg c2, if_neg c3, if_neg c4, if_neg c5, if_neg c6, if_neg c7, if_neg c8, if_neg c12, if_pos (by omega), e1, Option.bind_some, hsg, Option.bind_some, if_pos (by omega), if_pos (by omega), e2, Option.bind_some, if_pos (by rw [ByteArray.size_append]; omega)]
theorem impl_show_ev (H : ∀ q : Nat, q < kids.length → Ev (fun k => impl_showValue.f k ns F (rd kids (q : Int))) (g (rd kids (q : Int)))) : Ev (fun k => impl_showValue.f k ns F (a : Int)) (showB ns g kind num name kids) := by
  have q1 : (0 : Int) ≤ (a : Int) := by omega
  have q2 : (a : Int) < (ns.length : Int) := by omega
  have l7 : (⟨#[40]⟩ : ByteArray).size = 1 := rfl
  unfold showB
  by_cases c1 : kind = 1
  · rw [if_pos c1]
    refine ev_s0 fun k => ?_
    rw [impl_showValue.f, if_pos q1, if_pos q2, hX]
    simp only
    rw [if_pos c1, impl_Decimal_is num (wf_num num (hn c1).1 (hn c1).2), Option.bind_some]
  rw [if_neg c1]
  by_cases c2 : kind = 2
  · rw [if_pos c2]
    refine ev_s0 fun k => ?_
    rw [impl_showValue.f, if_pos q1, if_pos q2, hX]
    simp only
    iterate 11 rw [if_neg (by omega)]
  rw [if_neg c2]
  by_cases c3 : kind = 3
  · rw [if_pos c3]
    refine ev_s0 fun k => ?_
    rw [impl_showValue.f, if_pos q1, if_pos q2, hX]
    simp only
    rw [if_neg c1, if_pos c3, if_pos (by omega)]
  rw [if_neg c3]
  by_cases c4 : kind = 4
  · rw [if_pos c4]
    refine ev_s0 fun k => ?_
    rw [impl_showValue.f, if_pos q1, if_pos q2, hX]
    simp only
    rw [if_neg c1, if_neg c3, if_pos c4, if_pos (by omega)]
  rw [if_neg c4]
  by_cases c5 : kind = 5
  · rw [if_pos c5]
    refine ev_s0 fun k => ?_
    rw [impl_showValue.f, if_pos q1, if_pos q2, hX]
    simp only
    rw [if_neg c1, if_neg c3, if_neg c4, if_pos c5, if_pos (by omega)]
  rw [if_neg c5]
  by_cases c6 : kind = 6
  · rw [if_pos c6]
    refine ev_s0 fun k => ?_
    rw [impl_showValue.f, if_pos q1, if_pos q2, hX]
    simp only
    rw [if_neg c1, if_neg c3, if_neg c4, if_neg c5, if_pos c6, if_pos (by omega)]
  rw [if_neg c6]
  by_cases c7 : kind = 7
  · rw [if_pos c7]
    refine ev_s0 fun k => ?_
    rw [impl_showValue.f, if_pos q1, if_pos q2, hX]
    simp only
    rw [if_neg c1, if_neg c3, if_neg c4, if_neg c5, if_neg c6, if_pos c7]
  rw [if_neg c7]
  by_cases c8 : kind = 8
  · have hl := h1 c8
    have z := kidS_size ns g (rd kids 0)
    have z2 : (g (rd kids 0)).size ≤ b := Hs 0 hl
    rw [if_pos c8]
    refine ev_s1 (impl_kid_ev ns F g (rd kids 0) (Hr 0 hl).1 (Hr 0 hl).2 (by omega) (H 0 hl)) fun k e => ?_
    rw [impl_showValue.f, if_pos q1, if_pos q2, hX]
    simp only
    rw [if_neg c1, if_neg c3, if_neg c4, if_neg c5, if_neg c6, if_neg c7, if_pos c8, if_pos (by omega), e, Option.bind_some, if_pos (by omega)]
  rw [if_neg c8]
  by_cases c12 : kind = 12
  · rw [if_pos c12]
    refine ev_s1 (impl_args_l0 ns F g b hb kind num name hnm kids (h3 c12) Hs H kids.length 0 [] (by omega) rfl rfl) fun k e => ?_
    rw [impl_showValue.f, if_pos q1, if_pos q2, hX]
    simp only
    rw [if_neg c1, if_neg c3, if_neg c4, if_neg c5, if_neg c6, if_neg c7, if_neg c8, if_neg (by omega), if_neg (by omega), if_neg (by omega), if_pos c12]
    exact e
  rw [if_neg c12]
  have hl := h2 (by omega)
  have z0 := kidS_size ns g (rd kids 0)
  have z1 := kidS_size ns g (rd kids 1)
  have z2 : (g (rd kids 0)).size ≤ b := Hs 0 (by omega)
  have z3 : (g (rd kids 1)).size ≤ b := Hs 1 hl
  have m1 : (⟨#[32, 43, 32]⟩ : ByteArray).size = 3 := rfl
  have m2 : (⟨#[32, 60, 32]⟩ : ByteArray).size = 3 := rfl
  have m3 : (⟨#[32, 61, 61, 32]⟩ : ByteArray).size = 4 := rfl
  refine ev_s2 (impl_kid_ev ns F g (rd kids 0) (Hr 0 (by omega)).1 (Hr 0 (by omega)).2 (by omega) (H 0 (by omega))) (impl_kid_ev ns F g (rd kids 1) (Hr 1 hl).1 (Hr 1 hl).2 (by omega) (H 1 hl)) fun k e1 e2 => ?_
  rw [impl_showValue.f, if_pos q1, if_pos q2, hX, signS]
  simp only
  rw [if_neg c1, if_neg c3, if_neg c4, if_neg c5, if_neg c6, if_neg c7, if_neg c8]
  by_cases c9 : kind = 9
  · rw [if_pos c9, if_pos (by omega), e1, Option.bind_some, if_pos (by omega), if_pos (by omega), e2, Option.bind_some, if_pos (by rw [ByteArray.size_append]; omega), if_pos c9]
  · rw [if_neg c9]
    by_cases c10 : kind = 10
    · rw [if_pos c10, if_pos (by omega), e1, Option.bind_some, if_pos (by omega), if_pos (by omega), e2, Option.bind_some, if_pos (by rw [ByteArray.size_append]; omega), if_neg c9, if_pos c10]
    · rw [if_neg c10, if_pos (by omega), if_pos (by omega), e1, Option.bind_some, if_pos (by omega), if_pos (by omega), e2, Option.bind_some, if_pos (by rw [ByteArray.size_append]; omega), if_neg c9, if_neg c10]
end
theorem show_facts (P : List NodeT) (a : Nat) (h : goodN P a) : ((rd_T62 P (a : Int)).f0 = 8 → 0 < (rd_T62 P (a : Int)).f3.length) ∧ ((rd_T62 P (a : Int)).f0 = 9 ∨ (rd_T62 P (a : Int)).f0 = 10 ∨ (rd_T62 P (a : Int)).f0 = 11 → 1 < (rd_T62 P (a : Int)).f3.length) ∧ ((rd_T62 P (a : Int)).f0 = 12 → (rd_T62 P (a : Int)).f3.length ≤ 3) ∧ ((rd_T62 P (a : Int)).f0 = 1 → 0 ≤ (rd_T62 P (a : Int)).f1 ∧ (rd_T62 P (a : Int)).f1 ≤ 1000000000) := by
  have S := goodN_shape P a h
  refine ⟨fun c => ?_, fun c => ?_, fun c => ?_, fun c => ?_⟩
  · rw [c] at S; have : (shapeV 8).1 = 1 := by decide
    omega
  · rcases c with c | c | c
    · rw [c] at S; have : (shapeV 9).1 = 2 := by decide
      omega
    · rw [c] at S; have : (shapeV 10).1 = 2 := by decide
      omega
    · rw [c] at S; have : (shapeV 11).1 = 2 := by decide
      omega
  · rw [c] at S; have : (shapeV 12).2 = 3 := by decide
    omega
  · have ok := h a (by omega)
    unfold nodeOkV at ok
    simp only [Bool.and_eq_true] at ok
    have n := ok.2.2.2.1
    rw [numV2, if_pos c] at n
    unfold inB at n
    exact of_decide_eq_true n
/-- a kid of a value is a value -/
theorem kid_value (P : List NodeT) (a : Nat) (h : goodN P a) (hv : 1 ≤ (rd_T62 P (a : Int)).f0 ∧ (rd_T62 P (a : Int)).f0 ≤ 12) (q : Nat) (hq : q < (rd_T62 P (a : Int)).f3.length) :
    1 ≤ (rd_T62 P (rd (rd_T62 P (a : Int)).f3 (q : Int))).f0 ∧ (rd_T62 P (rd (rd_T62 P (a : Int)).f3 (q : Int))).f0 ≤ 12 := by
  have ok := h a (by omega)
  unfold nodeOkV at ok
  simp only [Bool.and_eq_true] at ok
  have kr := ok.2.2.2.2.2
  have fit : ∀ n p : Nat, kidsR P (a : Int) (rd_T62 P (a : Int)).f0 (rd_T62 P (a : Int)).f3 n p = true → ∀ q : Nat, p ≤ q → q < p + n → fitsV (rd_T62 P (a : Int)).f0 (q : Int) (rd_T62 P (rd (rd_T62 P (a : Int)).f3 (q : Int))).f0 = true := by
    intro n
    induction n with
    | zero => intro p _ q h1 h2; omega
    | succ n ih =>
      intro p hp q h1 h2
      rw [kidsR] at hp
      simp only [Bool.and_eq_true] at hp
      by_cases c : q = p
      · subst c
        exact hp.1.1.2
      · exact ih (p + 1) hp.2 q (by omega) (by omega)
  have f := fit _ 0 kr q (by omega) (by omega)
  rw [fitsV, if_neg (by omega), if_neg (by omega), if_neg (by omega)] at f
  unfold inB at f
  exact of_decide_eq_true f
theorem show_both (ns : List NodeT) (F : List FnT) (hP : progSm ns F) : ∀ (d a : Nat), d ≤ 10 → goodN ns a → depthLe ns d (a : Int) → 1 ≤ (rd_T62 ns (a : Int)).f0 ∧ (rd_T62 ns (a : Int)).f0 ≤ 12 →
    Ev (fun k => spec_l06Value.f k ns (a : Int)) (showR ns d (a : Int)) ∧ Ev (fun k => impl_showValue.f k ns F (a : Int)) (showR ns d (a : Int)) ∧ (showR ns d (a : Int)).size ≤ bnd d
  | 0, a, _, _, h, _ => h.elim
  | d + 1, a, hd, ga, hp, hv => by
    have la := goodN_lt ns a ga
    have hb := bnd_ten d (by omega)
    have hnm : (rd_T62 ns (a : Int)).f2.size ≤ 1048576 := by rw [rdNT_nat ns a la]; exact (hP.1.2 _ (List.getElem_mem la)).1
    obtain ⟨h1, h2, h3, hn⟩ := show_facts ns a ga
    have kv := kid_value ns a ga hv
    have ka := goodN_kid ns a ga
    rw [depthLe] at hp
    have H : ∀ q : Nat, q < (rd_T62 ns (a : Int)).f3.length → (Ev (fun k => spec_l06Value.f k ns (rd (rd_T62 ns (a : Int)).f3 (q : Int))) (showR ns d (rd (rd_T62 ns (a : Int)).f3 (q : Int))) ∧ Ev (fun k => impl_showValue.f k ns F (rd (rd_T62 ns (a : Int)).f3 (q : Int))) (showR ns d (rd (rd_T62 ns (a : Int)).f3 (q : Int))) ∧ (showR ns d (rd (rd_T62 ns (a : Int)).f3 (q : Int))).size ≤ bnd d) ∧ (0 ≤ rd (rd_T62 ns (a : Int)).f3 (q : Int) ∧ rd (rd_T62 ns (a : Int)).f3 (q : Int) < (ns.length : Int)) := fun q hq => by
      obtain ⟨m, e1, l1, g1⟩ := ka q hq
      have hp' := hp q hq
      have kv' := kv q hq
      rw [e1] at hp' kv' ⊢
      exact ⟨show_both ns F hP d m (by omega) g1 hp' kv', by omega, by omega⟩
    rw [showR, bnd]
    generalize hX : rd_T62 ns (a : Int) = X at hnm h1 h2 h3 hn hv H
    obtain ⟨kind, num, name, kids⟩ := X
    exact ⟨spec_show_ev ns (showR ns d) (bnd d) hb a la kind num name kids hX hnm hv h1 h2 h3 hn (fun q hq => (H q hq).1.2.2) (fun q hq => (H q hq).2) (fun q hq => (H q hq).1.1),
      impl_show_ev ns F (showR ns d) (bnd d) hb a la kind num name kids hX hnm hv h1 h2 h3 hn (fun q hq => (H q hq).1.2.2) (fun q hq => (H q hq).2) (fun q hq => (H q hq).1.2.1),
      showB_size ns (showR ns d) (bnd d) hb kind num name kids hnm hv h1 h2 h3 hn (fun q hq => (H q hq).1.2.2)⟩

open Given
theorem ev_s4 {α β γ δ ε : Type} {F : Nat → Option α} {r : α} {g : Nat → Option β} {a : β} {f : Nat → Option γ} {b : γ} {e : Nat → Option δ} {c : δ} {u : Nat → Option ε} {d : ε} (ha : Ev g a) (hb : Ev f b) (hc : Ev e c) (hd : Ev u d) (H : ∀ k, g k = some a → f k = some b → e k = some c → u k = some d → F (k + 1) = some r) : Ev F r := by
  obtain ⟨K1, e1⟩ := ha
  obtain ⟨K2, e2⟩ := hb
  obtain ⟨K3, e3⟩ := hc
  obtain ⟨K4, e4⟩ := hd
  refine ⟨K1 + K2 + K3 + K4 + 1, fun k hk => ?_⟩
  obtain ⟨m, rfl⟩ : ∃ m, k = m + 1 := ⟨k - 1, by omega⟩
  exact H m (e1 m (by omega)) (e2 m (by omega)) (e3 m (by omega)) (e4 m (by omega))
def padL : Nat → ByteArray
  | 0 => (⟨#[]⟩ : ByteArray)
  | n + 1 => padL n ++ (⟨#[32, 32]⟩ : ByteArray)
def padN (i : Int) : Nat := (mx 0 (mn i 20)).toNat
def padS (i : Int) : ByteArray := padL (padN i)
theorem padL_size : ∀ n : Nat, (padL n).size = 2 * n
  | 0 => rfl
  | n + 1 => by rw [padL, ByteArray.size_append, padL_size n]; show 2 * n + 2 = _; omega
theorem padN_le (i : Int) : padN i ≤ 20 := by
  unfold padN mx mn
  split <;> split <;> omega
theorem padS_size (i : Int) : (padS i).size ≤ 40 := by have := padN_le i; rw [padS, padL_size]; omega
theorem repeat_pad : ∀ n : Nat, Lib.repeatL [32, 32] n = (padL n).data.toList
  | 0 => rfl
  | n + 1 => by
    rw [padL, ByteArray.data_append, Array.toList_append, ← repeat_pad n]
    rw [Lib.repeatL_add, Lib.repeatL_one]
theorem repeat_is (i : Int) : strings_Repeat.f (⟨#[32, 32]⟩ : ByteArray) (mx 0 (mn i 20)) = some (padS i) := by
  have h := padN_le i
  have h0 : 0 ≤ mx 0 (mn i 20) := by unfold mx; split <;> omega
  have h1 : mx 0 (mn i 20) ≤ 20 := by unfold padN at h; omega
  have l : (⟨#[32, 32]⟩ : ByteArray).size = 2 := rfl
  have hN : (mx 0 (mn i 20)).toNat = padN i := rfl
  rw [strings_Repeat.f, if_pos ⟨h0, by omega, by rw [l, hN]; omega⟩, hN]
  congr 1
  refine ba_ext ?_
  exact repeat_pad (padN i)
theorem spec_in_l0 (i : Int) : ∀ n p : Nat, n + p = padN i → Ev (fun k => spec_l06In.l0 k i (padL p) (p : Int)) (padS i)
  | 0, p, h => by
    have hN : p = padN i := by omega
    have c : ¬((p : Int) < i ∧ (p : Int) < 20) := by rw [hN]; unfold padN mx mn; split <;> split <;> omega
    refine ev_s0 fun k => ?_
    rw [spec_l06In.l0, hN, ← padS, ← hN]
    by_cases c1 : (p : Int) < i
    · rw [if_pos c1, if_neg (by omega)]
    · rw [if_neg c1]
  | n + 1, p, h => by
    have hp : p < padN i := by omega
    have h20 := padN_le i
    have c1 : (p : Int) < i := by unfold padN mx mn at hp; split at hp <;> split at hp <;> omega
    have l := padL_size p
    have e := spec_in_l0 i n (p + 1) (by omega)
    refine ev_s1 e fun k e1 => ?_
    rw [spec_l06In.l0, if_pos c1, if_pos (by omega), if_pos (by omega), w_succ (by omega), ← padL, e1]
theorem spec_in_ev (i : Int) : Ev (fun k => spec_l06In.f k i) (padS i) := spec_in_l0 i (padN i) 0 (by omega)
def lineS (gv : Int → ByteArray) (gb : Int → Int → ByteArray) (i kind : Int) (name : ByteArray) (kids : List Int) : ByteArray :=
  if kind = 13 then ((((padS i ++ (⟨#[108, 101, 116, 32]⟩ : ByteArray)) ++ name) ++ (⟨#[32, 61, 32]⟩ : ByteArray)) ++ gv (rd kids 0)) ++ (⟨#[59, 10]⟩ : ByteArray)
  else if kind = 14 then (((padS i ++ name) ++ (⟨#[32, 61, 32]⟩ : ByteArray)) ++ gv (rd kids 0)) ++ (⟨#[59, 10]⟩ : ByteArray)
  else if kind = 15 then ((((padS i ++ (⟨#[42]⟩ : ByteArray)) ++ name) ++ (⟨#[32, 61, 32]⟩ : ByteArray)) ++ gv (rd kids 0)) ++ (⟨#[59, 10]⟩ : ByteArray)
  else if kind = 18 then ((padS i ++ (⟨#[112, 114, 105, 110, 116, 32]⟩ : ByteArray)) ++ gv (rd kids 0)) ++ (⟨#[59, 10]⟩ : ByteArray)
  else if kind = 19 then ((padS i ++ (⟨#[100, 111, 32]⟩ : ByteArray)) ++ gv (rd kids 0)) ++ (⟨#[59, 10]⟩ : ByteArray)
  else if kind = 16 then ((((((((padS i ++ (⟨#[105, 102, 32]⟩ : ByteArray)) ++ gv (rd kids 0)) ++ (⟨#[32, 123, 10]⟩ : ByteArray)) ++ gb (rd kids 1) (wrap64 (i + 1))) ++ padS i) ++ (⟨#[125, 32, 101, 108, 115, 101, 32, 123, 10]⟩ : ByteArray)) ++ gb (rd kids 2) (wrap64 (i + 1))) ++ padS i) ++ (⟨#[125, 10]⟩ : ByteArray)
  else (((((padS i ++ (⟨#[119, 104, 105, 108, 101, 32]⟩ : ByteArray)) ++ gv (rd kids 0)) ++ (⟨#[32, 123, 10]⟩ : ByteArray)) ++ gb (rd kids 1) (wrap64 (i + 1))) ++ padS i) ++ (⟨#[125, 10]⟩ : ByteArray)
def blkS (g : Int → ByteArray) (kids : List Int) : Nat → Nat → ByteArray → ByteArray
  | 0, _, acc => acc
  | n + 1, p, acc => blkS g kids n (p + 1) (acc ++ g (rd kids (p : Int)))
def textR (ns : List NodeT) : Nat → Int → Int → ByteArray
  | 0, _, _ => (⟨#[]⟩ : ByteArray)
  | d + 1, a, i => if (rd_T62 ns a).f0 = 20 then blkS (fun c => textR ns d c i) (rd_T62 ns a).f3 (rd_T62 ns a).f3.length 0 (⟨#[]⟩ : ByteArray)
    else lineS (showR ns d) (textR ns d) i (rd_T62 ns a).f0 (rd_T62 ns a).f2 (rd_T62 ns a).f3
def bndS : Nat → Nat
  | 0 => 0
  | d + 1 => 12 * bndS d + bnd d + 1050000
theorem bndS_le : ∀ d e : Nat, bndS d ≤ bndS (d + e)
  | d, 0 => Nat.le_refl _
  | d, e + 1 => by rw [← Nat.add_assoc, bndS]; have := bndS_le d e; omega
theorem bndS_ten (d : Nat) (h : d ≤ 10) : bndS d ≤ 100000000000000000 := by
  have := bndS_le d (10 - d)
  rw [show d + (10 - d) = 10 by omega] at this
  have e : bndS 10 ≤ 100000000000000000 := by decide
  omega
theorem blkS_size (g : Int → ByteArray) (kids : List Int) (b : Nat) : ∀ (n p : Nat) (acc : ByteArray), n + p = kids.length → (∀ q : Nat, q < kids.length → (g (rd kids (q : Int))).size ≤ b) → (blkS g kids n p acc).size ≤ acc.size + n * b
  | 0, p, acc, h, H => by rw [blkS]; omega
  | n + 1, p, acc, h, H => by
    rw [blkS]
    have h1 := blkS_size g kids b n (p + 1) (acc ++ g (rd kids (p : Int))) (by omega) H
    have h2 := H p (by omega)
    rw [ByteArray.size_append] at h1
    have h4 : (n + 1) * b = n * b + b := Nat.succ_mul _ _
    omega
theorem kid_fit (P : List NodeT) (a : Nat) (h : goodN P a) (q : Nat) (hq : q < (rd_T62 P (a : Int)).f3.length) :
    fitsV (rd_T62 P (a : Int)).f0 (q : Int) (rd_T62 P (rd (rd_T62 P (a : Int)).f3 (q : Int))).f0 = true := by
  have ok := h a (by omega)
  unfold nodeOkV at ok
  simp only [Bool.and_eq_true] at ok
  have kr := ok.2.2.2.2.2
  have fit : ∀ n p : Nat, kidsR P (a : Int) (rd_T62 P (a : Int)).f0 (rd_T62 P (a : Int)).f3 n p = true → ∀ q : Nat, p ≤ q → q < p + n → fitsV (rd_T62 P (a : Int)).f0 (q : Int) (rd_T62 P (rd (rd_T62 P (a : Int)).f3 (q : Int))).f0 = true := by
    intro n
    induction n with
    | zero => intro p _ q h1 h2; omega
    | succ n ih =>
      intro p hp q h1 h2
      rw [kidsR] at hp
      simp only [Bool.and_eq_true] at hp
      by_cases c : q = p
      · subst c
        exact hp.1.1.2
      · exact ih (p + 1) hp.2 q (by omega) (by omega)
  exact fit _ 0 kr q (by omega) (by omega)
theorem fit_block (i kid : Int) (h : fitsV 20 i kid = true) : 13 ≤ kid ∧ kid ≤ 19 := by
  rw [fitsV, if_pos rfl] at h
  unfold inB at h
  exact of_decide_eq_true h
theorem fit_first (kind kid : Int) (hk : 13 ≤ kind ∧ kind ≤ 19) (h : fitsV kind 0 kid = true) : 1 ≤ kid ∧ kid ≤ 12 := by
  rw [fitsV, if_neg (by omega), if_neg (by omega)] at h
  split at h
  · have : kid = 12 := by simpa using h
    omega
  · unfold inB at h
    exact of_decide_eq_true h
theorem fit_later (kind i kid : Int) (hk : kind = 16 ∨ kind = 17) (hi : 0 < i) (h : fitsV kind i kid = true) : kid = 20 := by
  rw [fitsV, if_neg (by omega), if_pos ⟨hk, hi⟩] at h
  simpa using h
section
variable (ns : List NodeT) (F : List FnT) (gv : Int → ByteArray) (gb : Int → Int → ByteArray) (bv bs : Nat) (hbv : bv ≤ 100000000000) (hbs : bs ≤ 100000000000000000) (a : Nat) (ha : a < ns.length) (i kind num : Int) (name : ByteArray) (kids : List Int) (hX : rd_T62 ns (a : Int) = ⟨kind, num, name, kids⟩) (hnm : name.size ≤ 1048576)
  (hv : 13 ≤ kind ∧ kind ≤ 19) (h1 : 0 < kids.length) (h2 : kind = 16 ∨ kind = 17 → 1 < kids.length) (h3 : kind = 16 → 2 < kids.length)
  (Sv : (gv (rd kids 0)).size ≤ bv) (S1 : kind = 16 ∨ kind = 17 → (gb (rd kids 1) (wrap64 (i + 1))).size ≤ bs) (S2 : kind = 16 → (gb (rd kids 2) (wrap64 (i + 1))).size ≤ bs)
include hnm hv Sv S1 S2
theorem lineS_size : (lineS gv gb i kind name kids).size ≤ 2 * bs + bv + 1050000 := by
  have hp := padS_size i
  have l2 : (⟨#[59, 10]⟩ : ByteArray).size = 2 := rfl
  have la : (⟨#[32, 61, 32]⟩ : ByteArray).size = 3 := rfl
  have lb : (⟨#[108, 101, 116, 32]⟩ : ByteArray).size = 4 := rfl
  have lc : (⟨#[42]⟩ : ByteArray).size = 1 := rfl
  have ld : (⟨#[112, 114, 105, 110, 116, 32]⟩ : ByteArray).size = 6 := rfl
  have le : (⟨#[100, 111, 32]⟩ : ByteArray).size = 3 := rfl
  have lf : (⟨#[105, 102, 32]⟩ : ByteArray).size = 3 := rfl
  have lg : (⟨#[32, 123, 10]⟩ : ByteArray).size = 3 := rfl
  have lh : (⟨#[125, 32, 101, 108, 115, 101, 32, 123, 10]⟩ : ByteArray).size = 9 := rfl
  have li : (⟨#[125, 10]⟩ : ByteArray).size = 2 := rfl
  have lj : (⟨#[119, 104, 105, 108, 101, 32]⟩ : ByteArray).size = 6 := rfl
  unfold lineS
  by_cases c13 : kind = 13
  · rw [if_pos c13]
    simp only [ByteArray.size_append]
    omega
  rw [if_neg c13]
  by_cases c14 : kind = 14
  · rw [if_pos c14]
    simp only [ByteArray.size_append]
    omega
  rw [if_neg c14]
  by_cases c15 : kind = 15
  · rw [if_pos c15]
    simp only [ByteArray.size_append]
    omega
  rw [if_neg c15]
  by_cases c18 : kind = 18
  · rw [if_pos c18]
    simp only [ByteArray.size_append]
    omega
  rw [if_neg c18]
  by_cases c19 : kind = 19
  · rw [if_pos c19]
    simp only [ByteArray.size_append]
    omega
  rw [if_neg c19]
  by_cases c16 : kind = 16
  · have z1 := S1 (Or.inl c16)
    have z2 := S2 c16
    rw [if_pos c16]
    simp only [ByteArray.size_append]
    omega
  have z1 := S1 (Or.inr (by omega))
  rw [if_neg c16]
  simp only [ByteArray.size_append]
  omega
include hbv hbs ha hX h1 h2 h3
theorem spec_line_ev (Ev0 : Ev (fun k => spec_l06Value.f k ns (rd kids 0)) (gv (rd kids 0))) (E1 : kind = 16 ∨ kind = 17 → Ev (fun k => spec_l06Block.f k ns (rd kids 1) (wrap64 (i + 1))) (gb (rd kids 1) (wrap64 (i + 1)))) (E2 : kind = 16 → Ev (fun k => spec_l06Block.f k ns (rd kids 2) (wrap64 (i + 1))) (gb (rd kids 2) (wrap64 (i + 1)))) : Ev (fun k => spec_l06Step.f k ns (a : Int) i) (lineS gv gb i kind name kids) := by
  have q1 : (0 : Int) ≤ (a : Int) := by omega
  have q2 : (a : Int) < (ns.length : Int) := by omega
  have q3 : (0 : Int) < (kids.length : Int) := by omega
  have hp := padS_size i
  have l2 : (⟨#[59, 10]⟩ : ByteArray).size = 2 := rfl
  have la : (⟨#[32, 61, 32]⟩ : ByteArray).size = 3 := rfl
  have lb : (⟨#[108, 101, 116, 32]⟩ : ByteArray).size = 4 := rfl
  have lc : (⟨#[42]⟩ : ByteArray).size = 1 := rfl
  have ld : (⟨#[112, 114, 105, 110, 116, 32]⟩ : ByteArray).size = 6 := rfl
  have le : (⟨#[100, 111, 32]⟩ : ByteArray).size = 3 := rfl
  have lf : (⟨#[105, 102, 32]⟩ : ByteArray).size = 3 := rfl
  have lg : (⟨#[32, 123, 10]⟩ : ByteArray).size = 3 := rfl
  have lh : (⟨#[125, 32, 101, 108, 115, 101, 32, 123, 10]⟩ : ByteArray).size = 9 := rfl
  have li : (⟨#[125, 10]⟩ : ByteArray).size = 2 := rfl
  have lj : (⟨#[119, 104, 105, 108, 101, 32]⟩ : ByteArray).size = 6 := rfl
  unfold lineS
  by_cases c13 : kind = 13
  · rw [if_pos c13]
    refine ev_s2 (spec_in_ev i) Ev0 fun k e0 e1 => ?_
    rw [spec_l06Step.f, if_pos q1, if_pos q2, hX]
    simp only
    rw [e0, Option.bind_some, if_pos c13]
    rw [if_pos (by (try simp only [ByteArray.size_append]); omega), if_pos (by (try simp only [ByteArray.size_append]); omega), if_pos (by (try simp only [ByteArray.size_append]); omega), if_pos q3, e1, Option.bind_some, if_pos (by (try simp only [ByteArray.size_append]); omega), if_pos (by (try simp only [ByteArray.size_append]); omega)]
  rw [if_neg c13]
  by_cases c14 : kind = 14
  · rw [if_pos c14]
    refine ev_s2 (spec_in_ev i) Ev0 fun k e0 e1 => ?_
    rw [spec_l06Step.f, if_pos q1, if_pos q2, hX]
    simp only
    rw [e0, Option.bind_some, if_neg (by omega), if_pos c14]
    rw [if_pos (by (try simp only [ByteArray.size_append]); omega), if_pos (by (try simp only [ByteArray.size_append]); omega), if_pos q3, e1, Option.bind_some, if_pos (by (try simp only [ByteArray.size_append]); omega), if_pos (by (try simp only [ByteArray.size_append]); omega)]
  rw [if_neg c14]
  by_cases c15 : kind = 15
  · rw [if_pos c15]
    refine ev_s2 (spec_in_ev i) Ev0 fun k e0 e1 => ?_
    rw [spec_l06Step.f, if_pos q1, if_pos q2, hX]
    simp only
    rw [e0, Option.bind_some, if_neg (by omega), if_neg (by omega), if_pos c15]
    rw [if_pos (by (try simp only [ByteArray.size_append]); omega), if_pos (by (try simp only [ByteArray.size_append]); omega), if_pos (by (try simp only [ByteArray.size_append]); omega), if_pos q3, e1, Option.bind_some, if_pos (by (try simp only [ByteArray.size_append]); omega), if_pos (by (try simp only [ByteArray.size_append]); omega)]
  rw [if_neg c15]
  by_cases c18 : kind = 18
  · rw [if_pos c18]
    refine ev_s2 (spec_in_ev i) Ev0 fun k e0 e1 => ?_
    rw [spec_l06Step.f, if_pos q1, if_pos q2, hX]
    simp only
    rw [e0, Option.bind_some, if_neg (by omega), if_neg (by omega), if_neg (by omega), if_pos c18]
    rw [if_pos (by (try simp only [ByteArray.size_append]); omega), if_pos q3, e1, Option.bind_some, if_pos (by (try simp only [ByteArray.size_append]); omega), if_pos (by (try simp only [ByteArray.size_append]); omega)]
  rw [if_neg c18]
  by_cases c19 : kind = 19
  · rw [if_pos c19]
    refine ev_s2 (spec_in_ev i) Ev0 fun k e0 e1 => ?_
    rw [spec_l06Step.f, if_pos q1, if_pos q2, hX]
    simp only
    rw [e0, Option.bind_some, if_neg (by omega), if_neg (by omega), if_neg (by omega), if_neg (by omega), if_pos c19]
    rw [if_pos (by (try simp only [ByteArray.size_append]); omega), if_pos q3, e1, Option.bind_some, if_pos (by (try simp only [ByteArray.size_append]); omega), if_pos (by (try simp only [ByteArray.size_append]); omega)]
  rw [if_neg c19]
  by_cases c16 : kind = 16
  · have z1 := S1 (Or.inl c16)
    have z2 := S2 c16
    have y1 := h2 (Or.inl c16)
    have y2 := h3 c16
    rw [if_pos c16]
    refine ev_s4 (spec_in_ev i) Ev0 (E1 (Or.inl c16)) (E2 c16) fun k e0 e1 e2 e3 => ?_
    rw [spec_l06Step.f, if_pos q1, if_pos q2, hX]
    simp only
    rw [e0, Option.bind_some, if_neg (by omega), if_neg (by omega), if_neg (by omega), if_neg (by omega), if_neg (by omega), if_pos c16]
    rw [if_pos (by (try simp only [ByteArray.size_append]); omega), if_pos q3, e1, Option.bind_some, if_pos (by (try simp only [ByteArray.size_append]); omega), if_pos (by (try simp only [ByteArray.size_append]); omega)]
    rw [if_pos (by omega), e2, Option.bind_some, if_pos (by (try simp only [ByteArray.size_append]); omega), if_pos (by (try simp only [ByteArray.size_append]); omega), if_pos (by (try simp only [ByteArray.size_append]); omega)]
    rw [if_pos (by omega), e3, Option.bind_some, if_pos (by (try simp only [ByteArray.size_append]); omega), if_pos (by (try simp only [ByteArray.size_append]); omega), if_pos (by (try simp only [ByteArray.size_append]); omega)]
  rw [if_neg c16]
  have c17 : kind = 17 := by omega
  have z1 := S1 (Or.inr c17)
  have y1 := h2 (Or.inr c17)
  refine ev_s3 (spec_in_ev i) Ev0 (E1 (Or.inr c17)) fun k e0 e1 e2 => ?_
  rw [spec_l06Step.f, if_pos q1, if_pos q2, hX]
  simp only
  rw [e0, Option.bind_some, if_neg (by omega), if_neg (by omega), if_neg (by omega), if_neg (by omega), if_neg (by omega), if_neg (by omega)]
  rw [if_pos (by (try simp only [ByteArray.size_append]); omega), if_pos q3, e1, Option.bind_some, if_pos (by (try simp only [ByteArray.size_append]); omega), if_pos (by (try simp only [ByteArray.size_append]); omega)]
  rw [if_pos (by omega), e2, Option.bind_some, if_pos (by (try simp only [ByteArray.size_append]); omega), if_pos (by (try simp only [ByteArray.size_append]); omega), if_pos (by (try simp only [ByteArray.size_append]); omega)]
theorem impl_line_ev (Ev0 : Ev (fun k => impl_showValue.f k ns F (rd kids 0)) (gv (rd kids 0))) (E1 : kind = 16 ∨ kind = 17 → Ev (fun k => impl_showSteps.f k ns F (rd kids 1) (wrap64 (i + 1))) (gb (rd kids 1) (wrap64 (i + 1)))) (E2 : kind = 16 → Ev (fun k => impl_showSteps.f k ns F (rd kids 2) (wrap64 (i + 1))) (gb (rd kids 2) (wrap64 (i + 1)))) : Ev (fun k => impl_showStep.f k ns F (a : Int) i) (lineS gv gb i kind name kids) := by
  have q1 : (0 : Int) ≤ (a : Int) := by omega
  have q2 : (a : Int) < (ns.length : Int) := by omega
  have q3 : (0 : Int) < (kids.length : Int) := by omega
  have hp := padS_size i
  have l2 : (⟨#[59, 10]⟩ : ByteArray).size = 2 := rfl
  have la : (⟨#[32, 61, 32]⟩ : ByteArray).size = 3 := rfl
  have lb : (⟨#[108, 101, 116, 32]⟩ : ByteArray).size = 4 := rfl
  have lc : (⟨#[42]⟩ : ByteArray).size = 1 := rfl
  have ld : (⟨#[112, 114, 105, 110, 116, 32]⟩ : ByteArray).size = 6 := rfl
  have le : (⟨#[100, 111, 32]⟩ : ByteArray).size = 3 := rfl
  have lf : (⟨#[105, 102, 32]⟩ : ByteArray).size = 3 := rfl
  have lg : (⟨#[32, 123, 10]⟩ : ByteArray).size = 3 := rfl
  have lh : (⟨#[125, 32, 101, 108, 115, 101, 32, 123, 10]⟩ : ByteArray).size = 9 := rfl
  have li : (⟨#[125, 10]⟩ : ByteArray).size = 2 := rfl
  have lj : (⟨#[119, 104, 105, 108, 101, 32]⟩ : ByteArray).size = 6 := rfl
  unfold lineS
  by_cases c13 : kind = 13
  · rw [if_pos c13]
    refine ev_s1 Ev0 fun k e1 => ?_
    rw [impl_showStep.f, if_pos q1, if_pos q2, hX]
    simp only
    rw [repeat_is, Option.bind_some, if_pos q3, e1, Option.bind_some, if_pos c13]
    rw [if_pos (by (try simp only [ByteArray.size_append]); omega), if_pos (by (try simp only [ByteArray.size_append]); omega), if_pos (by (try simp only [ByteArray.size_append]); omega), if_pos (by (try simp only [ByteArray.size_append]); omega), if_pos (by (try simp only [ByteArray.size_append]); omega)]
  rw [if_neg c13]
  by_cases c14 : kind = 14
  · rw [if_pos c14]
    refine ev_s1 Ev0 fun k e1 => ?_
    rw [impl_showStep.f, if_pos q1, if_pos q2, hX]
    simp only
    rw [repeat_is, Option.bind_some, if_pos q3, e1, Option.bind_some, if_neg (by omega), if_pos c14]
    rw [if_pos (by (try simp only [ByteArray.size_append]); omega), if_pos (by (try simp only [ByteArray.size_append]); omega), if_pos (by (try simp only [ByteArray.size_append]); omega), if_pos (by (try simp only [ByteArray.size_append]); omega)]
  rw [if_neg c14]
  by_cases c15 : kind = 15
  · rw [if_pos c15]
    refine ev_s1 Ev0 fun k e1 => ?_
    rw [impl_showStep.f, if_pos q1, if_pos q2, hX]
    simp only
    rw [repeat_is, Option.bind_some, if_pos q3, e1, Option.bind_some, if_neg (by omega), if_neg (by omega), if_pos c15]
    rw [if_pos (by (try simp only [ByteArray.size_append]); omega), if_pos (by (try simp only [ByteArray.size_append]); omega), if_pos (by (try simp only [ByteArray.size_append]); omega), if_pos (by (try simp only [ByteArray.size_append]); omega), if_pos (by (try simp only [ByteArray.size_append]); omega)]
  rw [if_neg c15]
  by_cases c18 : kind = 18
  · rw [if_pos c18]
    refine ev_s1 Ev0 fun k e1 => ?_
    rw [impl_showStep.f, if_pos q1, if_pos q2, hX]
    simp only
    rw [repeat_is, Option.bind_some, if_pos q3, e1, Option.bind_some, if_neg (by omega), if_neg (by omega), if_neg (by omega), if_neg (by omega), if_neg (by omega), if_pos c18]
    rw [if_pos (by (try simp only [ByteArray.size_append]); omega), if_pos (by (try simp only [ByteArray.size_append]); omega), if_pos (by (try simp only [ByteArray.size_append]); omega)]
  rw [if_neg c18]
  by_cases c19 : kind = 19
  · rw [if_pos c19]
    refine ev_s1 Ev0 fun k e1 => ?_
    rw [impl_showStep.f, if_pos q1, if_pos q2, hX]
    simp only
    rw [repeat_is, Option.bind_some, if_pos q3, e1, Option.bind_some, if_neg (by omega), if_neg (by omega), if_neg (by omega), if_neg (by omega), if_neg (by omega), if_neg (by omega)]
    rw [if_pos (by (try simp only [ByteArray.size_append]); omega), if_pos (by (try simp only [ByteArray.size_append]); omega), if_pos (by (try simp only [ByteArray.size_append]); omega)]
  rw [if_neg c19]
  by_cases c16 : kind = 16
  · have z1 := S1 (Or.inl c16)
    have z2 := S2 c16
    have y1 := h2 (Or.inl c16)
    have y2 := h3 c16
    rw [if_pos c16]
    refine ev_s3 Ev0 (E1 (Or.inl c16)) (E2 c16) fun k e1 e2 e3 => ?_
    rw [impl_showStep.f, if_pos q1, if_pos q2, hX]
    simp only
    rw [repeat_is, Option.bind_some, if_pos q3, e1, Option.bind_some, if_neg (by omega), if_neg (by omega), if_neg (by omega), if_pos c16]
    rw [if_pos (by (try simp only [ByteArray.size_append]); omega), if_pos (by (try simp only [ByteArray.size_append]); omega), if_pos (by (try simp only [ByteArray.size_append]); omega)]
    rw [if_pos (by omega), e2, Option.bind_some, if_pos (by (try simp only [ByteArray.size_append]); omega), if_pos (by (try simp only [ByteArray.size_append]); omega), if_pos (by (try simp only [ByteArray.size_append]); omega)]
    rw [if_pos (by omega), e3, Option.bind_some, if_pos (by (try simp only [ByteArray.size_append]); omega), if_pos (by (try simp only [ByteArray.size_append]); omega), if_pos (by (try simp only [ByteArray.size_append]); omega)]
  rw [if_neg c16]
  have c17 : kind = 17 := by omega
  have z1 := S1 (Or.inr c17)
  have y1 := h2 (Or.inr c17)
  refine ev_s2 Ev0 (E1 (Or.inr c17)) fun k e1 e2 => ?_
  rw [impl_showStep.f, if_pos q1, if_pos q2, hX]
  simp only
  rw [repeat_is, Option.bind_some, if_pos q3, e1, Option.bind_some, if_neg (by omega), if_neg (by omega), if_neg (by omega), if_neg (by omega), if_pos c17]
  rw [if_pos (by (try simp only [ByteArray.size_append]); omega), if_pos (by (try simp only [ByteArray.size_append]); omega), if_pos (by (try simp only [ByteArray.size_append]); omega)]
  rw [if_pos (by omega), e2, Option.bind_some, if_pos (by (try simp only [ByteArray.size_append]); omega), if_pos (by (try simp only [ByteArray.size_append]); omega), if_pos (by (try simp only [ByteArray.size_append]); omega)]
end
theorem spec_blk_l0 (ns : List NodeT) (g : Int → ByteArray) (b : Nat) (hb : b ≤ 100000000000000000) (a : Nat) (ha : a < ns.length) (i : Int) (kids : List Int) (hX : (rd_T62 ns (a : Int)).f3 = kids) (hk : kids.length ≤ 12) (Hs : ∀ q : Nat, q < kids.length → (g (rd kids (q : Int))).size ≤ b)
    (H : ∀ q : Nat, q < kids.length → Ev (fun k => spec_l06Step.f k ns (rd kids (q : Int)) i) (g (rd kids (q : Int)))) : ∀ (n p : Nat) (acc : ByteArray), n + p = kids.length → acc.size ≤ p * b →
    Ev (fun k => spec_l06Block.l0 k ns (a : Int) i acc (p : Int)) (blkS g kids n p acc)
  | 0, p, acc, h, hz => by
    refine ev_s0 fun k => ?_
    rw [spec_l06Block.l0, if_pos (by omega), if_pos (by omega), hX, if_neg (by omega), blkS]
  | n + 1, p, acc, h, hz => by
    have hp := Hs p (by omega)
    have q4 : p * b ≤ 12 * b := Nat.mul_le_mul_right _ (by omega)
    have q5 : (p + 1) * b = p * b + b := Nat.succ_mul _ _
    refine ev_s2 (H p (by omega)) (spec_blk_l0 ns g b hb a ha i kids hX hk Hs H n (p + 1) (acc ++ g (rd kids (p : Int))) (by omega) (by rw [ByteArray.size_append]; omega)) fun k e1 e2 => ?_
    rw [spec_l06Block.l0, if_pos (by omega), if_pos (by omega), hX, if_pos (by omega), if_pos (by omega), e1, Option.bind_some, if_pos (by omega), w_succ (by omega), e2, blkS]
theorem impl_blk_l0 (ns : List NodeT) (F : List FnT) (g : Int → ByteArray) (b : Nat) (hb : b ≤ 100000000000000000) (i : Int) (kids : List Int) (hk : kids.length ≤ 12) (Hs : ∀ q : Nat, q < kids.length → (g (rd kids (q : Int))).size ≤ b)
    (H : ∀ q : Nat, q < kids.length → Ev (fun k => impl_showStep.f k ns F (rd kids (q : Int)) i) (g (rd kids (q : Int)))) : ∀ (n p : Nat) (acc : ByteArray), n + p = kids.length → acc.size ≤ p * b →
    Ev (fun k => impl_showSteps.l0 k i acc kids (kids.length : Int) (p : Int) ns F) (blkS g kids n p acc)
  | 0, p, acc, h, hz => by
    refine ev_s0 fun k => ?_
    rw [impl_showSteps.l0, if_neg (by omega), blkS]
  | n + 1, p, acc, h, hz => by
    have hp := Hs p (by omega)
    have q4 : p * b ≤ 12 * b := Nat.mul_le_mul_right _ (by omega)
    have q5 : (p + 1) * b = p * b + b := Nat.succ_mul _ _
    refine ev_s2 (H p (by omega)) (impl_blk_l0 ns F g b hb i kids hk Hs H n (p + 1) (acc ++ g (rd kids (p : Int))) (by omega) (by rw [ByteArray.size_append]; omega)) fun k e1 e2 => ?_
    rw [impl_showSteps.l0, if_pos (by omega), if_pos (by omega), if_pos (by omega), e1, Option.bind_some, if_pos (by omega), w_succ (by omega), e2, blkS]
theorem step_facts (P : List NodeT) (a : Nat) (h : goodN P a) : (13 ≤ (rd_T62 P (a : Int)).f0 ∧ (rd_T62 P (a : Int)).f0 ≤ 19 → 0 < (rd_T62 P (a : Int)).f3.length) ∧ ((rd_T62 P (a : Int)).f0 = 16 ∨ (rd_T62 P (a : Int)).f0 = 17 → 1 < (rd_T62 P (a : Int)).f3.length) ∧ ((rd_T62 P (a : Int)).f0 = 16 → 2 < (rd_T62 P (a : Int)).f3.length) ∧ ((rd_T62 P (a : Int)).f0 = 20 → (rd_T62 P (a : Int)).f3.length ≤ 12) := by
  have S := goodN_shape P a h
  generalize (rd_T62 P (a : Int)).f0 = kind at S ⊢
  generalize (rd_T62 P (a : Int)).f3 = kids at S ⊢
  have s13 : (shapeV 13).1 = 1 := by decide
  have s14 : (shapeV 14).1 = 1 := by decide
  have s15 : (shapeV 15).1 = 1 := by decide
  have s18 : (shapeV 18).1 = 1 := by decide
  have s19 : (shapeV 19).1 = 1 := by decide
  have s16 : (shapeV 16).1 = 3 := by decide
  have s17 : (shapeV 17).1 = 2 := by decide
  have s20 : (shapeV 20).2 = 12 := by decide
  refine ⟨fun c => ?_, fun c => ?_, fun c => ?_, fun c => ?_⟩
  · rcases (by omega : kind = 13 ∨ kind = 14 ∨ kind = 15 ∨ kind = 16 ∨ kind = 17 ∨ kind = 18 ∨ kind = 19) with c | c | c | c | c | c | c <;> rw [c] at S <;> omega
  · rcases c with c | c <;> rw [c] at S <;> omega
  · rw [c] at S; omega
  · rw [c] at S; omega
theorem step_both (ns : List NodeT) (F : List FnT) (hP : progSm ns F) : ∀ (d a : Nat), d ≤ 10 → goodN ns a → depthLe ns d (a : Int) →
    (13 ≤ (rd_T62 ns (a : Int)).f0 ∧ (rd_T62 ns (a : Int)).f0 ≤ 19 → ∀ i, Ev (fun k => spec_l06Step.f k ns (a : Int) i) (textR ns d (a : Int) i) ∧ Ev (fun k => impl_showStep.f k ns F (a : Int) i) (textR ns d (a : Int) i) ∧ (textR ns d (a : Int) i).size ≤ bndS d) ∧
    ((rd_T62 ns (a : Int)).f0 = 20 → ∀ i, Ev (fun k => spec_l06Block.f k ns (a : Int) i) (textR ns d (a : Int) i) ∧ Ev (fun k => impl_showSteps.f k ns F (a : Int) i) (textR ns d (a : Int) i) ∧ (textR ns d (a : Int) i).size ≤ bndS d)
  | 0, a, _, _, h => h.elim
  | d + 1, a, hd, ga, hp => by
    have la := goodN_lt ns a ga
    have hb := bnd_ten d (by omega)
    have hbs := bndS_ten d (by omega)
    have hnm : (rd_T62 ns (a : Int)).f2.size ≤ 1048576 := by rw [rdNT_nat ns a la]; exact (hP.1.2 _ (List.getElem_mem la)).1
    obtain ⟨f1, f2, f3, f4⟩ := step_facts ns a ga
    have kf := kid_fit ns a ga
    have ka := goodN_kid ns a ga
    rw [depthLe] at hp
    have W : ∀ q : Nat, q < (rd_T62 ns (a : Int)).f3.length → 1 ≤ (rd_T62 ns (rd (rd_T62 ns (a : Int)).f3 (q : Int))).f0 ∧ (rd_T62 ns (rd (rd_T62 ns (a : Int)).f3 (q : Int))).f0 ≤ 12 → Ev (fun k => spec_l06Value.f k ns (rd (rd_T62 ns (a : Int)).f3 (q : Int))) (showR ns d (rd (rd_T62 ns (a : Int)).f3 (q : Int))) ∧ Ev (fun k => impl_showValue.f k ns F (rd (rd_T62 ns (a : Int)).f3 (q : Int))) (showR ns d (rd (rd_T62 ns (a : Int)).f3 (q : Int))) ∧ (showR ns d (rd (rd_T62 ns (a : Int)).f3 (q : Int))).size ≤ bnd d := fun q hq hv => by
      obtain ⟨m, e1, l1, g1⟩ := ka q hq
      have hp' := hp q hq
      rw [e1] at hp' hv ⊢
      exact show_both ns F hP d m (by omega) g1 hp' hv
    have T : ∀ q : Nat, q < (rd_T62 ns (a : Int)).f3.length → (13 ≤ (rd_T62 ns (rd (rd_T62 ns (a : Int)).f3 (q : Int))).f0 ∧ (rd_T62 ns (rd (rd_T62 ns (a : Int)).f3 (q : Int))).f0 ≤ 19 → ∀ i, Ev (fun k => spec_l06Step.f k ns (rd (rd_T62 ns (a : Int)).f3 (q : Int)) i) (textR ns d (rd (rd_T62 ns (a : Int)).f3 (q : Int)) i) ∧ Ev (fun k => impl_showStep.f k ns F (rd (rd_T62 ns (a : Int)).f3 (q : Int)) i) (textR ns d (rd (rd_T62 ns (a : Int)).f3 (q : Int)) i) ∧ (textR ns d (rd (rd_T62 ns (a : Int)).f3 (q : Int)) i).size ≤ bndS d) ∧
      ((rd_T62 ns (rd (rd_T62 ns (a : Int)).f3 (q : Int))).f0 = 20 → ∀ i, Ev (fun k => spec_l06Block.f k ns (rd (rd_T62 ns (a : Int)).f3 (q : Int)) i) (textR ns d (rd (rd_T62 ns (a : Int)).f3 (q : Int)) i) ∧ Ev (fun k => impl_showSteps.f k ns F (rd (rd_T62 ns (a : Int)).f3 (q : Int)) i) (textR ns d (rd (rd_T62 ns (a : Int)).f3 (q : Int)) i) ∧ (textR ns d (rd (rd_T62 ns (a : Int)).f3 (q : Int)) i).size ≤ bndS d) := fun q hq => by
      obtain ⟨m, e1, l1, g1⟩ := ka q hq
      have hp' := hp q hq
      rw [e1] at hp' ⊢
      exact step_both ns F hP d m (by omega) g1 hp'
    refine ⟨fun hv i => ?_, fun hv i => ?_⟩
    · have K0 := fit_first _ _ hv (kf 0 (f1 hv))
      have W0 := W 0 (f1 hv) K0
      have T1 : (rd_T62 ns (a : Int)).f0 = 16 ∨ (rd_T62 ns (a : Int)).f0 = 17 → _ := fun c => (T 1 (f2 c)).2 (fit_later _ _ _ c (by omega) (kf 1 (f2 c))) (wrap64 (i + 1))
      have T2 : (rd_T62 ns (a : Int)).f0 = 16 → _ := fun c => (T 2 (f3 c)).2 (fit_later _ _ _ (Or.inl c) (by omega) (kf 2 (f3 c))) (wrap64 (i + 1))
      have f1' := f1 hv
      rw [textR, if_neg (by omega), bndS]
      clear W T kf ka hp f1 f4 K0
      generalize hX : rd_T62 ns (a : Int) = X at hnm f1' f2 f3 hv W0 T1 T2
      obtain ⟨kind, num, name, kids⟩ := X
      refine ⟨spec_line_ev ns (showR ns d) (textR ns d) (bnd d) (bndS d) hb hbs a la i kind num name kids hX hnm hv f1' f2 f3 W0.2.2 (fun c => (T1 c).2.2) (fun c => (T2 c).2.2) W0.1 (fun c => (T1 c).1) (fun c => (T2 c).1),
        impl_line_ev ns F (showR ns d) (textR ns d) (bnd d) (bndS d) hb hbs a la i kind num name kids hX hnm hv f1' f2 f3 W0.2.2 (fun c => (T1 c).2.2) (fun c => (T2 c).2.2) W0.2.1 (fun c => (T1 c).2.1) (fun c => (T2 c).2.1), ?_⟩
      refine Nat.le_trans (lineS_size (showR ns d) (textR ns d) (bnd d) (bndS d) i kind name kids hnm hv W0.2.2 (fun c => (T1 c).2.2) (fun c => (T2 c).2.2)) ?_
      omega
    · have hk := f4 hv
      have Tq : ∀ q : Nat, q < (rd_T62 ns (a : Int)).f3.length → _ := fun q hq => (T q hq).1 (fit_block _ _ (by rw [← hv]; exact kf q hq)) i
      rw [textR, if_pos hv, bndS]
      clear W T kf ka hp f1 f2 f3
      generalize hX : (rd_T62 ns (a : Int)).f3 = kids at hk Tq
      refine ⟨?_, ?_, ?_⟩
      · refine ev_s1 (spec_blk_l0 ns (fun c => textR ns d c i) (bndS d) hbs a la i kids hX hk (fun q hq => (Tq q hq).2.2) (fun q hq => (Tq q hq).1) kids.length 0 (⟨#[]⟩ : ByteArray) (by omega) (by show 0 ≤ _; omega)) fun k e => ?_
        rw [spec_l06Block.f]
        exact e
      · refine ev_s1 (impl_blk_l0 ns F (fun c => textR ns d c i) (bndS d) hbs i kids hk (fun q hq => (Tq q hq).2.2) (fun q hq => (Tq q hq).2.1) kids.length 0 (⟨#[]⟩ : ByteArray) (by omega) (by show 0 ≤ _; omega)) fun k e => ?_
        rw [impl_showSteps.f, if_pos (by omega), if_pos (by omega), hX]
        exact e
      · have := blkS_size (fun c => textR ns d c i) kids (bndS d) kids.length 0 (⟨#[]⟩ : ByteArray) (by omega) (fun q hq => (Tq q hq).2.2)
        have q4 : kids.length * bndS d ≤ 12 * bndS d := Nat.mul_le_mul_right _ hk
        have q5 : (⟨#[]⟩ : ByteArray).size = 0 := rfl
        omega
def stepV (ns : List NodeT) (a i : Int) : ByteArray := if deepV ns a = 0 then (⟨#[]⟩ : ByteArray) else if 13 ≤ (rd_T62 ns a).f0 ∧ (rd_T62 ns a).f0 ≤ 19 then textR ns 10 a i else (⟨#[]⟩ : ByteArray)
theorem impl_ShowStep_ev (ns : List NodeT) (F : List FnT) (hP : progSm ns F) (a j : Int) : Ev (fun k => impl_ShowStep.f k ns F a j) (stepV ns a j) := by
  have hD := impl_DeepOf_ev ns hP.1.1 hP.1.2 a
  by_cases c : deepV ns a = 0
  · refine ev_a1 hD fun k e => ?_
    rw [impl_ShowStep.f, e, Option.bind_some, if_pos c, stepV, if_pos c]
  · obtain ⟨i, rfl, hi, gi, dp⟩ := deepV_depth ns a c
    have iv : impl_isStep.f (rd_T62 ns (i : Int)).f0 = some (decide (13 ≤ (rd_T62 ns (i : Int)).f0 ∧ (rd_T62 ns (i : Int)).f0 ≤ 19)) := by rw [impl_isStep.f, impl_in2_is, Option.bind_some]
    by_cases c2 : 13 ≤ (rd_T62 ns (i : Int)).f0 ∧ (rd_T62 ns (i : Int)).f0 ≤ 19
    · refine ev_a2 hD ((step_both ns F hP 10 i (by omega) gi dp).1 c2 j).2.1 fun k e1 e2 => ?_
      rw [impl_ShowStep.f, e1, Option.bind_some, if_neg c, if_pos (by omega), if_pos (by omega), iv, Option.bind_some, if_pos (decide_eq_true c2), e2, Option.bind_some, stepV, if_neg c, if_pos c2]
    · refine ev_a1 hD fun k e1 => ?_
      rw [impl_ShowStep.f, e1, Option.bind_some, if_neg c, if_pos (by omega), if_pos (by omega), iv, Option.bind_some, if_neg (by simpa using c2), stepV, if_neg c, if_neg c2]
theorem spec_ShowStep_ev (ns : List NodeT) (F : List FnT) (hP : progSm ns F) (a j : Int) : Ev (fun k => spec_ShowStep.f k ns F a j) (stepV ns a j) := by
  have hD := spec_DeepOf_ev ns hP.1.1 hP.1.2 a
  by_cases c : deepV ns a = 0
  · refine ev_a1 hD fun k e => ?_
    rw [spec_ShowStep.f, e, Option.bind_some, if_pos c, stepV, if_pos c]
  · obtain ⟨i, rfl, hi, gi, dp⟩ := deepV_depth ns a c
    have iv : spec_l04Statement.f (rd_T62 ns (i : Int)).f0 = some (decide (13 ≤ (rd_T62 ns (i : Int)).f0 ∧ (rd_T62 ns (i : Int)).f0 ≤ 19)) := by rw [spec_l04Statement.f, spec_in_is, Option.bind_some]
    by_cases c2 : 13 ≤ (rd_T62 ns (i : Int)).f0 ∧ (rd_T62 ns (i : Int)).f0 ≤ 19
    · refine ev_a2 hD ((step_both ns F hP 10 i (by omega) gi dp).1 c2 j).1 fun k e1 e2 => ?_
      rw [spec_ShowStep.f, e1, Option.bind_some, if_neg c, if_pos (by omega), if_pos (by omega), iv, Option.bind_some, if_pos (decide_eq_true c2), e2, Option.bind_some, stepV, if_neg c, if_pos c2]
    · refine ev_a1 hD fun k e1 => ?_
      rw [spec_ShowStep.f, e1, Option.bind_some, if_neg c, if_pos (by omega), if_pos (by omega), iv, Option.bind_some, if_neg (by simpa using c2), stepV, if_neg c, if_neg c2]

theorem FnExactShowStep : ∀ (l0_0 : List S80) (l0_1 : List S84) (a1 : Int) (a2 : Int), (l0_0.length ≤ maxLen ∧ ∀ a ∈ l0_0, G80 a) → (l0_1.length ≤ maxLen ∧ ∀ a ∈ l0_1, G84 a) → (Lit.int .i64 a1).wf = true → (Lit.int .i64 a2).wf = true → ∃ k, laws_FnExactShowStep.f k l0_0 l0_1 a1 a2 = some true := by
  intro ns fs a j hn hf ha hj
  obtain ⟨r, E1, h1⟩ := laws_szProgram_or ns fs 1048576 (by decide) (by decide) hn.1 (fun x hx => ⟨(hn.2 x hx).2.2.1, (hn.2 x hx).2.2.2.1⟩) hf.1 (fun x hx => ⟨(hf.2 x hx).1, (hf.2 x hx).2.1.1, fun y hy => ((hf.2 x hx).2.1.2 y hy).1⟩)
  by_cases c : r < 0
  · obtain ⟨k, e⟩ := E1.rounds
    have e' : laws_szProgram.f k ns fs 1048576 = some r := e
    exact ⟨k, by rw [laws_FnExactShowStep.f, e', Option.bind_some, if_pos c]⟩
  rcases h1 with h1 | h1
  · exact absurd h1 c
  have hP := h1.2.2
  obtain ⟨K1, e1⟩ := E1
  obtain ⟨K3, e3⟩ := laws_toProgram_ev ns fs hP
  obtain ⟨K5, e5⟩ := laws_eqProgram_ev _ _ hP
  obtain ⟨K7, e7⟩ := spec_ShowStep_ev _ _ hP a j
  obtain ⟨K8, e8⟩ := impl_ShowStep_ev _ _ hP a j
  refine ⟨K1 + K3 + K5 + K7 + K8, ?_⟩
  have f1 := e1 (K1 + K3 + K5 + K7 + K8) (by omega)
  have f3 := e3 (K1 + K3 + K5 + K7 + K8) (by omega)
  have f5 := e5 (K1 + K3 + K5 + K7 + K8) (by omega)
  have f7 := e7 (K1 + K3 + K5 + K7 + K8) (by omega)
  have f8 := e8 (K1 + K3 + K5 + K7 + K8) (by omega)
  simp only [laws_FnExactShowStep.f]
  simp only [f1, f3, f5, f7, f8, Option.bind_some, if_neg c, if_true]
end Go.Proofs.YtcoapbnbakmkoaaGreatDoor.Pure
