/- The program's FnAt returns what the reference's returns, for every program and name. No condition beside what the statement itself asks. -/
import Derived.Test.YtodicbbeaidibaaPFnExactFnAtx6
import Derived.Test.YtodicbbeaidibaaRdFnExactFnAt
set_option linter.unusedVariables false
set_option linter.unusedSimpArgs false
namespace Go.Proofs.Ytodicbbeaidibaa.Pure
open Go.RowKit Go.Proofs.Ytodicbbeaidibaa.PFnExactFnAt Go.Proofs.Ytodicbbeaidibaa.RdFnExactFnAt Go.Proofs.YtodicbbeaidibaaW.PrintWords Go.Proofs.YtodicbbeaidibaaW.PrintLast

theorem b_w64 {x : Int} (h0 : -9223372036854775808 ≤ x) (h1 : x ≤ 9223372036854775807) : wrap64 x = x := by unfold wrap64; omega
theorem b_i64 {x : Int} (h : (Lit.int .i64 x).wf = true) : -9223372036854775808 ≤ x ∧ x ≤ 9223372036854775807 := by
  simp only [Lit.wf, Bool.and_eq_true, decide_eq_true_eq] at h
  have h1 : IntKind.i64.min = -9223372036854775808 := by decide
  have h2 : IntKind.i64.max = 9223372036854775807 := by decide
  omega
theorem b_u32 {x : Int} (h : (Lit.int .u32 x).wf = true) : 0 ≤ x ∧ x < 4294967296 := by
  simp only [Lit.wf, Bool.and_eq_true, decide_eq_true_eq] at h
  have h1 : IntKind.u32.min = 0 := by decide
  have h2 : IntKind.u32.max = 4294967295 := by decide
  omega
theorem b_tmod {x y : Int} (h : 0 ≤ x) : Int.tmod x y = x % y := Int.tmod_eq_emod_of_nonneg h
theorem b_tdiv {x y : Int} (h : 0 ≤ x) : Int.tdiv x y = x / y := Int.tdiv_eq_ediv_of_nonneg h
theorem b_ev_eq {α : Type} {g : Nat → Option α} {r r' : α} (h : Ev g r) (e : r = r') : Ev g r' := e ▸ h
theorem b_two {α β : Type} {g : Nat → Option α} {f : Nat → Option β} {a : α} {b : β} (h : Ev g a) (h' : Ev f b) : ∃ k, g k = some a ∧ f k = some b := by
  obtain ⟨K, h⟩ := h
  obtain ⟨K', h'⟩ := h'
  exact ⟨max K K', h _ (by omega), h' _ (by omega)⟩
theorem b_list_take_succ {α : Type} (l : List α) (i : Nat) (h : i < l.length) : l.take (i + 1) = l.take i ++ [l[i]] := by
  rw [List.take_succ_eq_append_getElem h]
theorem ev_a0 {α : Type} {F : Nat → Option α} {r : α} (H : ∀ k, F k = some r) : Ev F r := ⟨0, fun k _ => H k⟩
theorem ev_s0 {α : Type} {F : Nat → Option α} {r : α} (H : ∀ k, F (k + 1) = some r) : Ev F r := by
  refine ⟨1, fun k hk => ?_⟩
  obtain ⟨m, rfl⟩ : ∃ m, k = m + 1 := ⟨k - 1, by omega⟩
  exact H m
theorem ev_a1 {α β : Type} {F : Nat → Option α} {r : α} {g : Nat → Option β} {a : β} (ha : Ev g a) (H : ∀ k, g k = some a → F k = some r) : Ev F r := by
  obtain ⟨K, ha⟩ := ha
  exact ⟨K, fun k hk => H k (ha k hk)⟩
theorem ev_s1 {α β : Type} {F : Nat → Option α} {r : α} {g : Nat → Option β} {a : β} (ha : Ev g a) (H : ∀ k, g k = some a → F (k + 1) = some r) : Ev F r := by
  obtain ⟨K, ha⟩ := ha
  refine ⟨K + 1, fun k hk => ?_⟩
  obtain ⟨m, rfl⟩ : ∃ m, k = m + 1 := ⟨k - 1, by omega⟩
  exact H m (ha m (by omega))
theorem ev_and {α β : Type} {g : Nat → Option α} {f : Nat → Option β} {a : α} {b : β} (ha : Ev g a) (hb : Ev f b) : ∃ K, ∀ k, K ≤ k → g k = some a ∧ f k = some b := by
  obtain ⟨K, ha⟩ := ha
  obtain ⟨K', hb⟩ := hb
  exact ⟨max K K', fun k hk => ⟨ha k (by omega), hb k (by omega)⟩⟩
theorem ev_a2 {α β γ : Type} {F : Nat → Option α} {r : α} {g : Nat → Option β} {a : β} {f : Nat → Option γ} {b : γ} (ha : Ev g a) (hb : Ev f b) (H : ∀ k, g k = some a → f k = some b → F k = some r) : Ev F r := by
  obtain ⟨K, h⟩ := ev_and ha hb
  exact ⟨K, fun k hk => H k (h k hk).1 (h k hk).2⟩
theorem ev_s2 {α β γ : Type} {F : Nat → Option α} {r : α} {g : Nat → Option β} {a : β} {f : Nat → Option γ} {b : γ} (ha : Ev g a) (hb : Ev f b) (H : ∀ k, g k = some a → f k = some b → F (k + 1) = some r) : Ev F r := by
  obtain ⟨K, h⟩ := ev_and ha hb
  refine ⟨K + 1, fun k hk => ?_⟩
  obtain ⟨m, rfl⟩ : ∃ m, k = m + 1 := ⟨k - 1, by omega⟩
  exact H m (h m (by omega)).1 (h m (by omega)).2
theorem ev_a3 {α β γ δ : Type} {F : Nat → Option α} {r : α} {g : Nat → Option β} {a : β} {f : Nat → Option γ} {b : γ} {e : Nat → Option δ} {c : δ} (ha : Ev g a) (hb : Ev f b) (hc : Ev e c) (H : ∀ k, g k = some a → f k = some b → e k = some c → F k = some r) : Ev F r := by
  obtain ⟨K, h⟩ := ev_and ha hb
  obtain ⟨K', h'⟩ := hc
  exact ⟨max K K', fun k hk => H k (h k (by omega)).1 (h k (by omega)).2 (h' k (by omega))⟩
theorem ev_s3 {α β γ δ : Type} {F : Nat → Option α} {r : α} {g : Nat → Option β} {a : β} {f : Nat → Option γ} {b : γ} {e : Nat → Option δ} {c : δ} (ha : Ev g a) (hb : Ev f b) (hc : Ev e c) (H : ∀ k, g k = some a → f k = some b → e k = some c → F (k + 1) = some r) : Ev F r := by
  obtain ⟨K, h⟩ := ev_and ha hb
  obtain ⟨K', h'⟩ := hc
  refine ⟨max K K' + 1, fun k hk => ?_⟩
  obtain ⟨m, rfl⟩ : ∃ m, k = m + 1 := ⟨k - 1, by omega⟩
  exact H m (h m (by omega)).1 (h m (by omega)).2 (h' m (by omega))
def evp {α β : Type} (x : Option α) (y : Option β) : Option (α × β) := x.bind fun a => y.bind fun b => some (a, b)
theorem ev_pair {α β : Type} {g : Nat → Option α} {f : Nat → Option β} {a : α} {b : β} (ha : Ev g a) (hb : Ev f b) : Ev (fun k => evp (g k) (f k)) (a, b) :=
  ev_a2 ha hb (fun k e e2 => by simp [evp, e, e2])
theorem ev_pair_l {α β : Type} {x : Option α} {y : Option β} {a : α} {b : β} (h : evp x y = some (a, b)) : x = some a := by
  unfold evp at h
  cases x with
  | none => simp at h
  | some x => cases y with
    | none => simp at h
    | some y => simp at h; simp [h.1]
theorem ev_pair_r {α β : Type} {x : Option α} {y : Option β} {a : α} {b : β} (h : evp x y = some (a, b)) : y = some b := by
  unfold evp at h
  cases x with
  | none => simp at h
  | some x => cases y with
    | none => simp at h
    | some y => simp at h; simp [h.2]

theorem set_at {α : Type} : ∀ (a : List α) (b : α) (r : List α) (v : α) (i : Nat), a.length = i → (a ++ b :: r).set i v = a ++ v :: r
  | [], b, r, v, i, h => by subst h; rfl
  | x :: a, b, r, v, i, h => by
    subst h
    simp only [List.cons_append, List.length_cons, List.set_cons_succ, set_at a b r v a.length rfl]
theorem copy_step {α β : Type} (f : α → β) (xs : List α) (z : β) (i : Nat) (h : i < xs.length) :
    ((xs.take i).map f ++ List.replicate (xs.length - i) z).set i (f xs[i]) = (xs.take (i + 1)).map f ++ List.replicate (xs.length - (i + 1)) z := by
  rw [show xs.length - i = (xs.length - (i + 1)) + 1 by omega, List.replicate_succ, set_at _ _ _ _ i (by simp; omega), List.take_succ_eq_append_getElem h, List.map_append, List.append_assoc]
  rfl
theorem rd_nat (xs : List Int) (i : Nat) (h : i < xs.length) : rd xs (i : Int) = xs[i] := by
  unfold rd
  rw [Int.toNat_natCast, List.getD_eq_getElem?_getD, List.getElem?_eq_getElem h]; rfl
theorem getD_nat {α : Type} (xs : List α) (z : α) (i : Nat) (h : i < xs.length) : xs.getD ((i : Int)).toNat z = xs[i] := by
  rw [Int.toNat_natCast, List.getD_eq_getElem?_getD, List.getElem?_eq_getElem h]; rfl
theorem w_succ {i : Nat} (h : i < 4611686018427387904) : wrap64 ((i : Int) + 1) = ((i + 1 : Nat) : Int) := by unfold wrap64; omega
theorem drop_eq {α : Type} (a b : List α) (i : Nat) (ha : i < a.length) (hb : i < b.length) : a.drop i = b.drop i ↔ a[i] = b[i] ∧ a.drop (i + 1) = b.drop (i + 1) := by
  rw [List.drop_eq_getElem_cons ha, List.drop_eq_getElem_cons hb, List.cons.injEq]

theorem laws_toIntS_l0 (l : List Int) (hl : l.length ≤ 1048576) : ∀ (d i : Nat), i + d = l.length →
    Ev (fun k => laws_toIntS.l0 k l ((l.take i).map id ++ List.replicate (l.length - i) 0) (i : Int)) l
  | 0, i, h => by
    refine ev_s0 (fun k => ?_)
    simp only [laws_toIntS.l0]
    rw [if_neg (by omega), show l.length - i = 0 by omega, show i = l.length by omega]; simp
  | d + 1, i, h => by
    refine ev_s1 (laws_toIntS_l0 l hl d (i + 1) (by omega)) (fun k e => ?_)
    have hi : i < l.length := by omega
    simp only [laws_toIntS.l0]
    rw [if_pos (by omega), if_pos (by omega), if_pos (by simp; omega), Int.toNat_natCast, rd_nat l i hi, show l[i] = id l[i] from rfl, copy_step id l 0 i hi, w_succ (by omega)]
    exact e
theorem laws_toIntS_ev (l : List Int) (hl : l.length ≤ 1048576) : Ev (fun k => laws_toIntS.f k l) l := by
  refine ev_a1 (laws_toIntS_l0 l hl l.length 0 (by omega)) (fun k e => ?_)
  simp only [laws_toIntS.f]
  rw [if_pos (by omega), Int.toNat_natCast, if_pos (by omega)]
  simpa using e
theorem laws_eqIntS_l0 (a : List Int) (hl : a.length ≤ 1048576) : ∀ (d i : Nat), i + d = a.length → Ev (fun k => laws_eqIntS.l0 k a a (i : Int)) true
  | 0, i, h => by
    refine ev_s0 (fun k => ?_)
    simp only [laws_eqIntS.l0]
    rw [if_neg (by omega)]
  | d + 1, i, h => by
    refine ev_s1 (laws_eqIntS_l0 a hl d (i + 1) (by omega)) (fun k e => ?_)
    simp only [laws_eqIntS.l0, if_true]
    rw [if_pos (by omega), if_pos (by omega), if_pos (by omega), w_succ (by omega)]
    exact e
theorem laws_eqIntS_ev (a : List Int) (hl : a.length ≤ 1048576) : Ev (fun k => laws_eqIntS.f k a a) true := by
  refine ev_a1 (laws_eqIntS_l0 a hl a.length 0 (by omega)) (fun k e => ?_)
  simp only [laws_eqIntS.f, if_true]
  exact e

theorem w_succ2 {i : Nat} (h : i < 9223372036854775807) : wrap64 ((i : Int) + 1) = ((i + 1 : Nat) : Int) := by unfold wrap64; omega
theorem sz_sub (a : Int) (n : Nat) (h0 : 0 ≤ a) (h1 : a ≤ 1048576) (hn : n ≤ maxLen) : wrap64 (a - (n : Int)) = a - n := by
  unfold maxLen at hn
  exact b_w64 (by omega) (by omega)
theorem laws_szIntS_or (l : List Int) (a : Int) (h0 : 0 ≤ a) (h1 : a ≤ 1048576) (hl : l.length ≤ maxLen) : ∃ r, laws_szIntS.f l a = some r ∧ (r < 0 ∨ (0 ≤ r ∧ r ≤ a ∧ l.length ≤ 1048576)) := by
  rw [laws_szIntS.f, sz_sub a _ h0 h1 hl]
  by_cases c : a - (l.length : Int) < 0
  · rw [if_pos c]; exact ⟨_, rfl, .inl (by omega)⟩
  · rw [if_neg c]; exact ⟨_, rfl, .inr ⟨by omega, by omega, by omega⟩⟩
abbrev NodeL := S105
abbrev NodeT := S110
def nodeOf (x : NodeL) : NodeT := ⟨x.f0, x.f1, x.f2, x.f3⟩
def nodeWf (x : NodeL) : Prop := x.f2.size ≤ maxLen ∧ x.f3.length ≤ maxLen
def nodeSm (x : NodeT) : Prop := x.f2.size ≤ 1048576 ∧ x.f3.length ≤ 1048576
theorem rdNL_nat (xs : List NodeL) (i : Nat) (h : i < xs.length) : rd_T105 xs (i : Int) = xs[i] := by
  unfold rd_T105
  exact getD_nat xs _ i h
theorem rdNT_nat (xs : List NodeT) (i : Nat) (h : i < xs.length) : rd_T110 xs (i : Int) = xs[i] := by
  unfold rd_T110
  exact getD_nat xs _ i h
theorem laws_szNode_or (x : NodeL) (a : Int) (h0 : 0 ≤ a) (h1 : a ≤ 1048576) (w : nodeWf x) : ∃ r, laws_szNode.f x.f0 x.f1 x.f2 x.f3 a = some r ∧ (r < 0 ∨ (0 ≤ r ∧ r ≤ a ∧ nodeSm (nodeOf x))) := by
  rw [laws_szNode.f, sz_sub a _ h0 h1 w.1]
  by_cases c : a - (x.f2.size : Int) < 0
  · rw [if_pos c]; exact ⟨_, rfl, .inl (by omega)⟩
  · rw [if_neg c]
    obtain ⟨r, e, h⟩ := laws_szIntS_or x.f3 (a - (x.f2.size : Int)) (by omega) (by omega) w.2
    rw [e, Option.bind_some]
    by_cases d : r < 0
    · rw [if_pos d]; exact ⟨_, rfl, .inl (by omega)⟩
    · rw [if_neg d]
      rcases h with h | h
      · exact absurd h d
      · exact ⟨_, rfl, .inr ⟨h.1, by omega, ⟨by show x.f2.size ≤ 1048576; omega, h.2.2⟩⟩⟩
theorem laws_szNodeS_l0 (l : List NodeL) (hl : l.length ≤ maxLen) (hw : ∀ x ∈ l, nodeWf x) : ∀ (d i : Nat) (a : Int), i + d = l.length → 0 ≤ a → a ≤ 1048576 →
    ∃ r, Ev (fun k => laws_szNodeS.l0 k l a (i : Int)) r ∧ (r < 0 ∨ (0 ≤ r ∧ r ≤ a ∧ ∀ x ∈ l.drop i, nodeSm (nodeOf x)))
  | 0, i, a, h, h0, h1 => ⟨a, ev_s0 (fun k => by simp only [laws_szNodeS.l0]; rw [if_neg (by omega)]), .inr ⟨h0, by omega, by rw [List.drop_eq_nil_of_le (by omega)]; simp⟩⟩
  | d + 1, i, a, h, h0, h1 => by
    have hi : i < l.length := by omega
    have hl' := hl
    unfold maxLen at hl'
    obtain ⟨r, e, hr⟩ := laws_szNode_or l[i] a h0 h1 (hw _ (List.getElem_mem hi))
    have q1 : (i : Int) < (l.length : Int) := by omega
    have q2 : (0 : Int) ≤ (i : Int) := by omega
    by_cases c : r < 0
    · exact ⟨-1, ev_s0 (fun k => by simp only [laws_szNodeS.l0]; rw [if_pos q1, if_pos q2, rdNL_nat l i hi, e, Option.bind_some, if_pos c]), .inl (by omega)⟩
    · rcases hr with hr | hr
      · exact absurd hr c
      · obtain ⟨r2, E, h2⟩ := laws_szNodeS_l0 l hl hw d (i + 1) r (by omega) hr.1 (by omega)
        refine ⟨r2, ev_s1 E (fun k e' => ?_), ?_⟩
        · simp only [laws_szNodeS.l0]; rw [if_pos q1, if_pos q2, rdNL_nat l i hi, e, Option.bind_some, if_neg c, w_succ2 (by omega)]; exact e'
        · rcases h2 with h2 | h2
          · exact .inl h2
          · refine .inr ⟨h2.1, by omega, ?_⟩
            rw [List.drop_eq_getElem_cons hi]
            intro x hx
            rcases List.mem_cons.mp hx with hx | hx
            · rw [hx]; exact hr.2.2
            · exact h2.2.2 x hx
theorem laws_szNodeS_or (l : List NodeL) (a : Int) (h0 : 0 ≤ a) (h1 : a ≤ 1048576) (hl : l.length ≤ maxLen) (hw : ∀ x ∈ l, nodeWf x) :
    ∃ r, Ev (fun k => laws_szNodeS.f k l a) r ∧ (r < 0 ∨ (0 ≤ r ∧ r ≤ a ∧ l.length ≤ 1048576 ∧ ∀ x ∈ l, nodeSm (nodeOf x))) := by
  have e := sz_sub a _ h0 h1 hl
  by_cases c : a - (l.length : Int) < 0
  · exact ⟨-1, ev_a0 (fun k => by simp only [laws_szNodeS.f]; rw [e, if_pos c]), .inl (by omega)⟩
  · obtain ⟨r, E, h⟩ := laws_szNodeS_l0 l hl hw l.length 0 (a - (l.length : Int)) (by omega) (by omega) (by omega)
    refine ⟨r, ev_a1 E (fun k e' => by simp only [laws_szNodeS.f]; rw [e, if_neg c]; exact e'), ?_⟩
    rcases h with h | h
    · exact .inl h
    · exact .inr ⟨h.1, by omega, by omega, fun x hx => h.2.2 x (by simpa using hx)⟩
theorem laws_toNodeS_l0 (l : List NodeL) (hl : l.length ≤ 1048576) (hk : ∀ x ∈ l, nodeSm (nodeOf x)) : ∀ (d i : Nat), i + d = l.length →
    Ev (fun k => laws_toNodeS.l0 k l ((l.take i).map nodeOf ++ List.replicate (l.length - i) z110) (i : Int)) (l.map nodeOf)
  | 0, i, h => by
    refine ev_s0 (fun k => ?_)
    simp only [laws_toNodeS.l0]
    rw [if_neg (by omega), show l.length - i = 0 by omega, show i = l.length by omega]; simp
  | d + 1, i, h => by
    have hi : i < l.length := by omega
    refine ev_s2 (laws_toNodeS_l0 l hl hk d (i + 1) (by omega)) (laws_toIntS_ev l[i].f3 (hk _ (List.getElem_mem hi)).2) (fun k e e2 => ?_)
    simp only [laws_toNodeS.l0, laws_toNode.f]
    rw [if_pos (by omega), if_pos (by omega), rdNL_nat l i hi, e2]
    simp only [Option.bind_some]
    rw [if_pos (by simp; omega), Int.toNat_natCast, show (⟨l[i].f0, l[i].f1, l[i].f2, l[i].f3⟩ : NodeT) = nodeOf l[i] from rfl, copy_step nodeOf l z110 i hi, w_succ (by omega)]
    exact e
theorem laws_toNodeS_ev (l : List NodeL) (hl : l.length ≤ 1048576) (hk : ∀ x ∈ l, nodeSm (nodeOf x)) : Ev (fun k => laws_toNodeS.f k l) (l.map nodeOf) := by
  refine ev_a1 (laws_toNodeS_l0 l hl hk l.length 0 (by omega)) (fun k e => ?_)
  simp only [laws_toNodeS.f]
  rw [if_pos (by omega), Int.toNat_natCast, if_pos (by omega)]
  simpa using e
theorem laws_eqNodeS_l0 (a : List NodeT) (hl : a.length ≤ 1048576) (hk : ∀ x ∈ a, nodeSm x) : ∀ (d i : Nat), i + d = a.length → Ev (fun k => laws_eqNodeS.l0 k a a (i : Int)) true
  | 0, i, h => by
    refine ev_s0 (fun k => ?_)
    simp only [laws_eqNodeS.l0]
    rw [if_neg (by omega)]
  | d + 1, i, h => by
    have hi : i < a.length := by omega
    refine ev_s2 (laws_eqNodeS_l0 a hl hk d (i + 1) (by omega)) (laws_eqIntS_ev a[i].f3 (hk _ (List.getElem_mem hi)).2) (fun k e e2 => ?_)
    simp only [laws_eqNodeS.l0, laws_eqNode.f, if_true]
    rw [if_pos (by omega), if_pos (by omega), if_pos (by omega), rdNT_nat a i hi, e2]
    simp only [Option.bind_some, if_true]
    rw [w_succ (by omega)]
    exact e
theorem laws_eqNodeS_ev (a : List NodeT) (hl : a.length ≤ 1048576) (hk : ∀ x ∈ a, nodeSm x) : Ev (fun k => laws_eqNodeS.f k a a) true := by
  refine ev_a1 (laws_eqNodeS_l0 a hl hk a.length 0 (by omega)) (fun k e => ?_)
  simp only [laws_eqNodeS.f, if_true]
  exact e

abbrev ParL := S120
abbrev ParT := S121
def parOf (x : ParL) : ParT := ⟨x.f0, x.f1⟩
theorem rdPL_nat (xs : List ParL) (i : Nat) (h : i < xs.length) : rd_T120 xs (i : Int) = xs[i] := by
  unfold rd_T120
  exact getD_nat xs _ i h
theorem rdPT_nat (xs : List ParT) (i : Nat) (h : i < xs.length) : rd_T121 xs (i : Int) = xs[i] := by
  unfold rd_T121
  exact getD_nat xs _ i h
theorem laws_szParam_or (x : ParL) (a : Int) (h0 : 0 ≤ a) (h1 : a ≤ 1048576) (w : x.f0.size ≤ maxLen) : ∃ r, laws_szParam.f x.f0 x.f1 a = some r ∧ (r < 0 ∨ (0 ≤ r ∧ r ≤ a)) := by
  rw [laws_szParam.f, sz_sub a _ h0 h1 w]
  by_cases c : a - (x.f0.size : Int) < 0
  · rw [if_pos c]; exact ⟨_, rfl, .inl (by omega)⟩
  · rw [if_neg c]; exact ⟨_, rfl, .inr ⟨by omega, by omega⟩⟩
theorem laws_szParamS_l0 (l : List ParL) (hl : l.length ≤ maxLen) (hw : ∀ x ∈ l, x.f0.size ≤ maxLen) : ∀ (d i : Nat) (a : Int), i + d = l.length → 0 ≤ a → a ≤ 1048576 →
    ∃ r, Ev (fun k => laws_szParamS.l0 k l a (i : Int)) r ∧ (r < 0 ∨ (0 ≤ r ∧ r ≤ a))
  | 0, i, a, h, h0, h1 => ⟨a, ev_s0 (fun k => by simp only [laws_szParamS.l0]; rw [if_neg (by omega)]), .inr ⟨h0, by omega⟩⟩
  | d + 1, i, a, h, h0, h1 => by
    have hi : i < l.length := by omega
    have hl' := hl
    unfold maxLen at hl'
    obtain ⟨r, e, hr⟩ := laws_szParam_or l[i] a h0 h1 (hw _ (List.getElem_mem hi))
    have q1 : (i : Int) < (l.length : Int) := by omega
    have q2 : (0 : Int) ≤ (i : Int) := by omega
    by_cases c : r < 0
    · exact ⟨-1, ev_s0 (fun k => by simp only [laws_szParamS.l0]; rw [if_pos q1, if_pos q2, rdPL_nat l i hi, e, Option.bind_some, if_pos c]), .inl (by omega)⟩
    · rcases hr with hr | hr
      · exact absurd hr c
      · obtain ⟨r2, E, h2⟩ := laws_szParamS_l0 l hl hw d (i + 1) r (by omega) hr.1 (by omega)
        refine ⟨r2, ev_s1 E (fun k e' => ?_), ?_⟩
        · simp only [laws_szParamS.l0]; rw [if_pos q1, if_pos q2, rdPL_nat l i hi, e, Option.bind_some, if_neg c, w_succ2 (by omega)]; exact e'
        · rcases h2 with h2 | h2
          · exact .inl h2
          · exact .inr ⟨h2.1, by omega⟩
theorem laws_szParamS_or (l : List ParL) (a : Int) (h0 : 0 ≤ a) (h1 : a ≤ 1048576) (hl : l.length ≤ maxLen) (hw : ∀ x ∈ l, x.f0.size ≤ maxLen) :
    ∃ r, Ev (fun k => laws_szParamS.f k l a) r ∧ (r < 0 ∨ (0 ≤ r ∧ r ≤ a ∧ l.length ≤ 1048576)) := by
  have e := sz_sub a _ h0 h1 hl
  by_cases c : a - (l.length : Int) < 0
  · exact ⟨-1, ev_a0 (fun k => by simp only [laws_szParamS.f]; rw [e, if_pos c]), .inl (by omega)⟩
  · obtain ⟨r, E, h⟩ := laws_szParamS_l0 l hl hw l.length 0 (a - (l.length : Int)) (by omega) (by omega) (by omega)
    refine ⟨r, ev_a1 E (fun k e' => by simp only [laws_szParamS.f]; rw [e, if_neg c]; exact e'), ?_⟩
    rcases h with h | h
    · exact .inl h
    · exact .inr ⟨h.1, by omega, by omega⟩
theorem laws_toParamS_l0 (l : List ParL) (hl : l.length ≤ 1048576) : ∀ (d i : Nat), i + d = l.length →
    Ev (fun k => laws_toParamS.l0 k l ((l.take i).map parOf ++ List.replicate (l.length - i) z121) (i : Int)) (l.map parOf)
  | 0, i, h => by
    refine ev_s0 (fun k => ?_)
    simp only [laws_toParamS.l0]
    rw [if_neg (by omega), show l.length - i = 0 by omega, show i = l.length by omega]; simp
  | d + 1, i, h => by
    have hi : i < l.length := by omega
    refine ev_s1 (laws_toParamS_l0 l hl d (i + 1) (by omega)) (fun k e => ?_)
    simp only [laws_toParamS.l0, laws_toParam.f, Option.bind_some]
    rw [if_pos (by omega), if_pos (by omega), if_pos (by simp; omega), Int.toNat_natCast, rdPL_nat l i hi, show (⟨l[i].f0, l[i].f1⟩ : ParT) = parOf l[i] from rfl, copy_step parOf l z121 i hi, w_succ (by omega)]
    exact e
theorem laws_toParamS_ev (l : List ParL) (hl : l.length ≤ 1048576) : Ev (fun k => laws_toParamS.f k l) (l.map parOf) := by
  refine ev_a1 (laws_toParamS_l0 l hl l.length 0 (by omega)) (fun k e => ?_)
  simp only [laws_toParamS.f]
  rw [if_pos (by omega), Int.toNat_natCast, if_pos (by omega)]
  simpa using e
theorem laws_eqParamS_l0 (a : List ParT) (hl : a.length ≤ 1048576) : ∀ (d i : Nat), i + d = a.length → Ev (fun k => laws_eqParamS.l0 k a a (i : Int)) true
  | 0, i, h => by
    refine ev_s0 (fun k => ?_)
    simp only [laws_eqParamS.l0]
    rw [if_neg (by omega)]
  | d + 1, i, h => by
    refine ev_s1 (laws_eqParamS_l0 a hl d (i + 1) (by omega)) (fun k e => ?_)
    simp only [laws_eqParamS.l0, laws_eqParam.f]
    rw [if_pos (by omega), if_pos (by omega), if_pos (by omega), w_succ (by omega)]
    simpa using e
theorem laws_eqParamS_ev (a : List ParT) (hl : a.length ≤ 1048576) : Ev (fun k => laws_eqParamS.f k a a) true := by
  refine ev_a1 (laws_eqParamS_l0 a hl a.length 0 (by omega)) (fun k e => ?_)
  simp only [laws_eqParamS.f, if_true]
  exact e
abbrev FnL := S109
abbrev FnT := S89
def fnOf (x : FnL) : FnT := ⟨x.f0, x.f1.map parOf, x.f2, x.f3, x.f4⟩
def fnWf (x : FnL) : Prop := x.f0.size ≤ maxLen ∧ x.f1.length ≤ maxLen ∧ ∀ y ∈ x.f1, y.f0.size ≤ maxLen
def fnSm (x : FnT) : Prop := x.f0.size ≤ 1048576 ∧ x.f1.length ≤ 1048576
theorem rdFL_nat (xs : List FnL) (i : Nat) (h : i < xs.length) : rd_T109 xs (i : Int) = xs[i] := by
  unfold rd_T109
  exact getD_nat xs _ i h
theorem rdFT_nat (xs : List FnT) (i : Nat) (h : i < xs.length) : rd_T89 xs (i : Int) = xs[i] := by
  unfold rd_T89
  exact getD_nat xs _ i h
theorem laws_szFn_or (x : FnL) (a : Int) (h0 : 0 ≤ a) (h1 : a ≤ 1048576) (w : fnWf x) : ∃ r, Ev (fun k => laws_szFn.f k x.f0 x.f1 x.f2 x.f3 x.f4 a) r ∧ (r < 0 ∨ (0 ≤ r ∧ r ≤ a ∧ fnSm (fnOf x))) := by
  have e := sz_sub a _ h0 h1 w.1
  by_cases c : a - (x.f0.size : Int) < 0
  · exact ⟨-1, ev_a0 (fun k => by simp only [laws_szFn.f]; rw [e, if_pos c]), .inl (by omega)⟩
  · obtain ⟨r, E, h⟩ := laws_szParamS_or x.f1 (a - (x.f0.size : Int)) (by omega) (by omega) w.2.1 w.2.2
    by_cases d : r < 0
    · exact ⟨-1, ev_a1 E (fun k e' => by simp only [laws_szFn.f]; rw [e, if_neg c, e', Option.bind_some, if_pos d]), .inl (by omega)⟩
    · rcases h with h | h
      · exact absurd h d
      · exact ⟨r, ev_a1 E (fun k e' => by simp only [laws_szFn.f]; rw [e, if_neg c, e', Option.bind_some, if_neg d]), .inr ⟨h.1, by omega, ⟨by show x.f0.size ≤ 1048576; omega, by show (x.f1.map parOf).length ≤ 1048576; rw [List.length_map]; exact h.2.2⟩⟩⟩
theorem laws_szFnS_l0 (l : List FnL) (hl : l.length ≤ maxLen) (hw : ∀ x ∈ l, fnWf x) : ∀ (d i : Nat) (a : Int), i + d = l.length → 0 ≤ a → a ≤ 1048576 →
    ∃ r, Ev (fun k => laws_szFnS.l0 k l a (i : Int)) r ∧ (r < 0 ∨ (0 ≤ r ∧ r ≤ a ∧ ∀ x ∈ l.drop i, fnSm (fnOf x)))
  | 0, i, a, h, h0, h1 => ⟨a, ev_s0 (fun k => by simp only [laws_szFnS.l0]; rw [if_neg (by omega)]), .inr ⟨h0, by omega, by rw [List.drop_eq_nil_of_le (by omega)]; simp⟩⟩
  | d + 1, i, a, h, h0, h1 => by
    have hi : i < l.length := by omega
    have hl' := hl
    unfold maxLen at hl'
    obtain ⟨r, e, hr⟩ := laws_szFn_or l[i] a h0 h1 (hw _ (List.getElem_mem hi))
    have q1 : (i : Int) < (l.length : Int) := by omega
    have q2 : (0 : Int) ≤ (i : Int) := by omega
    by_cases c : r < 0
    · exact ⟨-1, ev_s1 e (fun k e => by simp only [laws_szFnS.l0]; rw [if_pos q1, if_pos q2, rdFL_nat l i hi, e, Option.bind_some, if_pos c]), .inl (by omega)⟩
    · rcases hr with hr | hr
      · exact absurd hr c
      · obtain ⟨r2, E, h2⟩ := laws_szFnS_l0 l hl hw d (i + 1) r (by omega) hr.1 (by omega)
        refine ⟨r2, ev_s2 E e (fun k e' e => ?_), ?_⟩
        · simp only [laws_szFnS.l0]; rw [if_pos q1, if_pos q2, rdFL_nat l i hi, e, Option.bind_some, if_neg c, w_succ2 (by omega)]; exact e'
        · rcases h2 with h2 | h2
          · exact .inl h2
          · refine .inr ⟨h2.1, by omega, ?_⟩
            rw [List.drop_eq_getElem_cons hi]
            intro x hx
            rcases List.mem_cons.mp hx with hx | hx
            · rw [hx]; exact hr.2.2
            · exact h2.2.2 x hx
theorem laws_szFnS_or (l : List FnL) (a : Int) (h0 : 0 ≤ a) (h1 : a ≤ 1048576) (hl : l.length ≤ maxLen) (hw : ∀ x ∈ l, fnWf x) :
    ∃ r, Ev (fun k => laws_szFnS.f k l a) r ∧ (r < 0 ∨ (0 ≤ r ∧ r ≤ a ∧ l.length ≤ 1048576 ∧ ∀ x ∈ l, fnSm (fnOf x))) := by
  have e := sz_sub a _ h0 h1 hl
  by_cases c : a - (l.length : Int) < 0
  · exact ⟨-1, ev_a0 (fun k => by simp only [laws_szFnS.f]; rw [e, if_pos c]), .inl (by omega)⟩
  · obtain ⟨r, E, h⟩ := laws_szFnS_l0 l hl hw l.length 0 (a - (l.length : Int)) (by omega) (by omega) (by omega)
    refine ⟨r, ev_a1 E (fun k e' => by simp only [laws_szFnS.f]; rw [e, if_neg c]; exact e'), ?_⟩
    rcases h with h | h
    · exact .inl h
    · exact .inr ⟨h.1, by omega, by omega, fun x hx => h.2.2 x (by simpa using hx)⟩
theorem laws_toFnS_l0 (l : List FnL) (hl : l.length ≤ 1048576) (hk : ∀ x ∈ l, fnSm (fnOf x)) : ∀ (d i : Nat), i + d = l.length →
    Ev (fun k => laws_toFnS.l0 k l ((l.take i).map fnOf ++ List.replicate (l.length - i) z89) (i : Int)) (l.map fnOf)
  | 0, i, h => by
    refine ev_s0 (fun k => ?_)
    simp only [laws_toFnS.l0]
    rw [if_neg (by omega), show l.length - i = 0 by omega, show i = l.length by omega]; simp
  | d + 1, i, h => by
    have hi : i < l.length := by omega
    have hp : l[i].f1.length ≤ 1048576 := by
      have := (hk _ (List.getElem_mem hi)).2
      have e : (fnOf l[i]).f1.length = l[i].f1.length := by simp [fnOf]
      omega
    refine ev_s2 (laws_toFnS_l0 l hl hk d (i + 1) (by omega)) (laws_toParamS_ev l[i].f1 hp) (fun k e e2 => ?_)
    simp only [laws_toFnS.l0, laws_toFn.f]
    rw [if_pos (by omega), if_pos (by omega), rdFL_nat l i hi, e2]
    simp only [Option.bind_some]
    rw [if_pos (by simp; omega), Int.toNat_natCast, show (⟨l[i].f0, l[i].f1.map parOf, l[i].f2, l[i].f3, l[i].f4⟩ : FnT) = fnOf l[i] from rfl, copy_step fnOf l z89 i hi, w_succ (by omega)]
    exact e
theorem laws_toFnS_ev (l : List FnL) (hl : l.length ≤ 1048576) (hk : ∀ x ∈ l, fnSm (fnOf x)) : Ev (fun k => laws_toFnS.f k l) (l.map fnOf) := by
  refine ev_a1 (laws_toFnS_l0 l hl hk l.length 0 (by omega)) (fun k e => ?_)
  simp only [laws_toFnS.f]
  rw [if_pos (by omega), Int.toNat_natCast, if_pos (by omega)]
  simpa using e
theorem laws_eqFnS_l0 (a : List FnT) (hl : a.length ≤ 1048576) (hk : ∀ x ∈ a, fnSm x) : ∀ (d i : Nat), i + d = a.length → Ev (fun k => laws_eqFnS.l0 k a a (i : Int)) true
  | 0, i, h => by
    refine ev_s0 (fun k => ?_)
    simp only [laws_eqFnS.l0]
    rw [if_neg (by omega)]
  | d + 1, i, h => by
    have hi : i < a.length := by omega
    refine ev_s2 (laws_eqFnS_l0 a hl hk d (i + 1) (by omega)) (laws_eqParamS_ev a[i].f1 (hk _ (List.getElem_mem hi)).2) (fun k e e2 => ?_)
    simp only [laws_eqFnS.l0, laws_eqFn.f, if_true]
    rw [if_pos (by omega), if_pos (by omega), if_pos (by omega), rdFT_nat a i hi, e2]
    simp only [Option.bind_some, if_true]
    rw [w_succ (by omega)]
    exact e
theorem laws_eqFnS_ev (a : List FnT) (hl : a.length ≤ 1048576) (hk : ∀ x ∈ a, fnSm x) : Ev (fun k => laws_eqFnS.f k a a) true := by
  refine ev_a1 (laws_eqFnS_l0 a hl hk a.length 0 (by omega)) (fun k e => ?_)
  simp only [laws_eqFnS.f, if_true]
  exact e

def fnAtV (s : ByteArray) : List FnT → Nat → Int
  | [], _ => -1
  | f :: r, i => if f.f0.toList = s.toList then (i : Int) else fnAtV s r (i + 1)
theorem spec_FnAt_l0 (s : ByteArray) (ns : List NodeT) (l : List FnT) (hl : l.length ≤ 1048576) : ∀ (d i : Nat), i + d = l.length → Ev (fun k => spec_FnAt.l0 k s (i : Int) ns l) (fnAtV s (l.drop i) i)
  | 0, i, h => ev_s0 fun k => by rw [spec_FnAt.l0, if_neg (by omega), List.drop_eq_nil_of_le (by omega)]; rfl
  | d + 1, i, h => ev_s1 (spec_FnAt_l0 s ns l hl d (i + 1) (by omega)) fun k e => by
    have hi : i < l.length := by omega
    rw [spec_FnAt.l0, if_pos (by omega), if_pos (by omega), rdFT_nat l i hi, w_succ (by omega), List.drop_eq_getElem_cons hi, fnAtV, e]
    split <;> rfl
theorem impl_FnAt_l0 (s : ByteArray) (l : List FnT) (hl : l.length ≤ 1048576) : ∀ (d i : Nat), i + d = l.length → Ev (fun k => impl_FnAt.l0 k s l (l.length : Int) (i : Int)) (fnAtV s (l.drop i) i)
  | 0, i, h => ev_s0 fun k => by rw [impl_FnAt.l0, if_neg (by omega), List.drop_eq_nil_of_le (by omega)]; rfl
  | d + 1, i, h => ev_s1 (impl_FnAt_l0 s l hl d (i + 1) (by omega)) fun k e => by
    have hi : i < l.length := by omega
    rw [impl_FnAt.l0, if_pos (by omega), if_pos (by omega), if_pos (by omega), rdFT_nat l i hi, w_succ (by omega), List.drop_eq_getElem_cons hi, fnAtV, e]
    split <;> rfl
theorem spec_FnAt_ev (s : ByteArray) (ns : List NodeT) (l : List FnT) (hl : l.length ≤ 1048576) : Ev (fun k => spec_FnAt.f k ns l s) (fnAtV s l 0) :=
  ev_a1 (spec_FnAt_l0 s ns l hl l.length 0 (by omega)) fun k e => e
theorem impl_FnAt_ev (s : ByteArray) (ns : List NodeT) (l : List FnT) (hl : l.length ≤ 1048576) : Ev (fun k => impl_FnAt.f k ns l s) (fnAtV s l 0) :=
  ev_a1 (impl_FnAt_l0 s l hl l.length 0 (by omega)) fun k e => e

theorem FnExactFnAt : ∀ (l0_0 : List S105) (l0_1 : List S109) (a1 : ByteArray), (l0_0.length ≤ maxLen ∧ ∀ a ∈ l0_0, G105 a) → (l0_1.length ≤ maxLen ∧ ∀ a ∈ l0_1, G109 a) → a1.size ≤ 140737488351232 → ∃ k, laws_FnExactFnAt.f k l0_0 l0_1 a1 = some true := by
  intro ns fs s hn hf hs
  by_cases big : (s.size : Int) > 1048576
  · exact ⟨0, by rw [laws_FnExactFnAt.f, if_pos big]⟩
  obtain ⟨r, E1, h1⟩ := laws_szNodeS_or ns 1048576 (by decide) (by decide) hn.1 (fun x hx => ⟨(hn.2 x hx).2.2.1, (hn.2 x hx).2.2.2.1⟩)
  by_cases c : r < 0
  · obtain ⟨k, e⟩ := E1.rounds
    have e' : laws_szNodeS.f k ns 1048576 = some r := e
    exact ⟨k, by rw [laws_FnExactFnAt.f, if_neg big, laws_szProgram.f, e', Option.bind_some, if_pos c, Option.bind_some, if_pos (by decide)]⟩
  rcases h1 with h1 | h1
  · exact absurd h1 c
  obtain ⟨r2, E2, h2⟩ := laws_szFnS_or fs r h1.1 (by omega) hf.1 (fun x hx => ⟨(hf.2 x hx).1, (hf.2 x hx).2.1.1, fun y hy => ((hf.2 x hx).2.1.2 y hy).1⟩)
  by_cases d : r2 < 0
  · obtain ⟨k, e1, e2⟩ := b_two E1 E2
    exact ⟨k, by rw [laws_FnExactFnAt.f, if_neg big, laws_szProgram.f, e1, Option.bind_some, if_neg c, e2, Option.bind_some, if_pos d, Option.bind_some, if_pos (by decide)]⟩
  rcases h2 with h2 | h2
  · exact absurd h2 d
  have t1 := laws_toNodeS_ev ns h1.2.2.1 h1.2.2.2
  have t2 := laws_toFnS_ev fs h2.2.2.1 h2.2.2.2
  have q1 := laws_eqNodeS_ev (ns.map nodeOf) (by rw [List.length_map]; exact h1.2.2.1) (fun x hx => by
    obtain ⟨y, hy, rfl⟩ := List.mem_map.mp hx
    exact h1.2.2.2 y hy)
  have q2 := laws_eqFnS_ev (fs.map fnOf) (by rw [List.length_map]; exact h2.2.2.1) (fun x hx => by
    obtain ⟨y, hy, rfl⟩ := List.mem_map.mp hx
    exact h2.2.2.2 y hy)
  have v1 := spec_FnAt_ev s (ns.map nodeOf) (fs.map fnOf) (by rw [List.length_map]; exact h2.2.2.1)
  have v2 := impl_FnAt_ev s (ns.map nodeOf) (fs.map fnOf) (by rw [List.length_map]; exact h2.2.2.1)
  obtain ⟨K1, e1⟩ := E1
  obtain ⟨K2, e2⟩ := E2
  obtain ⟨K3, e3⟩ := t1
  obtain ⟨K4, e4⟩ := t2
  obtain ⟨K5, e5⟩ := q1
  obtain ⟨K6, e6⟩ := q2
  obtain ⟨K7, e7⟩ := v1
  obtain ⟨K8, e8⟩ := v2
  refine ⟨K1 + K2 + K3 + K4 + K5 + K6 + K7 + K8, ?_⟩
  have f1 := e1 (K1 + K2 + K3 + K4 + K5 + K6 + K7 + K8) (by omega)
  have f2 := e2 (K1 + K2 + K3 + K4 + K5 + K6 + K7 + K8) (by omega)
  have f3 := e3 (K1 + K2 + K3 + K4 + K5 + K6 + K7 + K8) (by omega)
  have f4 := e4 (K1 + K2 + K3 + K4 + K5 + K6 + K7 + K8) (by omega)
  have f5 := e5 (K1 + K2 + K3 + K4 + K5 + K6 + K7 + K8) (by omega)
  have f6 := e6 (K1 + K2 + K3 + K4 + K5 + K6 + K7 + K8) (by omega)
  have f7 := e7 (K1 + K2 + K3 + K4 + K5 + K6 + K7 + K8) (by omega)
  have f8 := e8 (K1 + K2 + K3 + K4 + K5 + K6 + K7 + K8) (by omega)
  simp only [laws_FnExactFnAt.f, laws_szProgram.f, laws_toProgram.f, laws_eqProgram.f]
  simp only [if_neg big, f1, f2, f3, f4, f5, f6, f7, f8, Option.bind_some, if_neg c, if_neg d, if_true]
end Go.Proofs.Ytodicbbeaidibaa.Pure
