/- The program's CopyNodes returns what the reference's returns, for all programs, places and nodes, and shares no memory. No condition beside what the statement itself asks. -/
import Derived.Test.YtnepkmbknoanjaaDoorPFnExactCopyNodesx14
import Derived.Test.YtnepkmbknoanjaaDoorRdFnExactCopyNodes
set_option linter.unusedVariables false
set_option linter.unusedSimpArgs false
namespace Go.Proofs.YtnepkmbknoanjaaDoor.Pure
open Go.RowKit Go.Proofs.YtnepkmbknoanjaaDoor.PFnExactCopyNodes Go.Proofs.YtnepkmbknoanjaaDoor.RdFnExactCopyNodes Go.Proofs.YtnepkmbknoanjaaDoorW.PrintWords Go.Proofs.YtnepkmbknoanjaaDoorW.PrintLast

theorem b_w64 {x : Int} (h0 : -9223372036854775808 ≤ x) (h1 : x ≤ 9223372036854775807) : wrap64 x = x := by unfold wrap64; omega
theorem b_two {α β : Type} {g : Nat → Option α} {f : Nat → Option β} {a : α} {b : β} (h : Ev g a) (h' : Ev f b) : ∃ k, g k = some a ∧ f k = some b := by
  obtain ⟨K, h⟩ := h
  obtain ⟨K', h'⟩ := h'
  exact ⟨max K K', h _ (by omega), h' _ (by omega)⟩
theorem b_list_take_succ {α : Type} (l : List α) (i : Nat) (h : i < l.length) : l.take (i + 1) = l.take i ++ [l[i]] := by
  rw [List.take_succ_eq_append_getElem h]
theorem ev_a0 {α : Type} {F : Nat → Option α} {r : α} (H : ∀ k, F k = some r) : Ev F r := ⟨0, fun k _ => H k⟩
theorem ev_s0 {α : Type} {F : Nat → Option α} {r : α} (H : ∀ k, F (k + 1) = some r) : Ev F r := by
  refine ⟨1, fun k hk => ?_⟩
  obtain ⟨m, rfl⟩ : ∃ m, k = m + 1 := ⟨k - 1, by omega⟩
  exact H m
theorem ev_a1 {α β : Type} {F : Nat → Option α} {r : α} {g : Nat → Option β} {a : β} (ha : Ev g a) (H : ∀ k, g k = some a → F k = some r) : Ev F r := by
  obtain ⟨K, ha⟩ := ha
  exact ⟨K, fun k hk => H k (ha k hk)⟩
theorem ev_s1 {α β : Type} {F : Nat → Option α} {r : α} {g : Nat → Option β} {a : β} (ha : Ev g a) (H : ∀ k, g k = some a → F (k + 1) = some r) : Ev F r := by
  obtain ⟨K, ha⟩ := ha
  refine ⟨K + 1, fun k hk => ?_⟩
  obtain ⟨m, rfl⟩ : ∃ m, k = m + 1 := ⟨k - 1, by omega⟩
  exact H m (ha m (by omega))
theorem ev_and {α β : Type} {g : Nat → Option α} {f : Nat → Option β} {a : α} {b : β} (ha : Ev g a) (hb : Ev f b) : ∃ K, ∀ k, K ≤ k → g k = some a ∧ f k = some b := by
  obtain ⟨K, ha⟩ := ha
  obtain ⟨K', hb⟩ := hb
  exact ⟨max K K', fun k hk => ⟨ha k (by omega), hb k (by omega)⟩⟩
theorem ev_a2 {α β γ : Type} {F : Nat → Option α} {r : α} {g : Nat → Option β} {a : β} {f : Nat → Option γ} {b : γ} (ha : Ev g a) (hb : Ev f b) (H : ∀ k, g k = some a → f k = some b → F k = some r) : Ev F r := by
  obtain ⟨K, h⟩ := ev_and ha hb
  exact ⟨K, fun k hk => H k (h k hk).1 (h k hk).2⟩
theorem ev_s2 {α β γ : Type} {F : Nat → Option α} {r : α} {g : Nat → Option β} {a : β} {f : Nat → Option γ} {b : γ} (ha : Ev g a) (hb : Ev f b) (H : ∀ k, g k = some a → f k = some b → F (k + 1) = some r) : Ev F r := by
  obtain ⟨K, h⟩ := ev_and ha hb
  refine ⟨K + 1, fun k hk => ?_⟩
  obtain ⟨m, rfl⟩ : ∃ m, k = m + 1 := ⟨k - 1, by omega⟩
  exact H m (h m (by omega)).1 (h m (by omega)).2
theorem ev_s3 {α β γ δ : Type} {F : Nat → Option α} {r : α} {g : Nat → Option β} {a : β} {f : Nat → Option γ} {b : γ} {e : Nat → Option δ} {c : δ} (ha : Ev g a) (hb : Ev f b) (hc : Ev e c) (H : ∀ k, g k = some a → f k = some b → e k = some c → F (k + 1) = some r) : Ev F r := by
  obtain ⟨K, h⟩ := ev_and ha hb
  obtain ⟨K', h'⟩ := hc
  refine ⟨max K K' + 1, fun k hk => ?_⟩
  obtain ⟨m, rfl⟩ : ∃ m, k = m + 1 := ⟨k - 1, by omega⟩
  exact H m (h m (by omega)).1 (h m (by omega)).2 (h' m (by omega))
theorem set_at {α : Type} : ∀ (a : List α) (b : α) (r : List α) (v : α) (i : Nat), a.length = i → (a ++ b :: r).set i v = a ++ v :: r
  | [], b, r, v, i, h => by subst h; rfl
  | x :: a, b, r, v, i, h => by
    subst h
    simp only [List.cons_append, List.length_cons, List.set_cons_succ, set_at a b r v a.length rfl]
theorem copy_step {α β : Type} (f : α → β) (xs : List α) (z : β) (i : Nat) (h : i < xs.length) :
    ((xs.take i).map f ++ List.replicate (xs.length - i) z).set i (f xs[i]) = (xs.take (i + 1)).map f ++ List.replicate (xs.length - (i + 1)) z := by
  rw [show xs.length - i = (xs.length - (i + 1)) + 1 by omega, List.replicate_succ, set_at _ _ _ _ i (by simp; omega), List.take_succ_eq_append_getElem h, List.map_append, List.append_assoc]
  rfl
theorem rd_nat (xs : List Int) (i : Nat) (h : i < xs.length) : rd xs (i : Int) = xs[i] := by
  unfold rd
  rw [Int.toNat_natCast, List.getD_eq_getElem?_getD, List.getElem?_eq_getElem h]; rfl
theorem getD_nat {α : Type} (xs : List α) (z : α) (i : Nat) (h : i < xs.length) : xs.getD ((i : Int)).toNat z = xs[i] := by
  rw [Int.toNat_natCast, List.getD_eq_getElem?_getD, List.getElem?_eq_getElem h]; rfl
theorem w_succ {i : Nat} (h : i < 4611686018427387904) : wrap64 ((i : Int) + 1) = ((i + 1 : Nat) : Int) := by unfold wrap64; omega
theorem laws_toIntS_l0 (l : List Int) (hl : l.length ≤ 1048576) : ∀ (d i : Nat), i + d = l.length →
    Ev (fun k => laws_toIntS.l0 k l ((l.take i).map id ++ List.replicate (l.length - i) 0) (i : Int)) l
  | 0, i, h => by
    refine ev_s0 (fun k => ?_)
    simp only [laws_toIntS.l0]
    rw [if_neg (by omega), show l.length - i = 0 by omega, show i = l.length by omega]; simp
  | d + 1, i, h => by
    refine ev_s1 (laws_toIntS_l0 l hl d (i + 1) (by omega)) (fun k e => ?_)
    have hi : i < l.length := by omega
    simp only [laws_toIntS.l0]
    rw [if_pos (by omega), if_pos (by omega), if_pos (by simp; omega), Int.toNat_natCast, rd_nat l i hi, show l[i] = id l[i] from rfl, copy_step id l 0 i hi, w_succ (by omega)]
    exact e
theorem laws_toIntS_ev (l : List Int) (hl : l.length ≤ 1048576) : Ev (fun k => laws_toIntS.f k l) l := by
  refine ev_a1 (laws_toIntS_l0 l hl l.length 0 (by omega)) (fun k e => ?_)
  simp only [laws_toIntS.f]
  rw [if_pos (by omega), Int.toNat_natCast, if_pos (by omega)]
  simpa using e
theorem laws_eqIntS_l0 (a : List Int) (hl : a.length ≤ 1048576) : ∀ (d i : Nat), i + d = a.length → Ev (fun k => laws_eqIntS.l0 k a a (i : Int)) true
  | 0, i, h => by
    refine ev_s0 (fun k => ?_)
    simp only [laws_eqIntS.l0]
    rw [if_neg (by omega)]
  | d + 1, i, h => by
    refine ev_s1 (laws_eqIntS_l0 a hl d (i + 1) (by omega)) (fun k e => ?_)
    simp only [laws_eqIntS.l0, if_true]
    rw [if_pos (by omega), if_pos (by omega), if_pos (by omega), w_succ (by omega)]
    exact e
theorem laws_eqIntS_ev (a : List Int) (hl : a.length ≤ 1048576) : Ev (fun k => laws_eqIntS.f k a a) true := by
  refine ev_a1 (laws_eqIntS_l0 a hl a.length 0 (by omega)) (fun k e => ?_)
  simp only [laws_eqIntS.f, if_true]
  exact e

theorem w_succ2 {i : Nat} (h : i < 9223372036854775807) : wrap64 ((i : Int) + 1) = ((i + 1 : Nat) : Int) := by unfold wrap64; omega
theorem sz_sub (a : Int) (n : Nat) (h0 : 0 ≤ a) (h1 : a ≤ 1048576) (hn : n ≤ maxLen) : wrap64 (a - (n : Int)) = a - n := by
  unfold maxLen at hn
  exact b_w64 (by omega) (by omega)
theorem laws_szIntS_or (l : List Int) (a : Int) (h0 : 0 ≤ a) (h1 : a ≤ 1048576) (hl : l.length ≤ maxLen) : ∃ r, laws_szIntS.f l a = some r ∧ (r < 0 ∨ (0 ≤ r ∧ r ≤ a ∧ l.length ≤ 1048576)) := by
  rw [laws_szIntS.f, sz_sub a _ h0 h1 hl]
  by_cases c : a - (l.length : Int) < 0
  · rw [if_pos c]; exact ⟨_, rfl, .inl (by omega)⟩
  · rw [if_neg c]; exact ⟨_, rfl, .inr ⟨by omega, by omega, by omega⟩⟩
abbrev NodeL := S45
abbrev NodeT := S52
def nodeOf (x : NodeL) : NodeT := ⟨x.f0, x.f1, x.f2, x.f3⟩
def nodeWf (x : NodeL) : Prop := x.f2.size ≤ maxLen ∧ x.f3.length ≤ maxLen
def nodeSm (x : NodeT) : Prop := x.f2.size ≤ 1048576 ∧ x.f3.length ≤ 1048576
theorem rdNL_nat (xs : List NodeL) (i : Nat) (h : i < xs.length) : rd_T45 xs (i : Int) = xs[i] := by
  unfold rd_T45
  exact getD_nat xs _ i h
theorem rdNT_nat (xs : List NodeT) (i : Nat) (h : i < xs.length) : rd_T52 xs (i : Int) = xs[i] := by
  unfold rd_T52
  exact getD_nat xs _ i h
theorem laws_szNode_or (x : NodeL) (a : Int) (h0 : 0 ≤ a) (h1 : a ≤ 1048576) (w : nodeWf x) : ∃ r, laws_szNode.f x.f0 x.f1 x.f2 x.f3 a = some r ∧ (r < 0 ∨ (0 ≤ r ∧ r ≤ a ∧ nodeSm (nodeOf x))) := by
  rw [laws_szNode.f, sz_sub a _ h0 h1 w.1]
  by_cases c : a - (x.f2.size : Int) < 0
  · rw [if_pos c]; exact ⟨_, rfl, .inl (by omega)⟩
  · rw [if_neg c]
    obtain ⟨r, e, h⟩ := laws_szIntS_or x.f3 (a - (x.f2.size : Int)) (by omega) (by omega) w.2
    rw [e, Option.bind_some]
    by_cases d : r < 0
    · rw [if_pos d]; exact ⟨_, rfl, .inl (by omega)⟩
    · rw [if_neg d]
      rcases h with h | h
      · exact absurd h d
      · exact ⟨_, rfl, .inr ⟨h.1, by omega, ⟨by show x.f2.size ≤ 1048576; omega, h.2.2⟩⟩⟩
theorem laws_szNodeS_l0 (l : List NodeL) (hl : l.length ≤ maxLen) (hw : ∀ x ∈ l, nodeWf x) : ∀ (d i : Nat) (a : Int), i + d = l.length → 0 ≤ a → a ≤ 1048576 →
    ∃ r, Ev (fun k => laws_szNodeS.l0 k l a (i : Int)) r ∧ (r < 0 ∨ (0 ≤ r ∧ r ≤ a ∧ ∀ x ∈ l.drop i, nodeSm (nodeOf x)))
  | 0, i, a, h, h0, h1 => ⟨a, ev_s0 (fun k => by simp only [laws_szNodeS.l0]; rw [if_neg (by omega)]), .inr ⟨h0, by omega, by rw [List.drop_eq_nil_of_le (by omega)]; simp⟩⟩
  | d + 1, i, a, h, h0, h1 => by
    have hi : i < l.length := by omega
    have hl' := hl
    unfold maxLen at hl'
    obtain ⟨r, e, hr⟩ := laws_szNode_or l[i] a h0 h1 (hw _ (List.getElem_mem hi))
    have q1 : (i : Int) < (l.length : Int) := by omega
    have q2 : (0 : Int) ≤ (i : Int) := by omega
    by_cases c : r < 0
    · exact ⟨-1, ev_s0 (fun k => by simp only [laws_szNodeS.l0]; rw [if_pos q1, if_pos q2, rdNL_nat l i hi, e, Option.bind_some, if_pos c]), .inl (by omega)⟩
    · rcases hr with hr | hr
      · exact absurd hr c
      · obtain ⟨r2, E, h2⟩ := laws_szNodeS_l0 l hl hw d (i + 1) r (by omega) hr.1 (by omega)
        refine ⟨r2, ev_s1 E (fun k e' => ?_), ?_⟩
        · simp only [laws_szNodeS.l0]; rw [if_pos q1, if_pos q2, rdNL_nat l i hi, e, Option.bind_some, if_neg c, w_succ2 (by omega)]; exact e'
        · rcases h2 with h2 | h2
          · exact .inl h2
          · refine .inr ⟨h2.1, by omega, ?_⟩
            rw [List.drop_eq_getElem_cons hi]
            intro x hx
            rcases List.mem_cons.mp hx with hx | hx
            · rw [hx]; exact hr.2.2
            · exact h2.2.2 x hx
theorem laws_szNodeS_or (l : List NodeL) (a : Int) (h0 : 0 ≤ a) (h1 : a ≤ 1048576) (hl : l.length ≤ maxLen) (hw : ∀ x ∈ l, nodeWf x) :
    ∃ r, Ev (fun k => laws_szNodeS.f k l a) r ∧ (r < 0 ∨ (0 ≤ r ∧ r ≤ a ∧ l.length ≤ 1048576 ∧ ∀ x ∈ l, nodeSm (nodeOf x))) := by
  have e := sz_sub a _ h0 h1 hl
  by_cases c : a - (l.length : Int) < 0
  · exact ⟨-1, ev_a0 (fun k => by simp only [laws_szNodeS.f]; rw [e, if_pos c]), .inl (by omega)⟩
  · obtain ⟨r, E, h⟩ := laws_szNodeS_l0 l hl hw l.length 0 (a - (l.length : Int)) (by omega) (by omega) (by omega)
    refine ⟨r, ev_a1 E (fun k e' => by simp only [laws_szNodeS.f]; rw [e, if_neg c]; exact e'), ?_⟩
    rcases h with h | h
    · exact .inl h
    · exact .inr ⟨h.1, by omega, by omega, fun x hx => h.2.2 x (by simpa using hx)⟩
theorem laws_toNodeS_l0 (l : List NodeL) (hl : l.length ≤ 1048576) (hk : ∀ x ∈ l, nodeSm (nodeOf x)) : ∀ (d i : Nat), i + d = l.length →
    Ev (fun k => laws_toNodeS.l0 k l ((l.take i).map nodeOf ++ List.replicate (l.length - i) z52) (i : Int)) (l.map nodeOf)
  | 0, i, h => by
    refine ev_s0 (fun k => ?_)
    simp only [laws_toNodeS.l0]
    rw [if_neg (by omega), show l.length - i = 0 by omega, show i = l.length by omega]; simp
  | d + 1, i, h => by
    have hi : i < l.length := by omega
    refine ev_s2 (laws_toNodeS_l0 l hl hk d (i + 1) (by omega)) (laws_toIntS_ev l[i].f3 (hk _ (List.getElem_mem hi)).2) (fun k e e2 => ?_)
    simp only [laws_toNodeS.l0, laws_toNode.f]
    rw [if_pos (by omega), if_pos (by omega), rdNL_nat l i hi, e2]
    simp only [Option.bind_some]
    rw [if_pos (by simp; omega), Int.toNat_natCast, show (⟨l[i].f0, l[i].f1, l[i].f2, l[i].f3⟩ : NodeT) = nodeOf l[i] from rfl, copy_step nodeOf l z52 i hi, w_succ (by omega)]
    exact e
theorem laws_toNodeS_ev (l : List NodeL) (hl : l.length ≤ 1048576) (hk : ∀ x ∈ l, nodeSm (nodeOf x)) : Ev (fun k => laws_toNodeS.f k l) (l.map nodeOf) := by
  refine ev_a1 (laws_toNodeS_l0 l hl hk l.length 0 (by omega)) (fun k e => ?_)
  simp only [laws_toNodeS.f]
  rw [if_pos (by omega), Int.toNat_natCast, if_pos (by omega)]
  simpa using e
theorem laws_eqNodeS_l0 (a : List NodeT) (hl : a.length ≤ 1048576) (hk : ∀ x ∈ a, nodeSm x) : ∀ (d i : Nat), i + d = a.length → Ev (fun k => laws_eqNodeS.l0 k a a (i : Int)) true
  | 0, i, h => by
    refine ev_s0 (fun k => ?_)
    simp only [laws_eqNodeS.l0]
    rw [if_neg (by omega)]
  | d + 1, i, h => by
    have hi : i < a.length := by omega
    refine ev_s2 (laws_eqNodeS_l0 a hl hk d (i + 1) (by omega)) (laws_eqIntS_ev a[i].f3 (hk _ (List.getElem_mem hi)).2) (fun k e e2 => ?_)
    simp only [laws_eqNodeS.l0, laws_eqNode.f, if_true]
    rw [if_pos (by omega), if_pos (by omega), if_pos (by omega), rdNT_nat a i hi, e2]
    simp only [Option.bind_some, if_true]
    rw [w_succ (by omega)]
    exact e
theorem laws_eqNodeS_ev (a : List NodeT) (hl : a.length ≤ 1048576) (hk : ∀ x ∈ a, nodeSm x) : Ev (fun k => laws_eqNodeS.f k a a) true := by
  refine ev_a1 (laws_eqNodeS_l0 a hl hk a.length 0 (by omega)) (fun k e => ?_)
  simp only [laws_eqNodeS.f, if_true]
  exact e

def pkRel (i s : Int × List S52 × Bool) : Prop := (i.2.2 = true ∧ (s.2.2 = true ∨ 300 < s.2.1.length)) ∨ (i.2.2 = false ∧ s = i ∧ i.2.1.length ≤ 300)
theorem pkS_after (ns : List S52) (K : Nat) : ∀ (cs : List Int) (t : List S52) (b : Bool) (out : List Int), (b = true ∨ 300 < t.length) → ((pkS_kids (pkS_put ns K) cs t b out).2.1 = true ∨ 300 < (pkS_kids (pkS_put ns K) cs t b out).1.length)
  | [], t, b, out, h => h
  | c :: r, t, b, out, h => by
    rw [pkS_kids]
    by_cases q : b = true
    · rw [if_pos q]; exact .inl q
    · rw [if_neg q]
      refine pkS_after ns K r _ _ _ (.inr ?_)
      have := (pkS_len ns K c t false).2.1
      have := h.resolve_left q
      omega
theorem pk_kids (ns : List S52) (K : Nat) (IH : ∀ (a : Int) (t : List S52), t.length ≤ 300 → pkRel (pkI_put ns K a t false) (pkS_put ns K a t false)) : ∀ (cs : List Int) (t : List S52) (out : List Int), t.length ≤ 300 →
    ((pkI_kids (pkI_put ns K) cs t out).2.1 = true ∧ ((pkS_kids (pkS_put ns K) cs t false out).2.1 = true ∨ 300 < (pkS_kids (pkS_put ns K) cs t false out).1.length)) ∨ ((pkI_kids (pkI_put ns K) cs t out).2.1 = false ∧ pkS_kids (pkS_put ns K) cs t false out = pkI_kids (pkI_put ns K) cs t out ∧ (pkI_kids (pkI_put ns K) cs t out).1.length ≤ 300)
  | [], t, out, h => .inr ⟨rfl, rfl, h⟩
  | c :: r, t, out, h => by
    rw [pkI_kids, pkS_kids, if_neg (show ¬ (false = true) by decide)]
    rcases IH c t h with ⟨h1, h2⟩ | ⟨h1, h2, h3⟩
    · rw [if_pos h1]
      exact .inl ⟨rfl, pkS_after ns K r _ _ _ h2⟩
    · rw [if_neg (by rw [h1]; decide), h2, h1]
      exact pk_kids ns K IH r _ _ h3
theorem pk_rel (ns : List S52) : ∀ (K : Nat) (a : Int) (t : List S52), t.length ≤ 300 → pkRel (pkI_put ns K a t false) (pkS_put ns K a t false)
  | 0, a, t, h => .inl ⟨rfl, .inl rfl⟩
  | K + 1, a, t, h => by
    have hS := (pkS_len ns (K + 1) a t false)
    by_cases q : ¬ (0 ≤ a ∧ a < (ns.length : Int))
    · rw [pkI_put, pkS_put, if_pos (.inr (.inl q)), if_pos (.inr (.inl q))]
      exact .inl ⟨rfl, .inl rfl⟩
    · by_cases q2 : 300 ≤ t.length
      · refine .inl ⟨by rw [pkI_put, if_pos (.inr (.inr q2))], ?_⟩
        rcases hS.2.2 with h1 | h1
        · exact .inl h1
        · exact .inr (by omega)
      · have n1 : ¬ (false = true ∨ ¬ (0 ≤ a ∧ a < (ns.length : Int)) ∨ 300 ≤ t.length) := by
          rintro (h | h | h)
          · cases h
          · exact q h
          · exact q2 h
        have n2 : ¬ (false = true ∨ ¬ (0 ≤ a ∧ a < (ns.length : Int)) ∨ 300 < t.length) := by
          rintro (h | h | h)
          · cases h
          · exact q h
          · omega
        rw [pkI_put, pkS_put, if_neg n1, if_neg n2]
        rcases pk_kids ns K (pk_rel ns K) (rd_T52 ns a).f3 t [] h with ⟨h1, h2⟩ | ⟨h1, h2, h3⟩
        · rw [if_pos (.inl h1)]
          refine .inl ⟨rfl, ?_⟩
          rcases h2 with h2 | h2
          · exact .inl h2
          · refine .inr ?_
            simp only [List.length_append, List.length_singleton]
            omega
        · rw [h2]
          by_cases q3 : 300 ≤ (pkI_kids (pkI_put ns K) (rd_T52 ns a).f3 t []).1.length
          · rw [if_pos (.inr q3)]
            refine .inl ⟨rfl, .inr ?_⟩
            simp only [List.length_append, List.length_singleton]
            omega
          · rw [if_neg (by rintro (h | h); · rw [h1] at h; cases h
                           · exact q3 h)]
            refine .inr ⟨rfl, ?_, ?_⟩
            · simp only [h1]
            · simp only [List.length_append, List.length_singleton]
              omega

open Given
def keyIn (l : List ByteArray) (s : ByteArray) : Bool := l.any fun w => decide (w.toList = s.toList)
theorem keyIn_step (l : List ByteArray) (i : Nat) (h : i < l.length) (s : ByteArray) : keyIn (l.drop i) s = if (rdOf ByteArray.empty l (i : Int)).toList = s.toList then true else keyIn (l.drop (i + 1)) s := by
  rw [List.drop_eq_getElem_cons h]
  have e : rdOf ByteArray.empty l (i : Int) = l[i] := by simp [rdOf, List.getD, List.getElem?_eq_getElem h]
  rw [e]
  unfold keyIn
  rw [List.any_cons]
  by_cases c : l[i].toList = s.toList
  · rw [if_pos c, decide_eq_true c]; rfl
  · rw [if_neg c, decide_eq_false c]; rfl
theorem spec_KeyWord_l0_ev (s : ByteArray) (l : List ByteArray) (hl : l.length ≤ 1000) : ∀ n i : Nat, l.length - i = n → i ≤ l.length → Ev (fun k => spec_KeyWord.l0 k s l (i : Int)) (keyIn (l.drop i) s)
  | 0, i, hn, hi => ev_s0 fun k => by
    have : ¬ (i : Int) < (l.length : Int) := by omega
    have e : l.drop i = [] := List.drop_eq_nil_of_le (by omega)
    rw [spec_KeyWord.l0, if_neg this, e]; rfl
  | n + 1, i, hn, hi => ev_s1 (spec_KeyWord_l0_ev s l hl n (i + 1) (by omega) (by omega)) fun k h => by
    have q1 : (i : Int) < (l.length : Int) := by omega
    have q2 : (0 : Int) ≤ i := by omega
    have q3 : i < l.length := by omega
    have e : wrap64 ((i : Int) + 1) = ((i + 1 : Nat) : Int) := by rw [b_w64 (by omega) (by omega)]; omega
    rw [spec_KeyWord.l0, if_pos q1, if_pos q2, e, keyIn_step l i q3 s]
    by_cases c : (rdOf ByteArray.empty l (i : Int)).toList = s.toList
    · rw [if_pos c, if_pos c]
    · rw [if_neg c, if_neg c]; exact h
theorem impl_oneOf_l0_ev (s : ByteArray) (l : List ByteArray) (hl : l.length ≤ 1000) : ∀ n i : Nat, l.length - i = n → i ≤ l.length → Ev (fun k => impl_oneOf.l0 k s l (l.length : Int) (i : Int)) (keyIn (l.drop i) s)
  | 0, i, hn, hi => ev_s0 fun k => by
    have : ¬ (i : Int) < (l.length : Int) := by omega
    have e : l.drop i = [] := List.drop_eq_nil_of_le (by omega)
    rw [impl_oneOf.l0, if_neg this, e]; rfl
  | n + 1, i, hn, hi => ev_s1 (impl_oneOf_l0_ev s l hl n (i + 1) (by omega) (by omega)) fun k h => by
    have q1 : (i : Int) < (l.length : Int) := by omega
    have q2 : (0 : Int) ≤ i := by omega
    have q3 : i < l.length := by omega
    have e : wrap64 ((i : Int) + 1) = ((i + 1 : Nat) : Int) := by rw [b_w64 (by omega) (by omega)]; omega
    rw [impl_oneOf.l0, if_pos q1, if_pos q2, if_pos q1, e, keyIn_step l i q3 s]
    by_cases c : (rdOf ByteArray.empty l (i : Int)).toList = s.toList
    · rw [if_pos c, if_pos c]
    · rw [if_neg c, if_neg c]; exact h
def theKeys : List ByteArray := [⟨#[102, 110]⟩, ⟨#[108, 101, 116]⟩, ⟨#[105, 102]⟩, ⟨#[101, 108, 115, 101]⟩, ⟨#[119, 104, 105, 108, 101]⟩, ⟨#[112, 114, 105, 110, 116]⟩, ⟨#[100, 111]⟩, ⟨#[110, 101, 119]⟩, ⟨#[99, 108, 111, 110, 101]⟩, ⟨#[109, 117, 116]⟩, ⟨#[105, 110, 112, 117, 116]⟩, ⟨#[105, 110, 116]⟩, ⟨#[98, 111, 120]⟩, ⟨#[114, 101, 116]⟩]
theorem theKeys_spec : spec_l03Keys.f = some theKeys := rfl
theorem theKeys_split : strings_Split.f (⟨#[102, 110, 32, 108, 101, 116, 32, 105, 102, 32, 101, 108, 115, 101, 32, 119, 104, 105, 108, 101, 32, 112, 114, 105, 110, 116, 32, 100, 111, 32, 110, 101, 119, 32, 99, 108, 111, 110, 101, 32, 109, 117, 116, 32, 105, 110, 112, 117, 116, 32, 105, 110, 116, 32, 98, 111, 120, 32, 114, 101, 116]⟩ : ByteArray) (⟨#[32]⟩ : ByteArray) = some theKeys := by
  kernel_rfl
theorem spec_KeyWord_ev (s : ByteArray) : Ev (fun k => spec_KeyWord.f k s) (keyIn theKeys s) :=
  ev_a1 (spec_KeyWord_l0_ev s theKeys (by decide) 14 0 rfl (by decide)) fun k h => by
    rw [spec_KeyWord.f, theKeys_spec]; exact h
theorem impl_KeyWord_ev (s : ByteArray) : Ev (fun k => impl_KeyWord.f k s) (keyIn theKeys s) :=
  ev_a1 (impl_oneOf_l0_ev s theKeys (by decide) 14 0 rfl (by decide)) fun k h => by
    rw [impl_KeyWord.f, impl_oneOf.f, theKeys_split, Option.bind_some]
    have h' : impl_oneOf.l0 k s theKeys (theKeys.length : Int) 0 = some (keyIn theKeys s) := h
    rw [h']; rfl

def isLe (x : Int) : Bool := decide (97 ≤ x ∧ x ≤ 122)
def isFi (x : Int) : Bool := decide (48 ≤ x ∧ x ≤ 57)
theorem spec_letter_is (x : Int) : spec_l03Letter.f x = some (isLe x) := by
  unfold spec_l03Letter.f isLe
  by_cases c : x ≥ 97
  · rw [if_pos c]; by_cases d : x ≤ 122 <;> simp [d, c]
  · rw [if_neg c]; simp; intro h; omega
theorem spec_figure_is (x : Int) : spec_l03Figure.f x = some (isFi x) := by
  unfold spec_l03Figure.f isFi
  by_cases c : x ≥ 48
  · rw [if_pos c]; by_cases d : x ≤ 57 <;> simp [d, c]
  · rw [if_neg c]; simp; intro h; omega
theorem impl_letter_is (x : Int) : impl_isLetter.f x = some (isLe x) := spec_letter_is x
theorem impl_figure_is (x : Int) : impl_isFigure.f x = some (isFi x) := spec_figure_is x

theorem spec_in_is (x y z : Int) : spec_l01In.f x y z = some (decide (y ≤ x ∧ x ≤ z)) := by
  unfold spec_l01In.f
  by_cases c : x ≥ y
  · rw [if_pos c]; by_cases d : x ≤ z <;> simp [d, c]
  · rw [if_neg c]; simp; intro h; omega

theorem impl_in_is (x y z : Int) : impl_in.f x y z = some (decide (y ≤ x ∧ x ≤ z)) := by
  unfold impl_in.f
  by_cases c : x ≥ y
  · rw [if_pos c]; by_cases d : x ≤ z <;> simp [d, c]
  · rw [if_neg c]; simp; intro h; omega

def allAl (s : ByteArray) : Nat → Nat → Bool
  | 0, _ => true
  | n + 1, i => if isLe (bt s (i : Int)) = true then allAl s n (i + 1) else if isFi (bt s (i : Int)) = true then allAl s n (i + 1) else false
theorem spec_NameOk_l0_ev (s : ByteArray) (hs : s.size ≤ 1000) : ∀ n i : Nat, s.size - i = n → i ≤ s.size → Ev (fun k => spec_NameOk.l0 k s (i : Int)) (allAl s n i)
  | 0, i, hn, hi => ev_s0 fun k => by
    have : ¬ (i : Int) < (s.size : Int) := by omega
    rw [spec_NameOk.l0, if_neg this]; rfl
  | n + 1, i, hn, hi => ev_s1 (spec_NameOk_l0_ev s hs n (i + 1) (by omega) (by omega)) fun k h => by
    have q1 : (i : Int) < (s.size : Int) := by omega
    have q2 : (0 : Int) ≤ i := by omega
    have e : wrap64 ((i : Int) + 1) = ((i + 1 : Nat) : Int) := by rw [b_w64 (by omega) (by omega)]; omega
    rw [spec_NameOk.l0, if_pos q1, if_pos q2, e, spec_letter_is, spec_figure_is, Option.bind_some, Option.bind_some, h, allAl]
    cases isLe (bt s (i : Int)) <;> cases isFi (bt s (i : Int)) <;> rfl
theorem impl_NameOk_l0_ev (s : ByteArray) (hs : s.size ≤ 1000) : ∀ n i : Nat, s.size - i = n → i ≤ s.size → Ev (fun k => impl_NameOk.l0 k s (i : Int)) (allAl s n i && !keyIn theKeys s)
  | 0, i, hn, hi => ev_s1 (impl_KeyWord_ev s) fun k h => by
    have : ¬ (i : Int) < (s.size : Int) := by omega
    have h2 := impl_KeyWord.mono s k _ h
    rw [impl_NameOk.l0, if_neg this, h]; rfl
  | n + 1, i, hn, hi => ev_s1 (impl_NameOk_l0_ev s hs n (i + 1) (by omega) (by omega)) fun k h => by
    have q1 : (i : Int) < (s.size : Int) := by omega
    have q2 : (0 : Int) ≤ i := by omega
    have e : wrap64 ((i : Int) + 1) = ((i + 1 : Nat) : Int) := by rw [b_w64 (by omega) (by omega)]; omega
    rw [impl_NameOk.l0, if_pos q1, if_pos q2, e, impl_letter_is, impl_figure_is, Option.bind_some, Option.bind_some, h, allAl]
    cases isLe (bt s (i : Int)) <;> cases isFi (bt s (i : Int)) <;> rfl
def nameOk (s : ByteArray) : Bool := decide (1 ≤ s.size ∧ s.size ≤ 8) && isLe (bt s 0) && allAl s s.size 0 && !keyIn theKeys s
theorem spec_NameOk_ev (s : ByteArray) : Ev (fun k => spec_NameOk.f k s) (nameOk s) := by
  by_cases q : 1 ≤ s.size ∧ s.size ≤ 8
  · have q1 : 0 < (s.size : Int) := by omega
    have q2 : (1 : Int) ≤ (s.size : Int) ∧ (s.size : Int) ≤ 8 := by omega
    obtain ⟨K, H⟩ := ev_and (spec_KeyWord_ev s) (spec_NameOk_l0_ev s (by omega) s.size 0 (by omega) (by omega))
    refine ⟨K + 1, fun k hk => ?_⟩
    obtain ⟨m, rfl⟩ : ∃ m, k = m + 1 := ⟨k - 1, by omega⟩
    have h1 := (H (m + 1) (by omega)).1
    have h2 := (H m (by omega)).2
    have h2' : spec_NameOk.l0 m s 0 = some (allAl s s.size 0) := h2
    show spec_NameOk.f (m + 1) s = _
    rw [spec_NameOk.f, spec_in_is, Option.bind_some, decide_eq_true q2, if_pos rfl, if_pos q1, spec_letter_is, Option.bind_some, h1, Option.bind_some, nameOk, decide_eq_true q, spec_NameOk.j0, spec_NameOk.j0, h2']
    cases isLe (bt s 0) <;> cases keyIn theKeys s <;> cases allAl s s.size 0 <;> rfl
  · have q2 : ¬ ((1 : Int) ≤ (s.size : Int) ∧ (s.size : Int) ≤ 8) := by omega
    refine ⟨1, fun k hk => ?_⟩
    obtain ⟨m, rfl⟩ : ∃ m, k = m + 1 := ⟨k - 1, by omega⟩
    show spec_NameOk.f (m + 1) s = _
    rw [spec_NameOk.f, spec_in_is, Option.bind_some, decide_eq_false q2, nameOk, decide_eq_false q, spec_NameOk.j0]
    rfl
theorem impl_NameOk_ev (s : ByteArray) : Ev (fun k => impl_NameOk.f k s) (nameOk s) := by
  by_cases q : 1 ≤ s.size ∧ s.size ≤ 8
  · have q1 : 0 < (s.size : Int) := by omega
    have q2 : (1 : Int) ≤ (s.size : Int) ∧ (s.size : Int) ≤ 8 := by omega
    obtain ⟨K, H⟩ := impl_NameOk_l0_ev s (by omega) s.size 0 (by omega) (by omega)
    refine ⟨K + 1, fun k hk => ?_⟩
    obtain ⟨m, rfl⟩ : ∃ m, k = m + 1 := ⟨k - 1, by omega⟩
    have h2' : impl_NameOk.l0 m s 0 = some (allAl s s.size 0 && !keyIn theKeys s) := H m (by omega)
    show impl_NameOk.f (m + 1) s = _
    rw [impl_NameOk.f, impl_in_is, Option.bind_some, decide_eq_true q2, if_pos rfl, if_pos q1, impl_letter_is, Option.bind_some, nameOk, decide_eq_true q, impl_NameOk.j0, h2']
    cases isLe (bt s 0) <;> cases keyIn theKeys s <;> cases allAl s s.size 0 <;> rfl
  · have q2 : ¬ ((1 : Int) ≤ (s.size : Int) ∧ (s.size : Int) ≤ 8) := by omega
    refine ⟨1, fun k hk => ?_⟩
    obtain ⟨m, rfl⟩ : ∃ m, k = m + 1 := ⟨k - 1, by omega⟩
    show impl_NameOk.f (m + 1) s = _
    rw [impl_NameOk.f, impl_in_is, Option.bind_some, decide_eq_false q2, nameOk, decide_eq_false q, impl_NameOk.j0]
    rfl

def inB (x lo hi : Int) : Bool := decide (lo ≤ x ∧ x ≤ hi)
def shapeV (a : Int) : Int × Int :=
  if a = 8 ∨ a = 13 ∨ a = 14 ∨ a = 15 ∨ a = 18 ∨ a = 19 then (1, 1) else if a = 9 ∨ a = 10 ∨ a = 11 ∨ a = 17 then (2, 2) else if a = 12 then (0, 3) else if a = 16 then (3, 3) else if a = 20 then (0, 12) else (0, 0)
theorem spec_kids_ev (a : Int) : Ev (fun k => spec_l04Kids.f k a) (shapeV a) := by
  refine ⟨2, fun k hk => ?_⟩
  obtain ⟨m, rfl⟩ : ∃ m, k = m + 2 := ⟨k - 2, by omega⟩
  show spec_l04Kids.f (m + 2) a = _
  by_cases h8 : a = 8
  · subst h8; rfl
  by_cases h13 : a = 13
  · subst h13; rfl
  by_cases h14 : a = 14
  · subst h14; rfl
  by_cases h15 : a = 15
  · subst h15; rfl
  by_cases h18 : a = 18
  · subst h18; rfl
  by_cases h19 : a = 19
  · subst h19; rfl
  by_cases h9 : a = 9
  · subst h9; rfl
  by_cases h10 : a = 10
  · subst h10; rfl
  by_cases h11 : a = 11
  · subst h11; rfl
  by_cases h17 : a = 17
  · subst h17; rfl
  by_cases h12 : a = 12
  · subst h12; rfl
  by_cases h16 : a = 16
  · subst h16; rfl
  by_cases h20 : a = 20
  · subst h20; rfl
  simp [spec_l04Kids.f, spec_l04Kids.j0, spec_l04Kids.j1, shapeV, h8, h13, h14, h15, h18, h19, h9, h10, h11, h17, h12, h16, h20]
theorem impl_shape_ev (a : Int) : Ev (fun k => impl_shape.f k a) (shapeV a) := by
  refine ⟨2, fun k hk => ?_⟩
  obtain ⟨m, rfl⟩ : ∃ m, k = m + 2 := ⟨k - 2, by omega⟩
  show impl_shape.f (m + 2) a = _
  by_cases h8 : a = 8
  · subst h8; rfl
  by_cases h13 : a = 13
  · subst h13; rfl
  by_cases h14 : a = 14
  · subst h14; rfl
  by_cases h15 : a = 15
  · subst h15; rfl
  by_cases h18 : a = 18
  · subst h18; rfl
  by_cases h19 : a = 19
  · subst h19; rfl
  by_cases h9 : a = 9
  · subst h9; rfl
  by_cases h10 : a = 10
  · subst h10; rfl
  by_cases h11 : a = 11
  · subst h11; rfl
  by_cases h17 : a = 17
  · subst h17; rfl
  by_cases h12 : a = 12
  · subst h12; rfl
  by_cases h16 : a = 16
  · subst h16; rfl
  by_cases h20 : a = 20
  · subst h20; rfl
  simp [impl_shape.f, impl_shape.j0, impl_shape.j1, shapeV, h8, h13, h14, h15, h18, h19, h9, h10, h11, h17, h12, h16, h20]
def namedV (a : Int) : Bool := inB a 2 6 || inB a 12 15
theorem spec_named_is (a : Int) : spec_l04Named.f a = some (namedV a) := by
  by_cases h : 2 ≤ a ∧ a ≤ 6
  · have : a = 2 ∨ a = 3 ∨ a = 4 ∨ a = 5 ∨ a = 6 := by omega
    rcases this with h | h | h | h | h <;> subst h <;> rfl
  by_cases h2 : 12 ≤ a ∧ a ≤ 15
  · have : a = 12 ∨ a = 13 ∨ a = 14 ∨ a = 15 := by omega
    rcases this with h | h | h | h <;> subst h <;> rfl
  rw [spec_l04Named.f, if_neg (by omega), if_neg (by omega), if_neg (by omega), if_neg (by omega), if_neg (by omega), if_neg (by omega), if_neg (by omega), if_neg (by omega), if_neg (by omega), namedV, inB, inB, decide_eq_false h, decide_eq_false h2]
  rfl
theorem impl_named_is (a : Int) : impl_hasName.f a = some (namedV a) := by
  rw [impl_hasName.f, impl_in_is, impl_in_is, Option.bind_some, namedV, inB, inB]
  cases decide (2 ≤ a ∧ a ≤ 6) <;> rfl
def fitsV (kind i kid : Int) : Bool := if kind = 20 then inB kid 13 19 else if (kind = 16 ∨ kind = 17) ∧ i > 0 then kid == 20 else if kind = 19 then kid == 12 else inB kid 1 12
theorem spec_fits_ev (kind i kid : Int) : Ev (fun k => spec_l04Fits.f k kind i kid) (fitsV kind i kid) := by
  refine ⟨1, fun k hk => ?_⟩
  obtain ⟨m, rfl⟩ : ∃ m, k = m + 1 := ⟨k - 1, by omega⟩
  show spec_l04Fits.f (m + 1) kind i kid = _
  rw [spec_l04Fits.f, spec_l04Statement.f, spec_in_is, fitsV]
  by_cases h20 : kind = 20
  · rw [if_pos h20, if_pos h20]; rfl
  rw [if_neg h20, if_neg h20]
  by_cases h16 : kind = 16
  · rw [if_pos h16, h16, spec_l04Fits.j0, if_pos (show ((16 : Int) == 16) = true from rfl), spec_l04Value.f, spec_in_is]
    by_cases hi : i > 0
    · rw [if_pos hi, if_pos ⟨.inl rfl, hi⟩]
    · rw [if_neg hi, if_neg (fun h => hi h.2), if_neg (by decide)]; rfl
  rw [if_neg h16, spec_l04Fits.j0, spec_l04Value.f, spec_in_is]
  by_cases h17 : kind = 17
  · rw [h17, if_pos (show ((17 : Int) == 17) = true from rfl)]
    by_cases hi : i > 0
    · rw [if_pos hi, if_pos ⟨.inr rfl, hi⟩]
    · rw [if_neg hi, if_neg (fun h => hi h.2), if_neg (by decide)]; rfl
  have e : (kind == 17) = false := beq_eq_false_iff_ne.mpr h17
  rw [e, if_neg (by decide), if_neg (show ¬ ((kind = 16 ∨ kind = 17) ∧ i > 0) from fun h => h.1.elim h16 h17)]
  by_cases h19 : kind = 19
  · rw [if_pos h19, if_pos h19]
  · rw [if_neg h19, if_neg h19]; rfl
theorem impl_fits_ev (kind i kid : Int) : Ev (fun k => impl_kidFits.f k kind i kid) (fitsV kind i kid) := by
  refine ⟨1, fun k hk => ?_⟩
  obtain ⟨m, rfl⟩ : ∃ m, k = m + 1 := ⟨k - 1, by omega⟩
  show impl_kidFits.f (m + 1) kind i kid = _
  rw [impl_kidFits.f, impl_isStep.f, impl_in_is, fitsV]
  by_cases h20 : kind = 20
  · rw [if_pos h20, if_pos h20]; rfl
  rw [if_neg h20, if_neg h20]
  by_cases h16 : kind = 16
  · rw [if_pos h16, h16, impl_kidFits.j0, impl_isValue.f, impl_in_is]
    by_cases hi : i > 0
    · rw [decide_eq_true hi, if_pos rfl, if_pos ⟨.inl rfl, hi⟩]
    · rw [decide_eq_false hi, if_neg (by decide), if_neg (by decide), if_neg (fun h => hi h.2), if_neg (by decide)]; rfl
  rw [if_neg h16]
  by_cases h17 : kind = 17
  · rw [if_pos h17, h17, impl_kidFits.j0, impl_isValue.f, impl_in_is]
    by_cases hi : i > 0
    · rw [decide_eq_true hi, if_pos rfl, if_pos ⟨.inr rfl, hi⟩]
    · rw [decide_eq_false hi, if_neg (by decide), if_neg (by decide), if_neg (fun h => hi h.2), if_neg (by decide)]; rfl
  rw [if_neg h17, impl_kidFits.j0, impl_isValue.f, impl_in_is, if_neg (by decide), if_neg (show ¬ ((kind = 16 ∨ kind = 17) ∧ i > 0) from fun h => h.1.elim h16 h17)]
  by_cases h19 : kind = 19
  · rw [if_pos h19, if_pos h19]
  · rw [if_neg h19, if_neg h19]; rfl
def dupR (kids : List Int) (v : Int) : Nat → Nat → Bool
  | 0, _ => false
  | n + 1, j => if v = rd kids (j : Int) then true else dupR kids v n (j + 1)
theorem rd_take (kids : List Int) (p j : Nat) (hj : j < p) (hp : p ≤ kids.length) : rd (kids.take p) (j : Int) = rd kids (j : Int) := by
  rw [rd_nat _ j (by rw [List.length_take]; omega), rd_nat kids j (by omega), List.getElem_take]
theorem impl_hasInt_l0 (kids : List Int) (p : Nat) (hp : p ≤ kids.length) (hk : kids.length ≤ 1048576) (v : Int) : ∀ n j : Nat, p - j = n → j ≤ p →
    Ev (fun k => impl_hasInt.l0 k v (kids.take p) ((kids.take p).length : Int) (j : Int)) (dupR kids v n j)
  | 0, j, hn, hj => ev_s0 fun k => by
    have hl : (kids.take p).length = p := by rw [List.length_take]; omega
    rw [impl_hasInt.l0, hl, if_neg (by omega)]; rfl
  | n + 1, j, hn, hj => ev_s1 (impl_hasInt_l0 kids p hp hk v n (j + 1) (by omega) (by omega)) fun k h => by
    have hl : (kids.take p).length = p := by rw [List.length_take]; omega
    rw [hl] at h
    rw [impl_hasInt.l0, hl, if_pos (by omega), if_pos (by omega), if_pos (by omega), rd_take kids p j (by omega) hp, w_succ (by omega), h, dupR]
    by_cases c : rd kids (j : Int) = v
    · rw [if_pos c, if_pos c.symm]
    · rw [if_neg c, if_neg (fun e => c e.symm)]
theorem impl_hasInt_ev (kids : List Int) (p : Nat) (hp : p ≤ kids.length) (hk : kids.length ≤ 1048576) (v : Int) : Ev (fun k => impl_hasInt.f k (kids.take p) v) (dupR kids v p 0) :=
  ev_a1 (impl_hasInt_l0 kids p hp hk v p 0 (by omega) (by omega)) fun k h => h
def kidsR (ns : List NodeT) (K kind : Int) (kids : List Int) : Nat → Nat → Bool
  | 0, _ => true
  | n + 1, p => inB (rd kids (p : Int)) 0 (K - 1) && fitsV kind (p : Int) (rd_T52 ns (rd kids (p : Int))).f0 && !dupR kids (rd kids (p : Int)) p 0 && kidsR ns K kind kids n (p + 1)
theorem spec_dup_l1 (ns : List NodeT) (i : Nat) (hi : i < ns.length) (hn : ns.length ≤ 1048576) (kind num : Int) (name : ByteArray) (kids : List Int) (hk : kids.length ≤ 1048576) (p : Nat) (hp : p < kids.length) (R : Bool) (H : Ev (fun k => spec_NodeOk.l0 k ns (i : Int) ((p + 1 : Nat) : Int) kind num name kids) R) : ∀ n j : Nat, p - j = n → j ≤ p →
    Ev (fun k => spec_NodeOk.l1 k ns (i : Int) (p : Int) (j : Int) kind num name kids) (!dupR kids (rd kids (p : Int)) n j && R)
  | 0, j, hn', hj => ev_s1 H fun k h => by
    rw [spec_NodeOk.l1, if_neg (by omega), w_succ (by omega), h]; rfl
  | n + 1, j, hn', hj => ev_s1 (spec_dup_l1 ns i hi hn kind num name kids hk p hp R H n (j + 1) (by omega) (by omega)) fun k h => by
    rw [spec_NodeOk.l1, if_pos (by omega), if_pos (by omega), if_pos (by omega), if_pos (by omega), if_pos (by omega), w_succ (by omega), h, dupR]
    by_cases c : rd kids (p : Int) = rd kids (j : Int)
    · rw [if_pos c, if_pos c]; rfl
    · rw [if_neg c, if_neg c]
theorem spec_kids_l0 (ns : List NodeT) (i : Nat) (hi : i < ns.length) (hn : ns.length ≤ 1048576) (kind num : Int) (name : ByteArray) (kids : List Int) (hk : kids.length ≤ 1048576) : ∀ n p : Nat, kids.length - p = n → p ≤ kids.length → Ev (fun k => spec_NodeOk.l0 k ns (i : Int) (p : Int) kind num name kids) (kidsR ns (i : Int) kind kids n p)
  | 0, p, hn', hp => ev_s0 fun k => by rw [spec_NodeOk.l0, if_neg (by omega)]; rfl
  | n + 1, p, hn', hp => by
    have q1 : (p : Int) < (kids.length : Int) := by omega
    have q2 : (0 : Int) ≤ (p : Int) := by omega
    have w1 : wrap64 ((i : Int) - 1) = (i : Int) - 1 := b_w64 (by omega) (by omega)
    have ih := spec_kids_l0 ns i hi hn kind num name kids hk n (p + 1) (by omega) (by omega)
    have hd := spec_dup_l1 ns i hi hn kind num name kids hk p (by omega) _ ih p 0 (by omega) (by omega)
    rw [kidsR]
    cases hb : inB (rd kids (p : Int)) 0 ((i : Int) - 1) with
    | false =>
      have h4 : Ev (fun k => spec_NodeOk.j4 k ns (i : Int) (p : Int) true kind num name kids) false := ev_s0 fun k => by rw [spec_NodeOk.j4, if_pos rfl]
      refine ev_s1 h4 fun k h => ?_
      unfold inB at hb
      rw [spec_NodeOk.l0, if_pos q1, if_pos q2, w1, spec_in_is, Option.bind_some, hb, if_neg (by decide)]
      exact h
    | true =>
      have hb' : 0 ≤ rd kids (p : Int) ∧ rd kids (p : Int) ≤ (i : Int) - 1 := by simpa [inB] using hb
      have p1 := hb'.1
      have p2 : rd kids (p : Int) < (ns.length : Int) := by have := hb'.2; omega
      have hf := spec_fits_ev kind (p : Int) (rd_T52 ns (rd kids (p : Int))).f0
      unfold inB at hb
      cases hv : fitsV kind (p : Int) (rd_T52 ns (rd kids (p : Int))).f0 with
      | false =>
        rw [hv] at hf
        have h4 : Ev (fun k => spec_NodeOk.j4 k ns (i : Int) (p : Int) true kind num name kids) false := ev_s0 fun k => by rw [spec_NodeOk.j4, if_pos rfl]
        refine ev_s2 hf h4 fun k h h' => ?_
        rw [spec_NodeOk.l0, if_pos q1, if_pos q2, w1, spec_in_is, Option.bind_some, hb, if_pos rfl, if_pos p1, if_pos p2, h, Option.bind_some]
        exact h'
      | true =>
        rw [hv] at hf
        have h4 : Ev (fun k => spec_NodeOk.j4 k ns (i : Int) (p : Int) false kind num name kids) (!dupR kids (rd kids (p : Int)) p 0 && kidsR ns (i : Int) kind kids n (p + 1)) := ev_s1 hd fun k h => by rw [spec_NodeOk.j4, if_neg (by decide)]; exact h
        refine ev_s2 hf h4 fun k h h' => ?_
        rw [spec_NodeOk.l0, if_pos q1, if_pos q2, w1, spec_in_is, Option.bind_some, hb, if_pos rfl, if_pos p1, if_pos p2, h, Option.bind_some]
        rw [Bool.and_self, Bool.true_and]
        exact h'
def nameV (kind : Int) (name : ByteArray) : Bool := if namedV kind = true then nameOk name else name.toList == ([] : List UInt8)
def numV2 (kind num : Int) : Bool := if kind = 1 then inB num 0 1000000000 else num == 0
theorem nameOk_nil (s : ByteArray) (h : s.toList = []) : nameOk s = false := by
  have e : s.size = 0 := by
    have e1 : s.data.toList.length = s.size := rfl
    rw [← e1, ← Lib.toList_data, h]; rfl
  unfold nameOk
  rw [decide_eq_false (by omega)]
  rfl
theorem spec_j2_ev (ns : List NodeT) (i : Nat) (hi : i < ns.length) (hn : ns.length ≤ 1048576) (kind num : Int) (name : ByteArray) (kids : List Int) (hk : kids.length ≤ 1048576) (b : Bool) : Ev (fun k => spec_NodeOk.j2 k ns (i : Int) b kind num name kids) (!b && kidsR ns (i : Int) kind kids kids.length 0) := by
  cases b with
  | true => exact ev_s0 fun k => by rw [spec_NodeOk.j2, if_pos rfl]; rfl
  | false => exact ev_s1 (spec_kids_l0 ns i hi hn kind num name kids hk kids.length 0 (by omega) (by omega)) fun k h => by rw [spec_NodeOk.j2, if_neg (by decide)]; exact h
theorem spec_j1_ev (ns : List NodeT) (i : Nat) (hi : i < ns.length) (hn : ns.length ≤ 1048576) (kind num : Int) (name : ByteArray) (kids : List Int) (hk : kids.length ≤ 1048576) (b : Bool) : Ev (fun k => spec_NodeOk.j1 k ns (i : Int) b kind num name kids) (!b && (nameV kind name && kidsR ns (i : Int) kind kids kids.length 0)) := by
  cases b with
  | true => exact ev_s0 fun k => by rw [spec_NodeOk.j1, if_pos rfl]; rfl
  | false =>
    have jt := spec_j2_ev ns i hi hn kind num name kids hk true
    have jf := spec_j2_ev ns i hi hn kind num name kids hk false
    by_cases e : name.toList = ([] : List UInt8)
    · have e1 : (name.toList != ([] : List UInt8)) = false := by rw [e]; rfl
      have e2 : (name.toList == ([] : List UInt8)) = true := by rw [e]; rfl
      cases hv : namedV kind with
      | true =>
        refine ev_s1 jt fun k h => ?_
        rw [spec_NodeOk.j1, if_neg (by decide), spec_named_is, Option.bind_some, hv, e1, if_pos (by decide), h, nameV, if_pos hv, nameOk_nil name e]; rfl
      | false =>
        refine ev_s1 jf fun k h => ?_
        rw [spec_NodeOk.j1, if_neg (by decide), spec_named_is, Option.bind_some, hv, e1, if_neg (by decide), if_pos e, h, nameV, if_neg (by rw [hv]; decide), e2]; rfl
    · have e1 : (name.toList != ([] : List UInt8)) = true := by simpa using e
      have e2 : (name.toList == ([] : List UInt8)) = false := by simpa using e
      cases hv : namedV kind with
      | true =>
        have hN := spec_NameOk_ev name
        have jN := spec_j2_ev ns i hi hn kind num name kids hk (!nameOk name)
        refine ev_s2 hN jN fun k h h' => ?_
        rw [spec_NodeOk.j1, if_neg (by decide), spec_named_is, Option.bind_some, hv, e1, if_neg (by decide), if_neg e, h, Option.bind_some, h', nameV, if_pos hv]
        cases nameOk name <;> rfl
      | false =>
        refine ev_s1 jt fun k h => ?_
        rw [spec_NodeOk.j1, if_neg (by decide), spec_named_is, Option.bind_some, hv, e1, if_pos (by decide), h, nameV, if_neg (by rw [hv]; decide), e2]; rfl
def nodeOkV (ns : List NodeT) (a : Int) : Bool :=
  inB a 0 ((ns.length : Int) - 1) && (inB (rd_T52 ns a).f0 1 20 && (inB ((rd_T52 ns a).f3.length : Int) (shapeV (rd_T52 ns a).f0).1 (shapeV (rd_T52 ns a).f0).2 &&
    (numV2 (rd_T52 ns a).f0 (rd_T52 ns a).f1 && (nameV (rd_T52 ns a).f0 (rd_T52 ns a).f2 && kidsR ns a (rd_T52 ns a).f0 (rd_T52 ns a).f3 (rd_T52 ns a).f3.length 0))))
theorem spec_NodeOk_ev (ns : List NodeT) (hn : ns.length ≤ 1048576) (hk : ∀ x ∈ ns, nodeSm x) (a : Int) : Ev (fun k => spec_NodeOk.f k ns a) (nodeOkV ns a) := by
  have w1 : wrap64 ((ns.length : Int) - 1) = (ns.length : Int) - 1 := b_w64 (by omega) (by omega)
  have jt : Ev (fun k => spec_NodeOk.j0 k ns a true) false := ev_s0 fun k => by rw [spec_NodeOk.j0, if_pos rfl]
  by_cases ha : 0 ≤ a ∧ a ≤ (ns.length : Int) - 1
  · obtain ⟨i, rfl⟩ := Int.eq_ofNat_of_zero_le ha.1
    have hi : i < ns.length := by omega
    have q1 : (0 : Int) ≤ (i : Int) := by omega
    have q2 : (i : Int) < (ns.length : Int) := by omega
    have hb : inB (i : Int) 0 ((ns.length : Int) - 1) = true := decide_eq_true ha
    have hkk : (rd_T52 ns (i : Int)).f3.length ≤ 1048576 := by rw [rdNT_nat ns i hi]; exact (hk _ (List.getElem_mem hi)).2
    generalize hX : rd_T52 ns (i : Int) = X at hkk
    have j1 := fun b => spec_j1_ev ns i hi hn X.f0 X.f1 X.f2 X.f3 hkk b
    have hs := spec_kids_ev X.f0
    rw [nodeOkV, hb, Bool.true_and, hX]
    cases hkind : inB X.f0 1 20 with
    | false =>
      refine ev_a1 jt fun k h => ?_
      unfold inB at hkind
      rw [spec_NodeOk.f, w1, spec_in_is, Option.bind_some, decide_eq_true ha, if_pos rfl, if_pos q1, if_pos q2, hX, spec_in_is, Option.bind_some, hkind]
      exact h
    | true =>
      have j0 : Ev (fun k => spec_NodeOk.j0 k ns (i : Int) false) (inB (X.f3.length : Int) (shapeV X.f0).1 (shapeV X.f0).2 && (numV2 X.f0 X.f1 && (nameV X.f0 X.f2 && kidsR ns (i : Int) X.f0 X.f3 X.f3.length 0))) := by
        cases hlen : inB (X.f3.length : Int) (shapeV X.f0).1 (shapeV X.f0).2 with
        | false =>
          refine ev_s2 hs (j1 true) fun k h h' => ?_
          unfold inB at hlen
          rw [spec_NodeOk.j0, if_neg (by decide), if_pos q1, if_pos q2, hX, h, Option.bind_some, spec_in_is, Option.bind_some, hlen, if_neg (by decide)]
          exact h'
        | true =>
          by_cases hnum : 0 ≤ X.f1 ∧ X.f1 ≤ 1000000000
          · by_cases hone : X.f0 = 1
            · refine ev_s2 hs (j1 false) fun k h h' => ?_
              unfold inB at hlen
              rw [spec_NodeOk.j0, if_neg (by decide), if_pos q1, if_pos q2, hX, h, Option.bind_some, spec_in_is, Option.bind_some, hlen, if_pos rfl, spec_in_is, Option.bind_some, decide_eq_true hnum, if_pos rfl, if_pos hone, h', numV2, if_pos hone, inB, decide_eq_true hnum]
              rfl
            · refine ev_s2 hs (j1 (X.f1 != 0)) fun k h h' => ?_
              unfold inB at hlen
              rw [spec_NodeOk.j0, if_neg (by decide), if_pos q1, if_pos q2, hX, h, Option.bind_some, spec_in_is, Option.bind_some, hlen, if_pos rfl, spec_in_is, Option.bind_some, decide_eq_true hnum, if_pos rfl, if_neg hone, h', numV2, if_neg hone]
              cases hz : X.f1 == 0 <;> simp [bne, hz]
          · refine ev_s2 hs (j1 true) fun k h h' => ?_
            have hz : numV2 X.f0 X.f1 = false := by
              unfold numV2
              by_cases hone : X.f0 = 1
              · rw [if_pos hone, inB, decide_eq_false hnum]
              · rw [if_neg hone]
                have : ¬ X.f1 = 0 := by intro e; apply hnum; omega
                exact beq_eq_false_iff_ne.mpr this
            unfold inB at hlen
            rw [spec_NodeOk.j0, if_neg (by decide), if_pos q1, if_pos q2, hX, h, Option.bind_some, spec_in_is, Option.bind_some, hlen, if_pos rfl, spec_in_is, Option.bind_some, decide_eq_false hnum, if_neg (by decide), h', hz]
            rfl
      refine ev_a1 j0 fun k h => ?_
      unfold inB at hkind
      rw [spec_NodeOk.f, w1, spec_in_is, Option.bind_some, decide_eq_true ha, if_pos rfl, if_pos q1, if_pos q2, hX, spec_in_is, Option.bind_some, hkind]
      exact h
  · refine ev_a1 jt fun k h => ?_
    rw [spec_NodeOk.f, w1, spec_in_is, Option.bind_some, decide_eq_false ha, if_neg (by decide), nodeOkV, inB, decide_eq_false ha]
    exact h
theorem impl_j2_ev (kind num : Int) (name : ByteArray) (kids : List Int) (b : Bool) : Ev (fun k => impl_NodeOk.j2 k b kind num name kids) (!b && nameV kind name) := by
  cases b with
  | true => exact ev_s0 fun k => by rw [impl_NodeOk.j2, if_pos rfl]; rfl
  | false =>
    refine ev_s1 (impl_NameOk_ev name) fun k h => ?_
    rw [impl_NodeOk.j2, if_neg (by decide), impl_named_is, Option.bind_some, h, nameV]
    cases namedV kind <;> rfl
theorem impl_kids_l0 (ns : List NodeT) (i : Nat) (hi : i < ns.length) (hn : ns.length ≤ 1048576) (kind num : Int) (name : ByteArray) (kids : List Int) (hk : kids.length ≤ 1048576) : ∀ n p : Nat, kids.length - p = n → p ≤ kids.length → Ev (fun k => impl_NodeOk.l0 k ns (i : Int) kids (kids.length : Int) (p : Int) kind num name kids) (kidsR ns (i : Int) kind kids n p && (numV2 kind num && nameV kind name))
  | 0, p, hn', hp => by
    rw [kidsR, Bool.true_and]
    by_cases hone : kind = 1
    · have j := impl_j2_ev kind num name kids (!inB num 0 1000000000)
      refine ev_s1 j fun k h => ?_
      rw [impl_NodeOk.l0, if_neg (by omega), if_pos hone, impl_in_is, Option.bind_some, numV2, if_pos hone]
      unfold inB at h ⊢
      cases hb : decide (0 ≤ num ∧ num ≤ 1000000000) <;> rw [hb] at h
      · rw [if_neg (by decide)]; exact h
      · rw [if_pos rfl]; exact h
    · refine ev_s1 (impl_j2_ev kind num name kids (num != 0)) fun k h => ?_
      rw [impl_NodeOk.l0, if_neg (by omega), if_neg hone, numV2, if_neg hone, h]
      cases hz : num == 0 <;> simp [bne, hz]
  | n + 1, p, hn', hp => by
    have q1 : (p : Int) < (kids.length : Int) := by omega
    have q2 : (0 : Int) ≤ (p : Int) := by omega
    have q3 : (p : Int) ≤ (kids.length : Int) := by omega
    have w1 : wrap64 ((i : Int) - 1) = (i : Int) - 1 := b_w64 (by omega) (by omega)
    have w2 : wrap64 ((p : Int) + 1) = ((p + 1 : Nat) : Int) := w_succ (by omega)
    have ih := impl_kids_l0 ns i hi hn kind num name kids hk n (p + 1) (by omega) (by omega)
    have hd := impl_hasInt_ev kids p (by omega) hk (rd kids (p : Int))
    have hf := impl_fits_ev kind (p : Int) (rd_T52 ns (rd kids (p : Int))).f0
    rw [kidsR]
    cases hb : inB (rd kids (p : Int)) 0 ((i : Int) - 1) with
    | false =>
      refine ev_s0 fun k => ?_
      unfold inB at hb
      rw [impl_NodeOk.l0, if_pos q1, if_pos q2, if_pos q1, w1, impl_in_is, Option.bind_some, hb, if_neg (by decide)]
      rfl
    | true =>
      have hb' : 0 ≤ rd kids (p : Int) ∧ rd kids (p : Int) ≤ (i : Int) - 1 := by simpa [inB] using hb
      have p1 := hb'.1
      have p2 : rd kids (p : Int) < (ns.length : Int) := by have := hb'.2; omega
      unfold inB at hb
      refine ev_s3 hd hf ih fun k h h' h'' => ?_
      rw [impl_NodeOk.l0, if_pos q1, if_pos q2, if_pos q1, w1, impl_in_is, Option.bind_some, hb, if_pos rfl, if_pos q3, Int.toNat_natCast, h, Option.bind_some, if_pos p1, if_pos p2, h', w2, h'']
      cases dupR kids (rd kids (p : Int)) p 0 <;> cases fitsV kind (p : Int) (rd_T52 ns (rd kids (p : Int))).f0 <;> rfl
theorem impl_NodeOk_ev (ns : List NodeT) (hn : ns.length ≤ 1048576) (hk : ∀ x ∈ ns, nodeSm x) (a : Int) : Ev (fun k => impl_NodeOk.f k ns a) (nodeOkV ns a) := by
  have w1 : wrap64 ((ns.length : Int) - 1) = (ns.length : Int) - 1 := b_w64 (by omega) (by omega)
  by_cases ha : 0 ≤ a ∧ a ≤ (ns.length : Int) - 1
  · obtain ⟨i, rfl⟩ := Int.eq_ofNat_of_zero_le ha.1
    have hi : i < ns.length := by omega
    have q1 : (0 : Int) ≤ (i : Int) := by omega
    have q2 : (i : Int) < (ns.length : Int) := by omega
    have hb : inB (i : Int) 0 ((ns.length : Int) - 1) = true := decide_eq_true ha
    have hkk : (rd_T52 ns (i : Int)).f3.length ≤ 1048576 := by rw [rdNT_nat ns i hi]; exact (hk _ (List.getElem_mem hi)).2
    generalize hX : rd_T52 ns (i : Int) = X at hkk
    have hs := impl_shape_ev X.f0
    have j0 : ∀ b : Bool, Ev (fun k => impl_NodeOk.j0 k ns (i : Int) b X.f0 X.f1 X.f2 X.f3) (!b && (kidsR ns (i : Int) X.f0 X.f3 X.f3.length 0 && (numV2 X.f0 X.f1 && nameV X.f0 X.f2))) := by
      intro b
      cases b with
      | true => exact ev_s0 fun k => by rw [impl_NodeOk.j0, if_pos rfl]; rfl
      | false => exact ev_s1 (impl_kids_l0 ns i hi hn X.f0 X.f1 X.f2 X.f3 hkk X.f3.length 0 (by omega) (by omega)) fun k h => by rw [impl_NodeOk.j0, if_neg (by decide)]; exact h
    rw [nodeOkV, hb, Bool.true_and, hX]
    cases hkind : inB X.f0 1 20 with
    | false =>
      refine ev_a2 hs (j0 true) fun k h h' => ?_
      unfold inB at hkind
      rw [impl_NodeOk.f, w1, impl_in_is, Option.bind_some, decide_eq_true ha, if_pos rfl, if_pos q1, if_pos q2, hX, h, Option.bind_some, impl_in_is, Option.bind_some, hkind, if_neg (by decide), h']
      rfl
    | true =>
      refine ev_a2 hs (j0 (!inB (X.f3.length : Int) (shapeV X.f0).1 (shapeV X.f0).2)) fun k h h' => ?_
      unfold inB at hkind h'
      rw [impl_NodeOk.f, w1, impl_in_is, Option.bind_some, decide_eq_true ha, if_pos rfl, if_pos q1, if_pos q2, hX, h, Option.bind_some, impl_in_is, Option.bind_some, hkind, if_pos rfl, impl_in_is, Option.bind_some, h']
      unfold inB
      generalize kidsR ns (i : Int) X.f0 X.f3 X.f3.length 0 = b1
      generalize numV2 X.f0 X.f1 = b2
      generalize nameV X.f0 X.f2 = b3
      generalize decide ((shapeV X.f0).1 ≤ (X.f3.length : Int) ∧ (X.f3.length : Int) ≤ (shapeV X.f0).2) = b4
      cases b1 <;> cases b2 <;> cases b3 <;> cases b4 <;> rfl
  · exact ev_a0 fun k => by
      rw [impl_NodeOk.f, w1, impl_in_is, Option.bind_some, decide_eq_false ha, if_neg (by decide), nodeOkV, inB, decide_eq_false ha]
      rfl

theorem kidsR_in (ns : List NodeT) (K kind : Int) (kids : List Int) : ∀ n p : Nat, kidsR ns K kind kids n p = true → ∀ q, p ≤ q → q < p + n → 0 ≤ rd kids (q : Int) ∧ rd kids (q : Int) ≤ K - 1
  | 0, p, _, q, h1, h2 => by omega
  | n + 1, p, h, q, h1, h2 => by
    rw [kidsR] at h
    simp only [Bool.and_eq_true] at h
    by_cases e : q = p
    · subst e
      have h0 := h.1.1.1
      unfold inB at h0
      exact of_decide_eq_true h0
    · exact kidsR_in ns K kind kids n (p + 1) h.2 q (by omega) (by omega)
theorem nodeOkV_kids (ns : List NodeT) (i : Nat) (h : nodeOkV ns (i : Int) = true) : ∀ q : Nat, q < (rd_T52 ns (i : Int)).f3.length → 0 ≤ rd (rd_T52 ns (i : Int)).f3 (q : Int) ∧ rd (rd_T52 ns (i : Int)).f3 (q : Int) ≤ (i : Int) - 1 := by
  intro q hq
  unfold nodeOkV at h
  simp only [Bool.and_eq_true] at h
  exact kidsR_in ns _ _ _ _ 0 h.2.2.2.2.2 q (by omega) (by omega)
def kidsMax (ds kids : List Int) : Nat → Nat → Int → Int
  | 0, _, d => d
  | n + 1, p, d => kidsMax ds kids n (p + 1) (if rd ds (rd kids (p : Int)) + 1 > d then rd ds (rd kids (p : Int)) + 1 else d)
theorem kidsMax_ge (ds kids : List Int) : ∀ (n p : Nat) (d : Int), d ≤ kidsMax ds kids n p d
  | 0, _, d => by rw [kidsMax]; omega
  | n + 1, p, d => by
    rw [kidsMax]
    refine Int.le_trans ?_ (kidsMax_ge ds kids n (p + 1) _)
    split <;> omega
def nodeDeep (ns : List NodeT) (ds : List Int) (i : Nat) : Int := kidsMax ds (rd_T52 ns (i : Int)).f3 (rd_T52 ns (i : Int)).f3.length 0 1
def deeps (ns : List NodeT) : Nat → Option (List Int)
  | 0 => some []
  | i + 1 => match deeps ns i with
    | none => none
    | some ds => if nodeOkV ns (i : Int) = true then (if nodeDeep ns ds i > 10 then none else some (ds ++ [nodeDeep ns ds i])) else none
theorem rd_app_lt (xs ys : List Int) (j : Nat) (h : j < xs.length) : rd (xs ++ ys) (j : Int) = rd xs (j : Int) := by
  rw [rd_nat _ j (by rw [List.length_append]; omega), rd_nat xs j h, List.getElem_append_left h]
theorem rd_app_at (xs : List Int) (v : Int) (i : Nat) (h : xs.length = i) : rd (xs ++ [v]) (i : Int) = v := by
  subst h
  rw [rd_nat _ _ (by rw [List.length_append, List.length_singleton]; omega)]
  simp
theorem deeps_is (ns : List NodeT) : ∀ (i : Nat) (ds : List Int), deeps ns i = some ds → ds.length = i ∧ ∀ j : Nat, j < i → 1 ≤ rd ds (j : Int) ∧ rd ds (j : Int) ≤ 10
  | 0, ds, h => by rw [deeps] at h; cases h; exact ⟨rfl, fun j hj => by omega⟩
  | i + 1, ds, h => by
    rw [deeps] at h
    cases e : deeps ns i with
    | none => rw [e] at h; cases h
    | some es =>
      rw [e] at h
      obtain ⟨hl, hb⟩ := deeps_is ns i es e
      simp only [] at h
      split at h
      · split at h
        · cases h
        · rename_i _ hD
          cases h
          have hg := kidsMax_ge es (rd_T52 ns (i : Int)).f3 (rd_T52 ns (i : Int)).f3.length 0 1
          refine ⟨by rw [List.length_append, List.length_singleton]; omega, fun j hj => ?_⟩
          by_cases c : j = i
          · subst c
            rw [rd_app_at es _ j hl]
            unfold nodeDeep at hD ⊢
            omega
          · rw [rd_app_lt es _ j (by omega)]; exact hb j (by omega)
      · cases h
theorem deeps_none (ns : List NodeT) (i : Nat) (h : deeps ns i = none) : ∀ d : Nat, deeps ns (i + d) = none
  | 0 => h
  | d + 1 => by rw [← Nat.add_assoc, deeps, deeps_none ns i h d]
theorem w_kid (x : Int) (h0 : 1 ≤ x) (h1 : x ≤ 10) : wrap64 (x + 1) = x + 1 := b_w64 (by omega) (by omega)
theorem impl_depths_l1 (ns : List NodeT) (a : Int) (ds : List Int) (i : Nat) (hd : ds.length = i) (hb : ∀ j : Nat, j < i → 1 ≤ rd ds (j : Int) ∧ rd ds (j : Int) ≤ 10) (kids : List Int) (hk : kids.length ≤ 1048576)
    (hkk : ∀ q : Nat, q < kids.length → 0 ≤ rd kids (q : Int) ∧ rd kids (q : Int) ≤ (i : Int) - 1) (R : List Int × Bool) :
    ∀ (n p : Nat) (d : Int), kids.length - p = n → p ≤ kids.length →
    Ev (fun k => if kidsMax ds kids n p d > 10 then (some (([] : List Int), false)) else (if ds.length < 17592186044416 then (impl_depths.l0 k ns a (ds ++ [kidsMax ds kids n p d]) (wrap64 ((i : Int) + 1))) else (none))) R →
    Ev (fun k => impl_depths.l1 k ns a ds (i : Int) d kids (kids.length : Int) (p : Int)) R
  | 0, p, d, hn, hp, H => by
    refine ev_s1 H fun k h => ?_
    rw [impl_depths.l1, if_neg (by omega)]
    exact h
  | n + 1, p, d, hn, hp, H => by
    have q1 : (p : Int) < (kids.length : Int) := by omega
    have q2 : (0 : Int) ≤ (p : Int) := by omega
    obtain ⟨k1, k2⟩ := hkk p (by omega)
    obtain ⟨m, hm⟩ := Int.eq_ofNat_of_zero_le k1
    obtain ⟨b1, b2⟩ := hb m (by omega)
    have q3 : rd kids (p : Int) < (ds.length : Int) := by omega
    have r1 : kids.length - (p + 1) = n := by omega
    have r2 : p + 1 ≤ kids.length := by omega
    have w1 : wrap64 (rd ds (rd kids (p : Int)) + 1) = rd ds (rd kids (p : Int)) + 1 := by rw [hm]; exact w_kid _ b1 b2
    have w2 : wrap64 ((p : Int) + 1) = ((p + 1 : Nat) : Int) := w_succ (by omega)
    have e : mx d (rd ds (rd kids (p : Int)) + 1) = (if rd ds (rd kids (p : Int)) + 1 > d then rd ds (rd kids (p : Int)) + 1 else d) := by
      unfold mx; by_cases c : d < rd ds (rd kids (p : Int)) + 1
      · rw [if_pos c]
      · rw [if_neg c]
    refine ev_s1 (impl_depths_l1 ns a ds i hd hb kids hk hkk R n (p + 1) (if rd ds (rd kids (p : Int)) + 1 > d then rd ds (rd kids (p : Int)) + 1 else d) r1 r2 H) fun k h => ?_
    rw [impl_depths.l1, if_pos q1, if_pos q2, if_pos q1, if_pos k1, if_pos q3, w1, w2, e]
    exact h
def depthsV (ns : List NodeT) (i : Nat) : List Int × Bool := match deeps ns i with | some l => (l, true) | none => ([], false)
theorem impl_depths_l0 (ns : List NodeT) (hn : ns.length ≤ 1048576) (hk : ∀ x ∈ ns, nodeSm x) (a : Nat) (ha : a < ns.length) : ∀ (d i : Nat) (ds : List Int), i + d = a + 1 → deeps ns i = some ds →
    Ev (fun k => impl_depths.l0 k ns (a : Int) ds (i : Int)) (depthsV ns (a + 1))
  | 0, i, ds, h, e => by
    refine ev_s0 fun k => ?_
    obtain rfl : i = a + 1 := by omega
    rw [impl_depths.l0, if_neg (by omega), depthsV, e]
  | d + 1, i, ds, h, e => by
    have q1 : (i : Int) ≤ (a : Int) := by omega
    have q2 : (0 : Int) ≤ (i : Int) := by omega
    have hi : i < ns.length := by omega
    have q3 : (i : Int) < (ns.length : Int) := by omega
    obtain ⟨hl, hb⟩ := deeps_is ns i ds e
    have hN := impl_NodeOk_ev ns hn hk (i : Int)
    cases ok : nodeOkV ns (i : Int) with
    | false =>
      rw [ok] at hN
      have hz : deeps ns (i + 1) = none := by rw [deeps, e]; simp [ok]
      have hz2 := deeps_none ns (i + 1) hz d
      rw [show i + 1 + d = a + 1 by omega] at hz2
      refine ev_s1 hN fun k h1 => ?_
      rw [impl_depths.l0, if_pos q1, h1, Option.bind_some, if_neg (by decide), depthsV, hz2]
    | true =>
      rw [ok] at hN
      have hkk := nodeOkV_kids ns i ok
      have hkl : (rd_T52 ns (i : Int)).f3.length ≤ 1048576 := by rw [rdNT_nat ns i hi]; exact (hk _ (List.getElem_mem hi)).2
      have H : Ev (fun k => impl_depths.l1 k ns (a : Int) ds (i : Int) 1 (rd_T52 ns (i : Int)).f3 ((rd_T52 ns (i : Int)).f3.length : Int) ((0 : Nat) : Int)) (depthsV ns (a + 1)) := by
        refine impl_depths_l1 ns a ds i hl hb _ hkl hkk _ (rd_T52 ns (i : Int)).f3.length 0 1 rfl (by omega) ?_
        by_cases c : nodeDeep ns ds i > 10
        · have hz : deeps ns (i + 1) = none := by rw [deeps, e]; simp [ok, c]
          have hz2 := deeps_none ns (i + 1) hz d
          rw [show i + 1 + d = a + 1 by omega] at hz2
          refine ev_a0 fun k => ?_
          unfold nodeDeep at c
          rw [if_pos c, depthsV, hz2]
        · have hz : deeps ns (i + 1) = some (ds ++ [nodeDeep ns ds i]) := by rw [deeps, e]; simp [ok, c]
          refine ev_a1 (impl_depths_l0 ns hn hk a ha d (i + 1) _ (by omega) hz) fun k h1 => ?_
          unfold nodeDeep at c h1
          rw [if_neg c, if_pos (by omega), w_succ (by omega)]
          exact h1
      refine ev_s2 hN H fun k h1 h2 => ?_
      rw [impl_depths.l0, if_pos q1, h1, Option.bind_some, if_pos rfl, if_pos q2, if_pos q3]
      exact h2
def deepV (ns : List NodeT) (a : Int) : Int := if inB a 0 ((ns.length : Int) - 1) = true then (match deeps ns (a.toNat + 1) with | some l => rd l a | none => 0) else 0
theorem impl_DeepOf_ev (ns : List NodeT) (hn : ns.length ≤ 1048576) (hk : ∀ x ∈ ns, nodeSm x) (a : Int) : Ev (fun k => impl_DeepOf.f k ns a) (deepV ns a) := by
  have w1 : wrap64 ((ns.length : Int) - 1) = (ns.length : Int) - 1 := b_w64 (by omega) (by omega)
  by_cases ha : 0 ≤ a ∧ a ≤ (ns.length : Int) - 1
  · obtain ⟨i, rfl⟩ := Int.eq_ofNat_of_zero_le ha.1
    refine ev_a1 (impl_depths_l0 ns hn hk i (by omega) (i + 1) 0 [] (by omega) rfl) fun k h => ?_
    have h' : impl_depths.l0 k ns (i : Int) [] 0 = some (depthsV ns (i + 1)) := h
    have q1 : (0 : Int) ≤ (i : Int) := by omega
    rw [impl_DeepOf.f, impl_depths.f, w1, impl_in_is, Option.bind_some, decide_eq_true ha, if_pos rfl, h', Option.bind_some, deepV, inB, decide_eq_true ha, if_pos rfl, Int.toNat_natCast, depthsV]
    cases e : deeps ns (i + 1) with
    | none => simp
    | some l =>
      have hl := (deeps_is ns _ l e).1
      simp only [if_true]
      rw [if_pos q1, if_pos (by omega)]
  · refine ev_a0 fun k => ?_
    rw [impl_DeepOf.f, impl_depths.f, w1, impl_in_is, Option.bind_some, decide_eq_false ha, if_neg (by decide), Option.bind_some, deepV, inB, decide_eq_false ha]
    simp
def specL (ns : List NodeT) : Nat → List Int
  | 0 => []
  | i + 1 => match deeps ns (i + 1) with | some ds => ds | none => specL ns i ++ [0]
theorem specL_some (ns : List NodeT) (i : Nat) (ds : List Int) (h : deeps ns i = some ds) : specL ns i = ds := by
  cases i with
  | zero => rw [deeps] at h; cases h; rfl
  | succ i => rw [specL, h]
theorem specL_len (ns : List NodeT) : ∀ i : Nat, (specL ns i).length = i
  | 0 => rfl
  | i + 1 => by
    rw [specL]
    cases e : deeps ns (i + 1) with
    | some ds => exact (deeps_is ns _ ds e).1
    | none => simp only [List.length_append, List.length_singleton, specL_len ns i]
theorem specL_zero (ns : List NodeT) (i : Nat) (h : deeps ns (i + 1) = none) : rd (specL ns (i + 1)) (i : Int) = 0 := by
  rw [specL, h]
  exact rd_app_at _ 0 i (specL_len ns i)
theorem spec_deeps_l1 (ns : List NodeT) (a : Int) (ds : List Int) (i : Nat) (hi : i < ns.length) (hd : ds.length = i) (hb : ∀ j : Nat, j < i → 1 ≤ rd ds (j : Int) ∧ rd ds (j : Int) ≤ 10) (kids : List Int) (hK : (rd_T52 ns (i : Int)).f3 = kids) (hk : kids.length ≤ 1048576)
    (hkk : ∀ q : Nat, q < kids.length → 0 ≤ rd kids (q : Int) ∧ rd kids (q : Int) ≤ (i : Int) - 1) (R : List Int) :
    ∀ (n p : Nat) (d : Int), kids.length - p = n → p ≤ kids.length → 1 ≤ d →
    Ev (fun k => if kidsMax ds kids n p d > 10 then (if ds.length < 17592186044416 then (spec_l04Deeps.l0 k ns a (ds ++ [0]) (wrap64 ((i : Int) + 1))) else (none)) else (if ds.length < 17592186044416 then (spec_l04Deeps.l0 k ns a (ds ++ [kidsMax ds kids n p d]) (wrap64 ((i : Int) + 1))) else (none))) R →
    Ev (fun k => spec_l04Deeps.l1 k ns a ds (i : Int) d (p : Int)) R
  | 0, p, d, hn, hp, h1d, H => by
    have q1 : (0 : Int) ≤ (i : Int) := by omega
    have q2 : (i : Int) < (ns.length : Int) := by omega
    have H2 : Ev (fun k => spec_l04Deeps.j5 k ns a ds (i : Int) d (p : Int) false) R := ev_s1 H fun k h => by
      rw [spec_l04Deeps.j5, if_neg (by decide)]; exact h
    refine ev_s1 H2 fun k h => ?_
    rw [spec_l04Deeps.l1, if_pos (by omega), if_pos q1, if_pos q2, hK, decide_eq_false (by omega)]
    exact h
  | n + 1, p, d, hn, hp, h1d, H => by
    have q1 : (0 : Int) ≤ (i : Int) := by omega
    have q2 : (i : Int) < (ns.length : Int) := by omega
    have q3 : (p : Int) < (kids.length : Int) := by omega
    have q4 : (0 : Int) ≤ (p : Int) := by omega
    obtain ⟨k1, k2⟩ := hkk p (by omega)
    obtain ⟨m, hm⟩ := Int.eq_ofNat_of_zero_le k1
    obtain ⟨b1, b2⟩ := hb m (by omega)
    have q5 : rd kids (p : Int) < (ds.length : Int) := by omega
    have r1 : kids.length - (p + 1) = n := by omega
    have r2 : p + 1 ≤ kids.length := by omega
    have hge : 1 ≤ (if rd ds (rd kids (p : Int)) + 1 > d then rd ds (rd kids (p : Int)) + 1 else d) := by split <;> omega
    have q0 : d > 0 := by omega
    have w1 : wrap64 (rd ds (rd kids (p : Int)) + 1) = rd ds (rd kids (p : Int)) + 1 := by rw [hm]; exact w_kid _ b1 b2
    have w2 : wrap64 ((p : Int) + 1) = ((p + 1 : Nat) : Int) := w_succ (by omega)
    have ih := spec_deeps_l1 ns a ds i hi hd hb kids hK hk hkk R n (p + 1) (if rd ds (rd kids (p : Int)) + 1 > d then rd ds (rd kids (p : Int)) + 1 else d) r1 r2 hge H
    have H2 : Ev (fun k => spec_l04Deeps.j5 k ns a ds (i : Int) d (p : Int) true) R := ev_s1 ih fun k h => by
      rw [spec_l04Deeps.j5, if_pos rfl, if_pos q1, if_pos q2, hK, if_pos q4, if_pos q3, if_pos k1, if_pos q5, w1, w2]
      by_cases c : rd ds (rd kids (p : Int)) + 1 > d
      · rw [if_pos c] at h ⊢; exact h
      · rw [if_neg c] at h ⊢; exact h
    refine ev_s1 H2 fun k h => ?_
    rw [spec_l04Deeps.l1, if_pos q0, if_pos q1, if_pos q2, hK, decide_eq_true q3]
    exact h
theorem spec_deeps_zero (ns : List NodeT) (a : Int) (l : List Int) (i : Nat) (hi : i < 1048576) (hl : l.length = i) (R : List Int) (H : Ev (fun k => spec_l04Deeps.l0 k ns a (l ++ [0]) ((i + 1 : Nat) : Int)) R) (d : Int) : Ev (fun k => spec_l04Deeps.j2 k ns a l (i : Int) d true) R := by
  have h5 : Ev (fun k => spec_l04Deeps.j5 k ns a l (i : Int) 0 0 false) R := ev_s1 H fun k h => by
    rw [spec_l04Deeps.j5, if_neg (by decide), if_neg (by decide), if_pos (by omega), w_succ (by omega)]; exact h
  have h1 : Ev (fun k => spec_l04Deeps.l1 k ns a l (i : Int) 0 0) R := ev_s1 h5 fun k h => by rw [spec_l04Deeps.l1, if_neg (by decide)]; exact h
  have h3 : Ev (fun k => spec_l04Deeps.j3 k ns a l (i : Int) 0) R := ev_s1 h1 fun k h => by rw [spec_l04Deeps.j3]; exact h
  exact ev_s1 h3 fun k h => by rw [spec_l04Deeps.j2, if_pos rfl]; exact h
theorem spec_deeps_l0 (ns : List NodeT) (hn : ns.length ≤ 1048576) (hk : ∀ x ∈ ns, nodeSm x) (a : Nat) (ha : a < ns.length) : ∀ (d i : Nat), i + d = a + 1 →
    Ev (fun k => spec_l04Deeps.l0 k ns (a : Int) (specL ns i) (i : Int)) (specL ns (a + 1))
  | 0, i, h => by
    obtain rfl : i = a + 1 := by omega
    have h1 : Ev (fun k => spec_l04Deeps.j1 k ns (a : Int) (specL ns (a + 1)) ((a + 1 : Nat) : Int) false) (specL ns (a + 1)) := ev_s0 fun k => by rw [spec_l04Deeps.j1, if_neg (by decide)]
    refine ev_s1 h1 fun k h => ?_
    rw [spec_l04Deeps.l0, if_neg (by omega)]; exact h
  | d + 1, i, h => by
    have q1 : (i : Int) ≤ (a : Int) := by omega
    have hi : i < ns.length := by omega
    have q3 : (i : Int) < (ns.length : Int) := by omega
    have ih := spec_deeps_l0 ns hn hk a ha d (i + 1) (by omega)
    have hl := specL_len ns i
    have hN := spec_NodeOk_ev ns hn hk (i : Int)
    have H1 : Ev (fun k => spec_l04Deeps.j1 k ns (a : Int) (specL ns i) (i : Int) true) (specL ns (a + 1)) := by
      cases ok : nodeOkV ns (i : Int) with
      | false =>
        have hz : deeps ns (i + 1) = none := by
          rw [deeps]
          cases deeps ns i with
          | none => rfl
          | some ds => simp [ok]
        have e : specL ns (i + 1) = specL ns i ++ [0] := by rw [specL, hz]
        rw [ok] at hN
        rw [e] at ih
        refine ev_s2 hN (spec_deeps_zero ns a _ i (by omega) hl _ ih 1) fun k h1 h2 => ?_
        rw [spec_l04Deeps.j1, if_pos rfl, h1, Option.bind_some, if_neg (by decide)]
        exact h2
      | true =>
        rw [ok] at hN
        cases e : deeps ns i with
        | none =>
          have hz : deeps ns (i + 1) = none := by rw [deeps, e]
          have e2 : specL ns (i + 1) = specL ns i ++ [0] := by rw [specL, hz]
          rw [e2] at ih
          obtain ⟨j, rfl⟩ : ∃ j, i = j + 1 := ⟨i - 1, by cases i with | zero => rw [deeps] at e; cases e | succ j => omega⟩
          have z := specL_zero ns j e
          have w1 : wrap64 (((j + 1 : Nat) : Int) - 1) = (j : Int) := by rw [b_w64 (by omega) (by omega)]; omega
          refine ev_s2 hN (spec_deeps_zero ns a _ (j + 1) (by omega) hl _ ih 1) fun k h1 h2 => ?_
          rw [spec_l04Deeps.j1, if_pos rfl, h1, Option.bind_some, if_pos rfl, if_pos (by omega), w1, if_pos (by omega), if_pos (by rw [hl]; omega), z]
          exact h2
        | some ds =>
          obtain ⟨hdl, hdb⟩ := deeps_is ns i ds e
          have es := specL_some ns i ds e
          rw [es]
          have hkk := nodeOkV_kids ns i ok
          have hkl : (rd_T52 ns (i : Int)).f3.length ≤ 1048576 := by rw [rdNT_nat ns i hi]; exact (hk _ (List.getElem_mem hi)).2
          have hL : Ev (fun k => spec_l04Deeps.l1 k ns (a : Int) ds (i : Int) 1 ((0 : Nat) : Int)) (specL ns (a + 1)) := by
            refine spec_deeps_l1 ns a ds i hi hdl hdb _ rfl hkl hkk _ (rd_T52 ns (i : Int)).f3.length 0 1 rfl (by omega) (by omega) ?_
            by_cases c : nodeDeep ns ds i > 10
            · have hz : deeps ns (i + 1) = none := by rw [deeps, e]; simp [ok, c]
              have e2 : specL ns (i + 1) = ds ++ [0] := by rw [specL, hz, es]
              rw [e2] at ih
              refine ev_a1 ih fun k h1 => ?_
              unfold nodeDeep at c
              rw [if_pos c, if_pos (by omega), w_succ (by omega)]
              exact h1
            · have hz : deeps ns (i + 1) = some (ds ++ [nodeDeep ns ds i]) := by rw [deeps, e]; simp [ok, c]
              have e2 : specL ns (i + 1) = ds ++ [nodeDeep ns ds i] := by rw [specL, hz]
              rw [e2] at ih
              refine ev_a1 ih fun k h1 => ?_
              unfold nodeDeep at c h1
              rw [if_neg c, if_pos (by omega), w_succ (by omega)]
              exact h1
          have h3 : Ev (fun k => spec_l04Deeps.j3 k ns (a : Int) ds (i : Int) 1) (specL ns (a + 1)) := ev_s1 hL fun k h => by rw [spec_l04Deeps.j3]; exact h
          have h2 : Ev (fun k => spec_l04Deeps.j2 k ns (a : Int) ds (i : Int) 1 false) (specL ns (a + 1)) := ev_s1 h3 fun k h => by rw [spec_l04Deeps.j2, if_neg (by decide)]; exact h
          by_cases c : i = 0
          · refine ev_s2 hN h2 fun k h1 h2 => ?_
            rw [spec_l04Deeps.j1, if_pos rfl, h1, Option.bind_some, if_pos rfl, if_neg (by omega)]
            exact h2
          · have hb := hdb (i - 1) (by omega)
            have w1 : wrap64 ((i : Int) - 1) = ((i - 1 : Nat) : Int) := by rw [b_w64 (by omega) (by omega)]; omega
            refine ev_s2 hN h2 fun k h1 h2 => ?_
            rw [spec_l04Deeps.j1, if_pos rfl, h1, Option.bind_some, if_pos rfl, if_pos (by omega), w1, if_pos (by omega), if_pos (by rw [hdl]; omega), beq_eq_false_iff_ne.mpr (by omega)]
            exact h2
    refine ev_s1 H1 fun k h => ?_
    rw [spec_l04Deeps.l0, if_pos q1, decide_eq_true q3]
    exact h

theorem spec_DeepOf_ev (ns : List NodeT) (hn : ns.length ≤ 1048576) (hk : ∀ x ∈ ns, nodeSm x) (a : Int) : Ev (fun k => spec_DeepOf.f k ns a) (deepV ns a) := by
  have w1 : wrap64 ((ns.length : Int) - 1) = (ns.length : Int) - 1 := b_w64 (by omega) (by omega)
  by_cases ha : 0 ≤ a ∧ a ≤ (ns.length : Int) - 1
  · obtain ⟨i, rfl⟩ := Int.eq_ofNat_of_zero_le ha.1
    refine ev_a1 (spec_deeps_l0 ns hn hk i (by omega) (i + 1) 0 (by omega)) fun k h => ?_
    have h' : spec_l04Deeps.l0 k ns (i : Int) [] 0 = some (specL ns (i + 1)) := h
    have q1 : (0 : Int) ≤ (i : Int) := by omega
    have hl := specL_len ns (i + 1)
    rw [spec_DeepOf.f, w1, spec_in_is, Option.bind_some, decide_eq_true ha, if_pos rfl, spec_l04Deeps.f, h', Option.bind_some, if_pos q1, if_pos (by rw [hl]; omega), deepV, inB, decide_eq_true ha, if_pos rfl, Int.toNat_natCast]
    cases e : deeps ns (i + 1) with
    | none => rw [specL_zero ns i e]
    | some l => rw [specL_some ns _ l e]
  · refine ev_a0 fun k => ?_
    rw [spec_DeepOf.f, w1, spec_in_is, Option.bind_some, decide_eq_false ha, if_neg (by decide), deepV, inB, decide_eq_false ha]
    simp

abbrev ParL := S86
abbrev ParT := S84
def parOf (x : ParL) : ParT := ⟨x.f0, x.f1⟩
theorem rdPL_nat (xs : List ParL) (i : Nat) (h : i < xs.length) : rd_T86 xs (i : Int) = xs[i] := by
  unfold rd_T86
  exact getD_nat xs _ i h
theorem laws_szParam_or (x : ParL) (a : Int) (h0 : 0 ≤ a) (h1 : a ≤ 1048576) (w : x.f0.size ≤ maxLen) : ∃ r, laws_szParam.f x.f0 x.f1 a = some r ∧ (r < 0 ∨ (0 ≤ r ∧ r ≤ a)) := by
  rw [laws_szParam.f, sz_sub a _ h0 h1 w]
  by_cases c : a - (x.f0.size : Int) < 0
  · rw [if_pos c]; exact ⟨_, rfl, .inl (by omega)⟩
  · rw [if_neg c]; exact ⟨_, rfl, .inr ⟨by omega, by omega⟩⟩
theorem laws_szParamS_l0 (l : List ParL) (hl : l.length ≤ maxLen) (hw : ∀ x ∈ l, x.f0.size ≤ maxLen) : ∀ (d i : Nat) (a : Int), i + d = l.length → 0 ≤ a → a ≤ 1048576 →
    ∃ r, Ev (fun k => laws_szParamS.l0 k l a (i : Int)) r ∧ (r < 0 ∨ (0 ≤ r ∧ r ≤ a))
  | 0, i, a, h, h0, h1 => ⟨a, ev_s0 (fun k => by simp only [laws_szParamS.l0]; rw [if_neg (by omega)]), .inr ⟨h0, by omega⟩⟩
  | d + 1, i, a, h, h0, h1 => by
    have hi : i < l.length := by omega
    have hl' := hl
    unfold maxLen at hl'
    obtain ⟨r, e, hr⟩ := laws_szParam_or l[i] a h0 h1 (hw _ (List.getElem_mem hi))
    have q1 : (i : Int) < (l.length : Int) := by omega
    have q2 : (0 : Int) ≤ (i : Int) := by omega
    by_cases c : r < 0
    · exact ⟨-1, ev_s0 (fun k => by simp only [laws_szParamS.l0]; rw [if_pos q1, if_pos q2, rdPL_nat l i hi, e, Option.bind_some, if_pos c]), .inl (by omega)⟩
    · rcases hr with hr | hr
      · exact absurd hr c
      · obtain ⟨r2, E, h2⟩ := laws_szParamS_l0 l hl hw d (i + 1) r (by omega) hr.1 (by omega)
        refine ⟨r2, ev_s1 E (fun k e' => ?_), ?_⟩
        · simp only [laws_szParamS.l0]; rw [if_pos q1, if_pos q2, rdPL_nat l i hi, e, Option.bind_some, if_neg c, w_succ2 (by omega)]; exact e'
        · rcases h2 with h2 | h2
          · exact .inl h2
          · exact .inr ⟨h2.1, by omega⟩
theorem laws_szParamS_or (l : List ParL) (a : Int) (h0 : 0 ≤ a) (h1 : a ≤ 1048576) (hl : l.length ≤ maxLen) (hw : ∀ x ∈ l, x.f0.size ≤ maxLen) :
    ∃ r, Ev (fun k => laws_szParamS.f k l a) r ∧ (r < 0 ∨ (0 ≤ r ∧ r ≤ a ∧ l.length ≤ 1048576)) := by
  have e := sz_sub a _ h0 h1 hl
  by_cases c : a - (l.length : Int) < 0
  · exact ⟨-1, ev_a0 (fun k => by simp only [laws_szParamS.f]; rw [e, if_pos c]), .inl (by omega)⟩
  · obtain ⟨r, E, h⟩ := laws_szParamS_l0 l hl hw l.length 0 (a - (l.length : Int)) (by omega) (by omega) (by omega)
    refine ⟨r, ev_a1 E (fun k e' => by simp only [laws_szParamS.f]; rw [e, if_neg c]; exact e'), ?_⟩
    rcases h with h | h
    · exact .inl h
    · exact .inr ⟨h.1, by omega, by omega⟩
theorem laws_toParamS_l0 (l : List ParL) (hl : l.length ≤ 1048576) : ∀ (d i : Nat), i + d = l.length →
    Ev (fun k => laws_toParamS.l0 k l ((l.take i).map parOf ++ List.replicate (l.length - i) z84) (i : Int)) (l.map parOf)
  | 0, i, h => by
    refine ev_s0 (fun k => ?_)
    simp only [laws_toParamS.l0]
    rw [if_neg (by omega), show l.length - i = 0 by omega, show i = l.length by omega]; simp
  | d + 1, i, h => by
    have hi : i < l.length := by omega
    refine ev_s1 (laws_toParamS_l0 l hl d (i + 1) (by omega)) (fun k e => ?_)
    simp only [laws_toParamS.l0, laws_toParam.f, Option.bind_some]
    rw [if_pos (by omega), if_pos (by omega), if_pos (by simp; omega), Int.toNat_natCast, rdPL_nat l i hi, show (⟨l[i].f0, l[i].f1⟩ : ParT) = parOf l[i] from rfl, copy_step parOf l z84 i hi, w_succ (by omega)]
    exact e
theorem laws_toParamS_ev (l : List ParL) (hl : l.length ≤ 1048576) : Ev (fun k => laws_toParamS.f k l) (l.map parOf) := by
  refine ev_a1 (laws_toParamS_l0 l hl l.length 0 (by omega)) (fun k e => ?_)
  simp only [laws_toParamS.f]
  rw [if_pos (by omega), Int.toNat_natCast, if_pos (by omega)]
  simpa using e
theorem laws_eqParamS_l0 (a : List ParT) (hl : a.length ≤ 1048576) : ∀ (d i : Nat), i + d = a.length → Ev (fun k => laws_eqParamS.l0 k a a (i : Int)) true
  | 0, i, h => by
    refine ev_s0 (fun k => ?_)
    simp only [laws_eqParamS.l0]
    rw [if_neg (by omega)]
  | d + 1, i, h => by
    refine ev_s1 (laws_eqParamS_l0 a hl d (i + 1) (by omega)) (fun k e => ?_)
    simp only [laws_eqParamS.l0, laws_eqParam.f]
    rw [if_pos (by omega), if_pos (by omega), if_pos (by omega), w_succ (by omega)]
    simpa using e
theorem laws_eqParamS_ev (a : List ParT) (hl : a.length ≤ 1048576) : Ev (fun k => laws_eqParamS.f k a a) true := by
  refine ev_a1 (laws_eqParamS_l0 a hl a.length 0 (by omega)) (fun k e => ?_)
  simp only [laws_eqParamS.f, if_true]
  exact e
abbrev FnL := S64
abbrev FnT := S69
def fnOf (x : FnL) : FnT := ⟨x.f0, x.f1.map parOf, x.f2, x.f3, x.f4⟩
def fnWf (x : FnL) : Prop := x.f0.size ≤ maxLen ∧ x.f1.length ≤ maxLen ∧ ∀ y ∈ x.f1, y.f0.size ≤ maxLen
def fnSm (x : FnT) : Prop := x.f0.size ≤ 1048576 ∧ x.f1.length ≤ 1048576
theorem rdFL_nat (xs : List FnL) (i : Nat) (h : i < xs.length) : rd_T64 xs (i : Int) = xs[i] := by
  unfold rd_T64
  exact getD_nat xs _ i h
theorem rdFT_nat (xs : List FnT) (i : Nat) (h : i < xs.length) : rd_T69 xs (i : Int) = xs[i] := by
  unfold rd_T69
  exact getD_nat xs _ i h
theorem laws_szFn_or (x : FnL) (a : Int) (h0 : 0 ≤ a) (h1 : a ≤ 1048576) (w : fnWf x) : ∃ r, Ev (fun k => laws_szFn.f k x.f0 x.f1 x.f2 x.f3 x.f4 a) r ∧ (r < 0 ∨ (0 ≤ r ∧ r ≤ a ∧ fnSm (fnOf x))) := by
  have e := sz_sub a _ h0 h1 w.1
  by_cases c : a - (x.f0.size : Int) < 0
  · exact ⟨-1, ev_a0 (fun k => by simp only [laws_szFn.f]; rw [e, if_pos c]), .inl (by omega)⟩
  · obtain ⟨r, E, h⟩ := laws_szParamS_or x.f1 (a - (x.f0.size : Int)) (by omega) (by omega) w.2.1 w.2.2
    by_cases d : r < 0
    · exact ⟨-1, ev_a1 E (fun k e' => by simp only [laws_szFn.f]; rw [e, if_neg c, e', Option.bind_some, if_pos d]), .inl (by omega)⟩
    · rcases h with h | h
      · exact absurd h d
      · exact ⟨r, ev_a1 E (fun k e' => by simp only [laws_szFn.f]; rw [e, if_neg c, e', Option.bind_some, if_neg d]), .inr ⟨h.1, by omega, ⟨by show x.f0.size ≤ 1048576; omega, by show (x.f1.map parOf).length ≤ 1048576; rw [List.length_map]; exact h.2.2⟩⟩⟩
theorem laws_szFnS_l0 (l : List FnL) (hl : l.length ≤ maxLen) (hw : ∀ x ∈ l, fnWf x) : ∀ (d i : Nat) (a : Int), i + d = l.length → 0 ≤ a → a ≤ 1048576 →
    ∃ r, Ev (fun k => laws_szFnS.l0 k l a (i : Int)) r ∧ (r < 0 ∨ (0 ≤ r ∧ r ≤ a ∧ ∀ x ∈ l.drop i, fnSm (fnOf x)))
  | 0, i, a, h, h0, h1 => ⟨a, ev_s0 (fun k => by simp only [laws_szFnS.l0]; rw [if_neg (by omega)]), .inr ⟨h0, by omega, by rw [List.drop_eq_nil_of_le (by omega)]; simp⟩⟩
  | d + 1, i, a, h, h0, h1 => by
    have hi : i < l.length := by omega
    have hl' := hl
    unfold maxLen at hl'
    obtain ⟨r, e, hr⟩ := laws_szFn_or l[i] a h0 h1 (hw _ (List.getElem_mem hi))
    have q1 : (i : Int) < (l.length : Int) := by omega
    have q2 : (0 : Int) ≤ (i : Int) := by omega
    by_cases c : r < 0
    · exact ⟨-1, ev_s1 e (fun k e => by simp only [laws_szFnS.l0]; rw [if_pos q1, if_pos q2, rdFL_nat l i hi, e, Option.bind_some, if_pos c]), .inl (by omega)⟩
    · rcases hr with hr | hr
      · exact absurd hr c
      · obtain ⟨r2, E, h2⟩ := laws_szFnS_l0 l hl hw d (i + 1) r (by omega) hr.1 (by omega)
        refine ⟨r2, ev_s2 E e (fun k e' e => ?_), ?_⟩
        · simp only [laws_szFnS.l0]; rw [if_pos q1, if_pos q2, rdFL_nat l i hi, e, Option.bind_some, if_neg c, w_succ2 (by omega)]; exact e'
        · rcases h2 with h2 | h2
          · exact .inl h2
          · refine .inr ⟨h2.1, by omega, ?_⟩
            rw [List.drop_eq_getElem_cons hi]
            intro x hx
            rcases List.mem_cons.mp hx with hx | hx
            · rw [hx]; exact hr.2.2
            · exact h2.2.2 x hx
theorem laws_szFnS_or (l : List FnL) (a : Int) (h0 : 0 ≤ a) (h1 : a ≤ 1048576) (hl : l.length ≤ maxLen) (hw : ∀ x ∈ l, fnWf x) :
    ∃ r, Ev (fun k => laws_szFnS.f k l a) r ∧ (r < 0 ∨ (0 ≤ r ∧ r ≤ a ∧ l.length ≤ 1048576 ∧ ∀ x ∈ l, fnSm (fnOf x))) := by
  have e := sz_sub a _ h0 h1 hl
  by_cases c : a - (l.length : Int) < 0
  · exact ⟨-1, ev_a0 (fun k => by simp only [laws_szFnS.f]; rw [e, if_pos c]), .inl (by omega)⟩
  · obtain ⟨r, E, h⟩ := laws_szFnS_l0 l hl hw l.length 0 (a - (l.length : Int)) (by omega) (by omega) (by omega)
    refine ⟨r, ev_a1 E (fun k e' => by simp only [laws_szFnS.f]; rw [e, if_neg c]; exact e'), ?_⟩
    rcases h with h | h
    · exact .inl h
    · exact .inr ⟨h.1, by omega, by omega, fun x hx => h.2.2 x (by simpa using hx)⟩
theorem laws_toFnS_l0 (l : List FnL) (hl : l.length ≤ 1048576) (hk : ∀ x ∈ l, fnSm (fnOf x)) : ∀ (d i : Nat), i + d = l.length →
    Ev (fun k => laws_toFnS.l0 k l ((l.take i).map fnOf ++ List.replicate (l.length - i) z69) (i : Int)) (l.map fnOf)
  | 0, i, h => by
    refine ev_s0 (fun k => ?_)
    simp only [laws_toFnS.l0]
    rw [if_neg (by omega), show l.length - i = 0 by omega, show i = l.length by omega]; simp
  | d + 1, i, h => by
    have hi : i < l.length := by omega
    have hp : l[i].f1.length ≤ 1048576 := by
      have := (hk _ (List.getElem_mem hi)).2
      have e : (fnOf l[i]).f1.length = l[i].f1.length := by simp [fnOf]
      omega
    refine ev_s2 (laws_toFnS_l0 l hl hk d (i + 1) (by omega)) (laws_toParamS_ev l[i].f1 hp) (fun k e e2 => ?_)
    simp only [laws_toFnS.l0, laws_toFn.f]
    rw [if_pos (by omega), if_pos (by omega), rdFL_nat l i hi, e2]
    simp only [Option.bind_some]
    rw [if_pos (by simp; omega), Int.toNat_natCast, show (⟨l[i].f0, l[i].f1.map parOf, l[i].f2, l[i].f3, l[i].f4⟩ : FnT) = fnOf l[i] from rfl, copy_step fnOf l z69 i hi, w_succ (by omega)]
    exact e
theorem laws_toFnS_ev (l : List FnL) (hl : l.length ≤ 1048576) (hk : ∀ x ∈ l, fnSm (fnOf x)) : Ev (fun k => laws_toFnS.f k l) (l.map fnOf) := by
  refine ev_a1 (laws_toFnS_l0 l hl hk l.length 0 (by omega)) (fun k e => ?_)
  simp only [laws_toFnS.f]
  rw [if_pos (by omega), Int.toNat_natCast, if_pos (by omega)]
  simpa using e
theorem laws_eqFnS_l0 (a : List FnT) (hl : a.length ≤ 1048576) (hk : ∀ x ∈ a, fnSm x) : ∀ (d i : Nat), i + d = a.length → Ev (fun k => laws_eqFnS.l0 k a a (i : Int)) true
  | 0, i, h => by
    refine ev_s0 (fun k => ?_)
    simp only [laws_eqFnS.l0]
    rw [if_neg (by omega)]
  | d + 1, i, h => by
    have hi : i < a.length := by omega
    refine ev_s2 (laws_eqFnS_l0 a hl hk d (i + 1) (by omega)) (laws_eqParamS_ev a[i].f1 (hk _ (List.getElem_mem hi)).2) (fun k e e2 => ?_)
    simp only [laws_eqFnS.l0, laws_eqFn.f, if_true]
    rw [if_pos (by omega), if_pos (by omega), if_pos (by omega), rdFT_nat a i hi, e2]
    simp only [Option.bind_some, if_true]
    rw [w_succ (by omega)]
    exact e
theorem laws_eqFnS_ev (a : List FnT) (hl : a.length ≤ 1048576) (hk : ∀ x ∈ a, fnSm x) : Ev (fun k => laws_eqFnS.f k a a) true := by
  refine ev_a1 (laws_eqFnS_l0 a hl hk a.length 0 (by omega)) (fun k e => ?_)
  simp only [laws_eqFnS.f, if_true]
  exact e

theorem copyNodes_l0 (l : List NodeT) (hl : l.length ≤ 1048576) (hk : ∀ x ∈ l, nodeSm x) : ∀ (d i : Nat), i + d = l.length → Ev (fun k => impl_copyNodes.l0 k (l.take i) l (l.length : Int) (i : Int)) l
  | 0, i, hi => by
    refine ev_s0 (fun k => ?_)
    simp only [impl_copyNodes.l0]
    rw [if_neg (by omega), List.take_of_length_le (by omega)]
  | d + 1, i, hi => by
    have hil : i < l.length := by omega
    have ih := copyNodes_l0 l hl hk d (i + 1) (by omega)
    refine ev_s1 ih (fun k e => ?_)
    have h3 := (hk _ (List.getElem_mem hil)).2
    simp only [impl_copyNodes.l0, impl_copyInts.f]
    rw [if_pos (by omega), if_pos (by omega), if_pos (by omega), rdNT_nat l i hil]
    rw [if_pos (by rw [List.length_nil]; omega), Option.bind_some, if_pos (by rw [List.length_take]; omega), show wrap64 ((i : Int) + 1) = ((i + 1 : Nat) : Int) by unfold wrap64; omega]
    rw [b_list_take_succ l i hil] at e
    exact e
theorem copyNodes_ev (l : List NodeT) (hl : l.length ≤ 1048576) (hk : ∀ x ∈ l, nodeSm x) : Ev (fun k => impl_copyNodes.f k l) l := by
  have := copyNodes_l0 l hl hk l.length 0 (by omega)
  simpa [impl_copyNodes.f] using this
theorem l04Nodes_l0 (l : List NodeT) (hl : l.length ≤ 1048576) (hk : ∀ x ∈ l, nodeSm x) : ∀ (d i : Nat), i + d = l.length → Ev (fun k => spec_l04Nodes.l0 k l (l.take i) (i : Int)) l
  | 0, i, hi => by
    refine ev_s0 (fun k => ?_)
    simp only [spec_l04Nodes.l0]
    rw [if_neg (by omega), List.take_of_length_le (by omega)]
  | d + 1, i, hi => by
    have hil : i < l.length := by omega
    have ih := l04Nodes_l0 l hl hk d (i + 1) (by omega)
    refine ev_s1 ih (fun k e => ?_)
    have h3 := (hk _ (List.getElem_mem hil)).2
    simp only [spec_l04Nodes.l0]
    rw [if_pos (by omega), if_pos (by omega), Option.bind_some, rdNT_nat l i hil]
    rw [if_pos (by rw [List.length_nil]; omega), if_pos (by rw [List.length_take]; omega), show wrap64 ((i : Int) + 1) = ((i + 1 : Nat) : Int) by unfold wrap64; omega]
    rw [b_list_take_succ l i hil] at e
    exact e
theorem l04Nodes_ev (l : List NodeT) (hl : l.length ≤ 1048576) (hk : ∀ x ∈ l, nodeSm x) : Ev (fun k => spec_l04Nodes.f k l) l := by
  have := l04Nodes_l0 l hl hk l.length 0 (by omega)
  simpa [spec_l04Nodes.f] using this
theorem pkI_kids_sm (f : Int → List NodeT → Bool → Int × List NodeT × Bool) (hf : ∀ a t, (∀ x ∈ t, nodeSm x) → ∀ x ∈ (f a t false).2.1, nodeSm x) : ∀ (cs : List Int) (t : List NodeT) (out : List Int), (∀ x ∈ t, nodeSm x) →
    (∀ x ∈ (pkI_kids f cs t out).1, nodeSm x) ∧ (pkI_kids f cs t out).2.2.length ≤ out.length + cs.length
  | [], t, out, h => ⟨h, Nat.le_refl _⟩
  | c :: r, t, out, h => by
    rw [pkI_kids]
    by_cases q : (f c t false).2.2 = true
    · rw [if_pos q]
      exact ⟨hf c t h, by simp⟩
    · rw [if_neg q]
      have h2 := pkI_kids_sm f hf r (f c t false).2.1 (out ++ [(f c t false).1]) (hf c t h)
      refine ⟨h2.1, ?_⟩
      have := h2.2
      rw [List.length_append, List.length_singleton] at this
      rw [List.length_cons]
      omega
theorem pkI_sm (ns : List NodeT) (hn : ∀ x ∈ ns, nodeSm x) : ∀ (K : Nat) (a : Int) (t : List NodeT) (b : Bool), (∀ x ∈ t, nodeSm x) → ∀ x ∈ (pkI_put ns K a t b).2.1, nodeSm x
  | 0, a, t, b, h => h
  | K + 1, a, t, b, h => by
    rw [pkI_put]
    by_cases q : b = true ∨ ¬ (0 ≤ a ∧ a < (ns.length : Int)) ∨ 300 ≤ t.length
    · rw [if_pos q]; exact h
    · rw [if_neg q]
      have hk := pkI_kids_sm (pkI_put ns K) (fun a t h => pkI_sm ns hn K a t false h) (rd_T52 ns a).f3 t [] h
      by_cases q2 : (pkI_kids (pkI_put ns K) (rd_T52 ns a).f3 t []).2.1 = true ∨ 300 ≤ (pkI_kids (pkI_put ns K) (rd_T52 ns a).f3 t []).1.length
      · rw [if_pos q2]; exact hk.1
      · rw [if_neg q2]
        intro x hx
        rcases List.mem_append.1 hx with hx | hx
        · exact hk.1 x hx
        · have ha : 0 ≤ a ∧ a < (ns.length : Int) := Classical.byContradiction fun h => q (.inr (.inl h))
          have hm := hn _ (List.getElem_mem (show a.toNat < ns.length by omega))
          have hr : rd_T52 ns a = ns[a.toNat]'(by omega) := by
            have := rdNT_nat ns a.toNat (by omega)
            rwa [Int.toNat_of_nonneg ha.1] at this
          rw [List.mem_singleton.1 hx]
          refine ⟨?_, ?_⟩
          · show (rd_T52 ns a).f2.size ≤ 1048576
            rw [hr]; exact hm.1
          · have := hk.2
            rw [List.length_nil] at this
            have h3 : (rd_T52 ns a).f3.length ≤ 1048576 := by rw [hr]; exact hm.2
            show (pkI_kids (pkI_put ns K) (rd_T52 ns a).f3 t []).2.2.length ≤ 1048576
            omega
/-- What CopyNodes hands back, on both sides. -/
def copyV (P : List NodeT) (a : Int) (l : List NodeT) : List NodeT × Int := if deepV P a = 0 ∨ 300 < l.length then (l, -1) else if (pkI_put P 10 a l false).2.2 = true then (l, -1) else ((pkI_put P 10 a l false).2.1, (pkI_put P 10 a l false).1)
theorem copyV_sm (P l : List NodeT) (a : Int) (hP : ∀ x ∈ P, nodeSm x) (hl : l.length ≤ 1048576) (hk : ∀ x ∈ l, nodeSm x) : (copyV P a l).1.length ≤ 1048576 ∧ ∀ x ∈ (copyV P a l).1, nodeSm x := by
  unfold copyV
  by_cases c : deepV P a = 0 ∨ 300 < l.length
  · rw [if_pos c]; exact ⟨hl, hk⟩
  · rw [if_neg c]
    by_cases d : (pkI_put P 10 a l false).2.2 = true
    · rw [if_pos d]; exact ⟨hl, hk⟩
    · rw [if_neg d]
      have h1 := (pkI_good P 10 a l false).resolve_left d
      exact ⟨by show (pkI_put P 10 a l false).2.1.length ≤ 1048576; omega, pkI_sm P hP 10 a l false hk⟩
theorem impl_CopyNodes_ev (P : List NodeT) (F : List FnT) (l : List NodeT) (a : Int) (hPl : P.length ≤ 1048576) (hP : ∀ x ∈ P, nodeSm x) (hl : l.length ≤ 1048576) (hk : ∀ x ∈ l, nodeSm x) : Ev (fun k => impl_CopyNodes.f k P F a l) (copyV P a l) := by
  refine ev_a2 (copyNodes_ev l hl hk) (impl_DeepOf_ev P hPl hP a) (fun k e1 e2 => ?_)
  simp only [impl_CopyNodes.f, e1, e2, Option.bind_some, copyV]
  by_cases c : deepV P a = 0
  · have hb : pkI_put P 10 a l (deepV P a == 0) = (-1, l, true) := by rw [pkI_put, if_pos (.inl (beq_iff_eq.2 c))]
    rw [hb, if_pos rfl, if_pos (.inl c)]
  · rw [beq_eq_false_iff_ne.2 c]
    by_cases d : 300 < l.length
    · have hb : pkI_put P 10 a l false = (-1, l, true) := by rw [pkI_put, if_pos (.inr (.inr (Nat.le_of_lt d)))]
      rw [hb, if_pos rfl, if_pos (.inr d)]
    · rw [if_neg (show ¬ (deepV P a = 0 ∨ 300 < l.length) from fun h => h.elim c d)]
      by_cases q : (pkI_put P 10 a l false).2.2 = true
      · rw [if_pos q, if_pos q]
      · rw [if_neg q, if_neg q]
theorem spec_CopyNodes_ev (P : List NodeT) (F : List FnT) (l : List NodeT) (a : Int) (hPl : P.length ≤ 1048576) (hP : ∀ x ∈ P, nodeSm x) (hl : l.length ≤ 1048576) (hk : ∀ x ∈ l, nodeSm x) : Ev (fun k => spec_CopyNodes.f k P F a l) (copyV P a l) := by
  refine ev_a2 (l04Nodes_ev l hl hk) (spec_DeepOf_ev P hPl hP a) (fun k e1 e2 => ?_)
  simp only [spec_CopyNodes.f, e1, e2, Option.bind_some, copyV]
  by_cases c : deepV P a = 0 ∨ 300 < l.length
  · rw [if_pos c, if_pos c]
  · rw [if_neg c, if_neg c]
    rcases pk_rel P 10 a l (Nat.le_of_not_lt fun h => c (.inr h)) with ⟨h1, h2⟩ | ⟨h1, h2, h3⟩
    · rw [if_pos h1, if_pos h2]
    · rw [h2, if_neg (show ¬ ((pkI_put P 10 a l false).2.2 = true ∨ 300 < (pkI_put P 10 a l false).2.1.length) by rw [h1]; rintro (h | h); · cases h
                                                                                                                  · omega), if_neg (by rw [h1]; decide)]

theorem rd_cons_nat (a : Int) (l : List Int) (i : Nat) : rd (a :: l) ((i + 1 : Nat) : Int) = rd l (i : Int) := by
  unfold rd; rw [Int.toNat_natCast, Int.toNat_natCast, List.getD_cons_succ]
theorem mk_ints_rd : ∀ (n i : Nat) (a : Int), i < n → rd (mk_ints a n) (i : Int) = a + i
  | 0, i, a, h => absurd h (Nat.not_lt_zero i)
  | n + 1, 0, a, h => by
    rw [mk_ints]
    show a = _
    omega
  | n + 1, i + 1, a, h => by
    rw [mk_ints, rd_cons_nat, mk_ints_rd n i (a + 1) (by omega)]
    omega
theorem heldInts_l0 (a : Int) (n : Nat) (h0 : 0 ≤ a) (h : a + n < 4611686018427387904) : ∀ (d i : Nat), i + d = n → Ev (fun k => laws_heldIntS.l0 k (mk_ints a n) (a + i) (i : Int)) (a + n)
  | 0, i, hi => by
    refine ev_s0 (fun k => ?_)
    simp only [laws_heldIntS.l0, mk_ints_len]
    rw [if_neg (by omega), show i = n by omega]
  | d + 1, i, hi => by
    have ih := heldInts_l0 a n h0 h d (i + 1) (by omega)
    refine ev_s1 ih (fun k e => ?_)
    simp only [laws_heldIntS.l0, mk_ints_len]
    rw [if_pos (by omega), if_pos (by omega), mk_ints_rd n i a (by omega), if_pos rfl, show wrap64 (a + (i : Int) + 1) = a + ((i + 1 : Nat) : Int) by unfold wrap64; omega, show wrap64 ((i : Int) + 1) = ((i + 1 : Nat) : Int) by unfold wrap64; omega]
    exact e
theorem heldInts_ev (a : Int) (n : Nat) (h0 : 0 ≤ a) (h : a + n < 4611686018427387904) : Ev (fun k => laws_heldIntS.f k (mk_ints a n) a) (a + n) := by
  have := heldInts_l0 a n h0 h n 0 (by omega)
  simpa [laws_heldIntS.f] using this
theorem text_ev (a : Int) (h : a < 4611686018427387904) : Ev (fun k => laws_markText.f k a) (mk_text a) := by
  refine ⟨21, fun k hk => ?_⟩
  have := mkk_le_ev (F := fun k => laws_markText.f k a) (laws_markText.mono a) (mk_text_some a h) (k - 21)
  try dsimp only at this
  rwa [show 21 + (k - 21) = k by omega] at this
theorem heldNodes_l0 (a : Int) (l : List NodeT) (h0 : 0 ≤ a) (h : a + (mkk_nodesSum l : Nat) < 4611686018427387904) (hl : l.length < 4611686018427387904) : ∀ (d i : Nat) (m : Int), i + d = l.length → m + (mkk_nodesSum (l.drop i) : Nat) = a + (mkk_nodesSum l : Nat) → 0 ≤ m →
    Ev (fun k => laws_heldNodeS.l0 k (mk_nodes a l) m (i : Int)) (a + (mkk_nodesSum l : Nat))
  | 0, i, m, hi, hm, hm0 => by
    refine ev_s0 (fun k => ?_)
    simp only [laws_heldNodeS.l0, mk_nodes_len]
    rw [if_neg (by omega)]
    rw [List.drop_eq_nil_of_le (by omega), mkk_nodesSum] at hm
    congr 1
    omega
  | d + 1, i, m, hi, hm, hm0 => by
    have hil : i < l.length := by omega
    have h7 := mkk_nodesSum_drop l i hil
    have hb : m + 3 + ((rd_T52 l (i : Int)).f3.length : Int) < 4611686018427387904 := by omega
    have e1 := mkk_wS hm0 (by omega)
    have e2 := mkk_wS (m := m + 1) (by omega) (by omega)
    have e3 := mkk_wS (m := m + 1 + 1) (by omega) (by omega)
    have ih := heldNodes_l0 a l h0 h hl d (i + 1) (m + 3 + ((rd_T52 l (i : Int)).f3.length : Int)) (by omega) (by omega) (by omega)
    have hat := mk_nodes_at l a i m hil hm
    refine ev_s3 ih (text_ev (m + 2) (by omega)) (heldInts_ev (m + 3) (rd_T52 l (i : Int)).f3.length (by omega) hb) (fun k e et ei => ?_)
    simp only [laws_heldNodeS.l0, mk_nodes_len]
    rw [if_pos (by omega), if_pos (by omega), hat, e1, e2, e3]
    simp only [if_true]
    rw [show m + 1 + 1 = m + 2 by omega, et, Option.bind_some, if_pos rfl, show m + 2 + 1 = m + 3 by omega, ei, Option.bind_some, if_neg (by omega), show wrap64 ((i : Int) + 1) = ((i + 1 : Nat) : Int) by unfold wrap64; omega]
    exact e
theorem heldNodes_ev (a : Int) (l : List NodeT) (h0 : 0 ≤ a) (h : a + (mkk_nodesSum l : Nat) < 4611686018427387904) (hl : l.length < 4611686018427387904) : Ev (fun k => laws_heldNodeS.f k (mk_nodes a l) a) (a + (mkk_nodesSum l : Nat)) := by
  have := heldNodes_l0 a l h0 h hl l.length 0 a (by omega) (by rw [List.drop_zero]) h0
  simpa [laws_heldNodeS.f] using this

def progSm (P : List NodeT) (F : List FnT) : Prop := (P.length ≤ 1048576 ∧ ∀ x ∈ P, nodeSm x) ∧ (F.length ≤ 1048576 ∧ ∀ x ∈ F, fnSm x)
theorem laws_szProgram_or (ns : List NodeL) (fs : List FnL) (a : Int) (h0 : 0 ≤ a) (h1 : a ≤ 1048576) (hn : ns.length ≤ maxLen) (hw : ∀ x ∈ ns, nodeWf x) (hf : fs.length ≤ maxLen) (hv : ∀ x ∈ fs, fnWf x) :
    ∃ r, Ev (fun k => laws_szProgram.f k ns fs a) r ∧ (r < 0 ∨ (0 ≤ r ∧ r ≤ a ∧ progSm (ns.map nodeOf) (fs.map fnOf))) := by
  obtain ⟨r, E1, h1'⟩ := laws_szNodeS_or ns a h0 h1 hn hw
  by_cases c : r < 0
  · exact ⟨-1, ev_a1 E1 fun k e => by rw [laws_szProgram.f, e, Option.bind_some, if_pos c], .inl (by decide)⟩
  rcases h1' with h1' | h1'
  · exact absurd h1' c
  obtain ⟨r2, E2, h2⟩ := laws_szFnS_or fs r h1'.1 (by omega) hf hv
  by_cases d : r2 < 0
  · exact ⟨-1, ev_a2 E1 E2 fun k e1 e2 => by rw [laws_szProgram.f, e1, Option.bind_some, if_neg c, e2, Option.bind_some, if_pos d], .inl (by decide)⟩
  rcases h2 with h2 | h2
  · exact absurd h2 d
  refine ⟨r2, ev_a2 E1 E2 fun k e1 e2 => by rw [laws_szProgram.f, e1, Option.bind_some, if_neg c, e2, Option.bind_some, if_neg d], .inr ⟨h2.1, by omega, ⟨by rw [List.length_map]; exact h1'.2.2.1, fun x hx => ?_⟩, ⟨by rw [List.length_map]; exact h2.2.2.1, fun x hx => ?_⟩⟩⟩
  · obtain ⟨y, hy, rfl⟩ := List.mem_map.mp hx
    exact h1'.2.2.2 y hy
  · obtain ⟨y, hy, rfl⟩ := List.mem_map.mp hx
    exact h2.2.2.2 y hy
theorem laws_toProgram_ev (ns : List NodeL) (fs : List FnL) (h : progSm (ns.map nodeOf) (fs.map fnOf)) : Ev (fun k => laws_toProgram.f k ns fs) (ns.map nodeOf, fs.map fnOf) := by
  have l1 : ns.length ≤ 1048576 := by have := h.1.1; rwa [List.length_map] at this
  have l2 : fs.length ≤ 1048576 := by have := h.2.1; rwa [List.length_map] at this
  refine ev_a2 (laws_toNodeS_ev ns l1 fun x hx => h.1.2 _ (List.mem_map.mpr ⟨x, hx, rfl⟩)) (laws_toFnS_ev fs l2 fun x hx => h.2.2 _ (List.mem_map.mpr ⟨x, hx, rfl⟩)) fun k e1 e2 => ?_
  rw [laws_toProgram.f, e1, Option.bind_some, e2, Option.bind_some]
theorem laws_eqProgram_ev (P : List NodeT) (F : List FnT) (h : progSm P F) : Ev (fun k => laws_eqProgram.f k P F P F) true := by
  refine ev_a2 (laws_eqNodeS_ev P h.1.1 h.1.2) (laws_eqFnS_ev F h.2.1 h.2.2) fun k e1 e2 => ?_
  rw [laws_eqProgram.f, e1, Option.bind_some, if_pos rfl, e2, Option.bind_some, if_pos rfl]

theorem nodesSum_le (l : List NodeT) (h : ∀ x ∈ l, nodeSm x) : mkk_nodesSum l ≤ 1048579 * l.length := by
  induction l with
  | nil => simp [mkk_nodesSum]
  | cons x r ih =>
    have h1 := (h x (List.mem_cons_self ..)).2
    have h2 := ih fun y hy => h y (List.mem_cons_of_mem _ hy)
    rw [mkk_nodesSum, List.length_cons]
    omega
theorem fnsSum_le (l : List FnT) (h : ∀ x ∈ l, fnSm x) : mkk_fnsSum l ≤ 2097156 * l.length := by
  induction l with
  | nil => simp [mkk_fnsSum]
  | cons x r ih =>
    have h1 := (h x (List.mem_cons_self ..)).2
    have h2 := ih fun y hy => h y (List.mem_cons_of_mem _ hy)
    rw [mkk_fnsSum, List.length_cons]
    omega
theorem copy_marks (P : List NodeT) (F : List FnT) (l : List NodeT) (hP : progSm P F) (hl : l.length ≤ 1048576) (hk : ∀ x ∈ l, nodeSm x) : ∃ m : Int, laws_markProgram.f P F 1 = some m ∧ ∃ (v : List NodeT) (m2 : Int), laws_markNodeS.f l m = some (m2, v) ∧ ¬ m2 < 0 := by
  have b2 := nodesSum_le l hk
  have b3 := nodesSum_le P hP.1.2
  have b4 := fnsSum_le F hP.2.2
  have b5 := hP.1.1
  have b6 := hP.2.1
  have c1 : 0 ≤ (1 : Int) ∧ 1 + ((mkk_nodesSum P + mkk_fnsSum F : Nat) : Int) < 4611686018427387904 := by omega
  have c2 : 0 ≤ 1 + ((mkk_nodesSum P + mkk_fnsSum F : Nat) : Int) ∧ 1 + ((mkk_nodesSum P + mkk_fnsSum F : Nat) : Int) + (mkk_nodesSum l : Nat) < 4611686018427387904 := by omega
  have c3 : ¬ (1 + ((mkk_nodesSum P + mkk_fnsSum F : Nat) : Int) + (mkk_nodesSum l : Nat) < 0) := by omega
  exact ⟨_, by rw [laws_markProgram.f, if_pos c1], _, _, by rw [laws_markNodeS.f, if_pos c2], c3⟩
theorem copy_held (l : List NodeT) (hl : l.length ≤ 1048576) (hk : ∀ x ∈ l, nodeSm x) : ∃ (q : Int) (v : List NodeT), laws_markNodeS.f l 1 = some (q, v) ∧ ¬ q < 0 ∧ Ev (fun k => laws_heldNodeS.f k v 1) q := by
  have b2 := nodesSum_le l hk
  have c1 : 0 ≤ (1 : Int) ∧ 1 + (mkk_nodesSum l : Nat) < (4611686018427387904 : Int) := by omega
  have c2 : l.length < 4611686018427387904 := by omega
  have c3 : ¬ ((1 : Int) + (mkk_nodesSum l : Nat) < 0) := by omega
  exact ⟨_, _, by rw [laws_markNodeS.f, if_pos c1], c3, heldNodes_ev 1 l c1.1 c1.2 c2⟩
theorem FnExactCopyNodes : ∀ (l0_0 : List S45) (l0_1 : List S64) (a1 : Int) (l2 : List S45), (l0_0.length ≤ maxLen ∧ ∀ a ∈ l0_0, G45 a) → (l0_1.length ≤ maxLen ∧ ∀ a ∈ l0_1, G64 a) → (Lit.int .i64 a1).wf = true → (l2.length ≤ maxLen ∧ ∀ a ∈ l2, G45 a) → ∃ k, laws_FnExactCopyNodes.f k l0_0 l0_1 a1 l2 = some true := by
  intro ns fs a ms hn hf ha hm
  obtain ⟨r, E1, h1⟩ := laws_szProgram_or ns fs 1048576 (by decide) (by decide) hn.1 (fun x hx => ⟨(hn.2 x hx).2.2.1, (hn.2 x hx).2.2.2.1⟩) hf.1 (fun x hx => ⟨(hf.2 x hx).1, (hf.2 x hx).2.1.1, fun y hy => ((hf.2 x hx).2.1.2 y hy).1⟩)
  by_cases c : r < 0
  · obtain ⟨k, e⟩ := E1.rounds
    have e' : laws_szProgram.f k ns fs 1048576 = some r := e
    exact ⟨k, by rw [laws_FnExactCopyNodes.f, e', Option.bind_some, if_pos c]⟩
  rcases h1 with h1 | h1
  · exact absurd h1 c
  obtain ⟨r2, E2, h2⟩ := laws_szNodeS_or ms r h1.1 h1.2.1 hm.1 (fun x hx => ⟨(hm.2 x hx).2.2.1, (hm.2 x hx).2.2.2.1⟩)
  by_cases d : r2 < 0
  · obtain ⟨k, e1, e2⟩ := b_two E1 E2
    exact ⟨k, by rw [laws_FnExactCopyNodes.f, e1, Option.bind_some, if_neg c, e2, Option.bind_some, if_pos d]⟩
  rcases h2 with h2 | h2
  · exact absurd h2 d
  have hP := h1.2.2
  have hl : (ms.map nodeOf).length ≤ 1048576 := by rw [List.length_map]; exact h2.2.2.1
  have hk : ∀ x ∈ ms.map nodeOf, nodeSm x := fun x hx => by
    obtain ⟨y, hy, rfl⟩ := List.mem_map.mp hx
    exact h2.2.2.2 y hy
  have hS := copyV_sm (ns.map nodeOf) (ms.map nodeOf) a hP.1.2 hl hk
  have E3 := laws_toProgram_ev ns fs hP
  have E4 := laws_toNodeS_ev ms h2.2.2.1 h2.2.2.2
  have E5 := spec_CopyNodes_ev (ns.map nodeOf) (fs.map fnOf) (ms.map nodeOf) a hP.1.1 hP.1.2 hl hk
  have E6 := impl_CopyNodes_ev (ns.map nodeOf) (fs.map fnOf) (ms.map nodeOf) a hP.1.1 hP.1.2 hl hk
  have E7 := laws_eqNodeS_ev (ms.map nodeOf) hl hk
  have E8 := laws_eqProgram_ev _ _ hP
  generalize hR : copyV (ns.map nodeOf) a (ms.map nodeOf) = R at hS E5 E6
  obtain ⟨rl, ra⟩ := R
  dsimp only at hS
  have E9 := laws_eqNodeS_ev rl hS.1 hS.2
  obtain ⟨m, m1, v1, mm2, m2, n1⟩ := copy_marks (ns.map nodeOf) (fs.map fnOf) (ms.map nodeOf) hP hl hk
  obtain ⟨q, v3, m3, n2, E10⟩ := copy_held rl hS.1 hS.2
  clear hR
  obtain ⟨K1, e1⟩ := E1
  obtain ⟨K2, e2⟩ := E2
  obtain ⟨K3, e3⟩ := E3
  obtain ⟨K4, e4⟩ := E4
  obtain ⟨K5, e5⟩ := E5
  obtain ⟨K6, e6⟩ := E6
  obtain ⟨K7, e7⟩ := E7
  obtain ⟨K8, e8⟩ := E8
  obtain ⟨K9, e9⟩ := E9
  obtain ⟨K10, e10⟩ := E10
  obtain ⟨k, hk1⟩ : ∃ k, k = K1 + K2 + K3 + K4 + K5 + K6 + K7 + K8 + K9 + K10 + 2 := ⟨_, rfl⟩
  refine ⟨k + 1, ?_⟩
  have f1 := e1 (k + 1) (by omega)
  have f2 := e2 (k + 1) (by omega)
  have f3 := e3 (k + 1) (by omega)
  have f4 := e4 (k + 1) (by omega)
  have f5 := e5 (k + 1) (by omega)
  have f6 := e6 (k + 1) (by omega)
  have f9 := e9 (k + 1) (by omega)
  simp only [laws_FnExactCopyNodes.f]
  simp only [f1, f2, f3, f4, f5, f6, f9, Option.bind_some, if_neg c, if_neg d, if_true, bne_self_eq_false]
  have g3 := e3 k (by omega)
  have g4 := e4 k (by omega)
  have g7 := e7 k (by omega)
  have g8 := e8 k (by omega)
  have g9 := e9 k (by omega)
  rw [laws_FnExactCopyNodes.j0, if_neg (by decide)]
  simp only [g3, g4, g7, g8, g9, m1, m2, Option.bind_some, if_neg n1, if_true, bne_self_eq_false]
  clear g3 g4 g7 g8 g9
  obtain ⟨k', rfl⟩ : ∃ k', k = k' + 1 := ⟨k - 1, by omega⟩
  clear f1 f2 f3 f4 f5 f6 f9
  have i3 := e3 k' (by omega)
  have i4 := e4 k' (by omega)
  have i6 := e6 k' (by omega)
  have i9 := e9 k' (by omega)
  have i10 := e10 k' (by omega)
  rw [laws_FnExactCopyNodes.j1, if_neg (by decide)]
  simp only [m3, i3, i4, i6, i9, i10, Option.bind_some, if_neg n2, if_true, bne_self_eq_false]
  clear i3 i4 i6 i9 i10
  obtain ⟨k'', rfl⟩ : ∃ k'', k' = k'' + 1 := ⟨k' - 1, by omega⟩
  have j10 := e10 k'' (by omega)
  rw [laws_FnExactCopyNodes.j2, if_neg (by decide)]
  simp only [j10, Option.bind_some, if_neg n2, if_true]
end Go.Proofs.YtnepkmbknoanjaaDoor.Pure
