/- The program's Packed returns what the reference's returns, for all programs, and shares no memory. No condition beside what the statement itself asks. -/
import Derived.Test.YtnepkmbknoanjaaPFnExactPackedx9
import Derived.Test.YtnepkmbknoanjaaRdFnExactPacked
set_option linter.unusedVariables false
set_option linter.unusedSimpArgs false
namespace Go.Proofs.Ytnepkmbknoanjaa.Pure
open Go.RowKit Go.Proofs.Ytnepkmbknoanjaa.PFnExactPacked Go.Proofs.Ytnepkmbknoanjaa.RdFnExactPacked Go.Proofs.YtnepkmbknoanjaaW.PrintWords Go.Proofs.YtnepkmbknoanjaaW.PrintLast

theorem b_w64 {x : Int} (h0 : -9223372036854775808 ≤ x) (h1 : x ≤ 9223372036854775807) : wrap64 x = x := by unfold wrap64; omega
theorem ev_a0 {α : Type} {F : Nat → Option α} {r : α} (H : ∀ k, F k = some r) : Ev F r := ⟨0, fun k _ => H k⟩
theorem ev_s0 {α : Type} {F : Nat → Option α} {r : α} (H : ∀ k, F (k + 1) = some r) : Ev F r := by
  refine ⟨1, fun k hk => ?_⟩
  obtain ⟨m, rfl⟩ : ∃ m, k = m + 1 := ⟨k - 1, by omega⟩
  exact H m
theorem ev_a1 {α β : Type} {F : Nat → Option α} {r : α} {g : Nat → Option β} {a : β} (ha : Ev g a) (H : ∀ k, g k = some a → F k = some r) : Ev F r := by
  obtain ⟨K, ha⟩ := ha
  exact ⟨K, fun k hk => H k (ha k hk)⟩
theorem ev_s1 {α β : Type} {F : Nat → Option α} {r : α} {g : Nat → Option β} {a : β} (ha : Ev g a) (H : ∀ k, g k = some a → F (k + 1) = some r) : Ev F r := by
  obtain ⟨K, ha⟩ := ha
  refine ⟨K + 1, fun k hk => ?_⟩
  obtain ⟨m, rfl⟩ : ∃ m, k = m + 1 := ⟨k - 1, by omega⟩
  exact H m (ha m (by omega))
theorem ev_and {α β : Type} {g : Nat → Option α} {f : Nat → Option β} {a : α} {b : β} (ha : Ev g a) (hb : Ev f b) : ∃ K, ∀ k, K ≤ k → g k = some a ∧ f k = some b := by
  obtain ⟨K, ha⟩ := ha
  obtain ⟨K', hb⟩ := hb
  exact ⟨max K K', fun k hk => ⟨ha k (by omega), hb k (by omega)⟩⟩
theorem ev_a2 {α β γ : Type} {F : Nat → Option α} {r : α} {g : Nat → Option β} {a : β} {f : Nat → Option γ} {b : γ} (ha : Ev g a) (hb : Ev f b) (H : ∀ k, g k = some a → f k = some b → F k = some r) : Ev F r := by
  obtain ⟨K, h⟩ := ev_and ha hb
  exact ⟨K, fun k hk => H k (h k hk).1 (h k hk).2⟩
theorem ev_s2 {α β γ : Type} {F : Nat → Option α} {r : α} {g : Nat → Option β} {a : β} {f : Nat → Option γ} {b : γ} (ha : Ev g a) (hb : Ev f b) (H : ∀ k, g k = some a → f k = some b → F (k + 1) = some r) : Ev F r := by
  obtain ⟨K, h⟩ := ev_and ha hb
  refine ⟨K + 1, fun k hk => ?_⟩
  obtain ⟨m, rfl⟩ : ∃ m, k = m + 1 := ⟨k - 1, by omega⟩
  exact H m (h m (by omega)).1 (h m (by omega)).2
theorem ev_s3 {α β γ δ : Type} {F : Nat → Option α} {r : α} {g : Nat → Option β} {a : β} {f : Nat → Option γ} {b : γ} {e : Nat → Option δ} {c : δ} (ha : Ev g a) (hb : Ev f b) (hc : Ev e c) (H : ∀ k, g k = some a → f k = some b → e k = some c → F (k + 1) = some r) : Ev F r := by
  obtain ⟨K, h⟩ := ev_and ha hb
  obtain ⟨K', h'⟩ := hc
  refine ⟨max K K' + 1, fun k hk => ?_⟩
  obtain ⟨m, rfl⟩ : ∃ m, k = m + 1 := ⟨k - 1, by omega⟩
  exact H m (h m (by omega)).1 (h m (by omega)).2 (h' m (by omega))
theorem set_at {α : Type} : ∀ (a : List α) (b : α) (r : List α) (v : α) (i : Nat), a.length = i → (a ++ b :: r).set i v = a ++ v :: r
  | [], b, r, v, i, h => by subst h; rfl
  | x :: a, b, r, v, i, h => by
    subst h
    simp only [List.cons_append, List.length_cons, List.set_cons_succ, set_at a b r v a.length rfl]
theorem copy_step {α β : Type} (f : α → β) (xs : List α) (z : β) (i : Nat) (h : i < xs.length) :
    ((xs.take i).map f ++ List.replicate (xs.length - i) z).set i (f xs[i]) = (xs.take (i + 1)).map f ++ List.replicate (xs.length - (i + 1)) z := by
  rw [show xs.length - i = (xs.length - (i + 1)) + 1 by omega, List.replicate_succ, set_at _ _ _ _ i (by simp; omega), List.take_succ_eq_append_getElem h, List.map_append, List.append_assoc]
  rfl
theorem rd_nat (xs : List Int) (i : Nat) (h : i < xs.length) : rd xs (i : Int) = xs[i] := by
  unfold rd
  rw [Int.toNat_natCast, List.getD_eq_getElem?_getD, List.getElem?_eq_getElem h]; rfl
theorem getD_nat {α : Type} (xs : List α) (z : α) (i : Nat) (h : i < xs.length) : xs.getD ((i : Int)).toNat z = xs[i] := by
  rw [Int.toNat_natCast, List.getD_eq_getElem?_getD, List.getElem?_eq_getElem h]; rfl
theorem w_succ {i : Nat} (h : i < 4611686018427387904) : wrap64 ((i : Int) + 1) = ((i + 1 : Nat) : Int) := by unfold wrap64; omega
theorem laws_toIntS_l0 (l : List Int) (hl : l.length ≤ 1048576) : ∀ (d i : Nat), i + d = l.length →
    Ev (fun k => laws_toIntS.l0 k l ((l.take i).map id ++ List.replicate (l.length - i) 0) (i : Int)) l
  | 0, i, h => by
    refine ev_s0 (fun k => ?_)
    simp only [laws_toIntS.l0]
    rw [if_neg (by omega), show l.length - i = 0 by omega, show i = l.length by omega]; simp
  | d + 1, i, h => by
    refine ev_s1 (laws_toIntS_l0 l hl d (i + 1) (by omega)) (fun k e => ?_)
    have hi : i < l.length := by omega
    simp only [laws_toIntS.l0]
    rw [if_pos (by omega), if_pos (by omega), if_pos (by simp; omega), Int.toNat_natCast, rd_nat l i hi, show l[i] = id l[i] from rfl, copy_step id l 0 i hi, w_succ (by omega)]
    exact e
theorem laws_toIntS_ev (l : List Int) (hl : l.length ≤ 1048576) : Ev (fun k => laws_toIntS.f k l) l := by
  refine ev_a1 (laws_toIntS_l0 l hl l.length 0 (by omega)) (fun k e => ?_)
  simp only [laws_toIntS.f]
  rw [if_pos (by omega), Int.toNat_natCast, if_pos (by omega)]
  simpa using e
theorem laws_eqIntS_l0 (a : List Int) (hl : a.length ≤ 1048576) : ∀ (d i : Nat), i + d = a.length → Ev (fun k => laws_eqIntS.l0 k a a (i : Int)) true
  | 0, i, h => by
    refine ev_s0 (fun k => ?_)
    simp only [laws_eqIntS.l0]
    rw [if_neg (by omega)]
  | d + 1, i, h => by
    refine ev_s1 (laws_eqIntS_l0 a hl d (i + 1) (by omega)) (fun k e => ?_)
    simp only [laws_eqIntS.l0, if_true]
    rw [if_pos (by omega), if_pos (by omega), if_pos (by omega), w_succ (by omega)]
    exact e
theorem laws_eqIntS_ev (a : List Int) (hl : a.length ≤ 1048576) : Ev (fun k => laws_eqIntS.f k a a) true := by
  refine ev_a1 (laws_eqIntS_l0 a hl a.length 0 (by omega)) (fun k e => ?_)
  simp only [laws_eqIntS.f, if_true]
  exact e

theorem w_succ2 {i : Nat} (h : i < 9223372036854775807) : wrap64 ((i : Int) + 1) = ((i + 1 : Nat) : Int) := by unfold wrap64; omega
theorem sz_sub (a : Int) (n : Nat) (h0 : 0 ≤ a) (h1 : a ≤ 1048576) (hn : n ≤ maxLen) : wrap64 (a - (n : Int)) = a - n := by
  unfold maxLen at hn
  exact b_w64 (by omega) (by omega)
theorem laws_szIntS_or (l : List Int) (a : Int) (h0 : 0 ≤ a) (h1 : a ≤ 1048576) (hl : l.length ≤ maxLen) : ∃ r, laws_szIntS.f l a = some r ∧ (r < 0 ∨ (0 ≤ r ∧ r ≤ a ∧ l.length ≤ 1048576)) := by
  rw [laws_szIntS.f, sz_sub a _ h0 h1 hl]
  by_cases c : a - (l.length : Int) < 0
  · rw [if_pos c]; exact ⟨_, rfl, .inl (by omega)⟩
  · rw [if_neg c]; exact ⟨_, rfl, .inr ⟨by omega, by omega, by omega⟩⟩
abbrev NodeL := S58
abbrev NodeT := S64
def nodeOf (x : NodeL) : NodeT := ⟨x.f0, x.f1, x.f2, x.f3⟩
def nodeWf (x : NodeL) : Prop := x.f2.size ≤ maxLen ∧ x.f3.length ≤ maxLen
def nodeSm (x : NodeT) : Prop := x.f2.size ≤ 1048576 ∧ x.f3.length ≤ 1048576
theorem rdNL_nat (xs : List NodeL) (i : Nat) (h : i < xs.length) : rd_T58 xs (i : Int) = xs[i] := by
  unfold rd_T58
  exact getD_nat xs _ i h
theorem rdNT_nat (xs : List NodeT) (i : Nat) (h : i < xs.length) : rd_T64 xs (i : Int) = xs[i] := by
  unfold rd_T64
  exact getD_nat xs _ i h
theorem laws_szNode_or (x : NodeL) (a : Int) (h0 : 0 ≤ a) (h1 : a ≤ 1048576) (w : nodeWf x) : ∃ r, laws_szNode.f x.f0 x.f1 x.f2 x.f3 a = some r ∧ (r < 0 ∨ (0 ≤ r ∧ r ≤ a ∧ nodeSm (nodeOf x))) := by
  rw [laws_szNode.f, sz_sub a _ h0 h1 w.1]
  by_cases c : a - (x.f2.size : Int) < 0
  · rw [if_pos c]; exact ⟨_, rfl, .inl (by omega)⟩
  · rw [if_neg c]
    obtain ⟨r, e, h⟩ := laws_szIntS_or x.f3 (a - (x.f2.size : Int)) (by omega) (by omega) w.2
    rw [e, Option.bind_some]
    by_cases d : r < 0
    · rw [if_pos d]; exact ⟨_, rfl, .inl (by omega)⟩
    · rw [if_neg d]
      rcases h with h | h
      · exact absurd h d
      · exact ⟨_, rfl, .inr ⟨h.1, by omega, ⟨by show x.f2.size ≤ 1048576; omega, h.2.2⟩⟩⟩
theorem laws_szNodeS_l0 (l : List NodeL) (hl : l.length ≤ maxLen) (hw : ∀ x ∈ l, nodeWf x) : ∀ (d i : Nat) (a : Int), i + d = l.length → 0 ≤ a → a ≤ 1048576 →
    ∃ r, Ev (fun k => laws_szNodeS.l0 k l a (i : Int)) r ∧ (r < 0 ∨ (0 ≤ r ∧ r ≤ a ∧ ∀ x ∈ l.drop i, nodeSm (nodeOf x)))
  | 0, i, a, h, h0, h1 => ⟨a, ev_s0 (fun k => by simp only [laws_szNodeS.l0]; rw [if_neg (by omega)]), .inr ⟨h0, by omega, by rw [List.drop_eq_nil_of_le (by omega)]; simp⟩⟩
  | d + 1, i, a, h, h0, h1 => by
    have hi : i < l.length := by omega
    have hl' := hl
    unfold maxLen at hl'
    obtain ⟨r, e, hr⟩ := laws_szNode_or l[i] a h0 h1 (hw _ (List.getElem_mem hi))
    have q1 : (i : Int) < (l.length : Int) := by omega
    have q2 : (0 : Int) ≤ (i : Int) := by omega
    by_cases c : r < 0
    · exact ⟨-1, ev_s0 (fun k => by simp only [laws_szNodeS.l0]; rw [if_pos q1, if_pos q2, rdNL_nat l i hi, e, Option.bind_some, if_pos c]), .inl (by omega)⟩
    · rcases hr with hr | hr
      · exact absurd hr c
      · obtain ⟨r2, E, h2⟩ := laws_szNodeS_l0 l hl hw d (i + 1) r (by omega) hr.1 (by omega)
        refine ⟨r2, ev_s1 E (fun k e' => ?_), ?_⟩
        · simp only [laws_szNodeS.l0]; rw [if_pos q1, if_pos q2, rdNL_nat l i hi, e, Option.bind_some, if_neg c, w_succ2 (by omega)]; exact e'
        · rcases h2 with h2 | h2
          · exact .inl h2
          · refine .inr ⟨h2.1, by omega, ?_⟩
            rw [List.drop_eq_getElem_cons hi]
            intro x hx
            rcases List.mem_cons.mp hx with hx | hx
            · rw [hx]; exact hr.2.2
            · exact h2.2.2 x hx
theorem laws_szNodeS_or (l : List NodeL) (a : Int) (h0 : 0 ≤ a) (h1 : a ≤ 1048576) (hl : l.length ≤ maxLen) (hw : ∀ x ∈ l, nodeWf x) :
    ∃ r, Ev (fun k => laws_szNodeS.f k l a) r ∧ (r < 0 ∨ (0 ≤ r ∧ r ≤ a ∧ l.length ≤ 1048576 ∧ ∀ x ∈ l, nodeSm (nodeOf x))) := by
  have e := sz_sub a _ h0 h1 hl
  by_cases c : a - (l.length : Int) < 0
  · exact ⟨-1, ev_a0 (fun k => by simp only [laws_szNodeS.f]; rw [e, if_pos c]), .inl (by omega)⟩
  · obtain ⟨r, E, h⟩ := laws_szNodeS_l0 l hl hw l.length 0 (a - (l.length : Int)) (by omega) (by omega) (by omega)
    refine ⟨r, ev_a1 E (fun k e' => by simp only [laws_szNodeS.f]; rw [e, if_neg c]; exact e'), ?_⟩
    rcases h with h | h
    · exact .inl h
    · exact .inr ⟨h.1, by omega, by omega, fun x hx => h.2.2 x (by simpa using hx)⟩
theorem laws_toNodeS_l0 (l : List NodeL) (hl : l.length ≤ 1048576) (hk : ∀ x ∈ l, nodeSm (nodeOf x)) : ∀ (d i : Nat), i + d = l.length →
    Ev (fun k => laws_toNodeS.l0 k l ((l.take i).map nodeOf ++ List.replicate (l.length - i) z64) (i : Int)) (l.map nodeOf)
  | 0, i, h => by
    refine ev_s0 (fun k => ?_)
    simp only [laws_toNodeS.l0]
    rw [if_neg (by omega), show l.length - i = 0 by omega, show i = l.length by omega]; simp
  | d + 1, i, h => by
    have hi : i < l.length := by omega
    refine ev_s2 (laws_toNodeS_l0 l hl hk d (i + 1) (by omega)) (laws_toIntS_ev l[i].f3 (hk _ (List.getElem_mem hi)).2) (fun k e e2 => ?_)
    simp only [laws_toNodeS.l0, laws_toNode.f]
    rw [if_pos (by omega), if_pos (by omega), rdNL_nat l i hi, e2]
    simp only [Option.bind_some]
    rw [if_pos (by simp; omega), Int.toNat_natCast, show (⟨l[i].f0, l[i].f1, l[i].f2, l[i].f3⟩ : NodeT) = nodeOf l[i] from rfl, copy_step nodeOf l z64 i hi, w_succ (by omega)]
    exact e
theorem laws_toNodeS_ev (l : List NodeL) (hl : l.length ≤ 1048576) (hk : ∀ x ∈ l, nodeSm (nodeOf x)) : Ev (fun k => laws_toNodeS.f k l) (l.map nodeOf) := by
  refine ev_a1 (laws_toNodeS_l0 l hl hk l.length 0 (by omega)) (fun k e => ?_)
  simp only [laws_toNodeS.f]
  rw [if_pos (by omega), Int.toNat_natCast, if_pos (by omega)]
  simpa using e
theorem laws_eqNodeS_l0 (a : List NodeT) (hl : a.length ≤ 1048576) (hk : ∀ x ∈ a, nodeSm x) : ∀ (d i : Nat), i + d = a.length → Ev (fun k => laws_eqNodeS.l0 k a a (i : Int)) true
  | 0, i, h => by
    refine ev_s0 (fun k => ?_)
    simp only [laws_eqNodeS.l0]
    rw [if_neg (by omega)]
  | d + 1, i, h => by
    have hi : i < a.length := by omega
    refine ev_s2 (laws_eqNodeS_l0 a hl hk d (i + 1) (by omega)) (laws_eqIntS_ev a[i].f3 (hk _ (List.getElem_mem hi)).2) (fun k e e2 => ?_)
    simp only [laws_eqNodeS.l0, laws_eqNode.f, if_true]
    rw [if_pos (by omega), if_pos (by omega), if_pos (by omega), rdNT_nat a i hi, e2]
    simp only [Option.bind_some, if_true]
    rw [w_succ (by omega)]
    exact e
theorem laws_eqNodeS_ev (a : List NodeT) (hl : a.length ≤ 1048576) (hk : ∀ x ∈ a, nodeSm x) : Ev (fun k => laws_eqNodeS.f k a a) true := by
  refine ev_a1 (laws_eqNodeS_l0 a hl hk a.length 0 (by omega)) (fun k e => ?_)
  simp only [laws_eqNodeS.f, if_true]
  exact e

def pkRel (i s : Int × List S64 × Bool) : Prop := (i.2.2 = true ∧ (s.2.2 = true ∨ 300 < s.2.1.length)) ∨ (i.2.2 = false ∧ s = i ∧ i.2.1.length ≤ 300)
theorem pkS_after (ns : List S64) (K : Nat) : ∀ (cs : List Int) (t : List S64) (b : Bool) (out : List Int), (b = true ∨ 300 < t.length) → ((pkS_kids (pkS_put ns K) cs t b out).2.1 = true ∨ 300 < (pkS_kids (pkS_put ns K) cs t b out).1.length)
  | [], t, b, out, h => h
  | c :: r, t, b, out, h => by
    rw [pkS_kids]
    by_cases q : b = true
    · rw [if_pos q]; exact .inl q
    · rw [if_neg q]
      refine pkS_after ns K r _ _ _ (.inr ?_)
      have := (pkS_len ns K c t false).2.1
      have := h.resolve_left q
      omega
theorem pk_kids (ns : List S64) (K : Nat) (IH : ∀ (a : Int) (t : List S64), t.length ≤ 300 → pkRel (pkI_put ns K a t false) (pkS_put ns K a t false)) : ∀ (cs : List Int) (t : List S64) (out : List Int), t.length ≤ 300 →
    ((pkI_kids (pkI_put ns K) cs t out).2.1 = true ∧ ((pkS_kids (pkS_put ns K) cs t false out).2.1 = true ∨ 300 < (pkS_kids (pkS_put ns K) cs t false out).1.length)) ∨ ((pkI_kids (pkI_put ns K) cs t out).2.1 = false ∧ pkS_kids (pkS_put ns K) cs t false out = pkI_kids (pkI_put ns K) cs t out ∧ (pkI_kids (pkI_put ns K) cs t out).1.length ≤ 300)
  | [], t, out, h => .inr ⟨rfl, rfl, h⟩
  | c :: r, t, out, h => by
    rw [pkI_kids, pkS_kids, if_neg (show ¬ (false = true) by decide)]
    rcases IH c t h with ⟨h1, h2⟩ | ⟨h1, h2, h3⟩
    · rw [if_pos h1]
      exact .inl ⟨rfl, pkS_after ns K r _ _ _ h2⟩
    · rw [if_neg (by rw [h1]; decide), h2, h1]
      exact pk_kids ns K IH r _ _ h3
theorem pk_rel (ns : List S64) : ∀ (K : Nat) (a : Int) (t : List S64), t.length ≤ 300 → pkRel (pkI_put ns K a t false) (pkS_put ns K a t false)
  | 0, a, t, h => .inl ⟨rfl, .inl rfl⟩
  | K + 1, a, t, h => by
    have hS := (pkS_len ns (K + 1) a t false)
    by_cases q : ¬ (0 ≤ a ∧ a < (ns.length : Int))
    · rw [pkI_put, pkS_put, if_pos (.inr (.inl q)), if_pos (.inr (.inl q))]
      exact .inl ⟨rfl, .inl rfl⟩
    · by_cases q2 : 300 ≤ t.length
      · refine .inl ⟨by rw [pkI_put, if_pos (.inr (.inr q2))], ?_⟩
        rcases hS.2.2 with h1 | h1
        · exact .inl h1
        · exact .inr (by omega)
      · have n1 : ¬ (false = true ∨ ¬ (0 ≤ a ∧ a < (ns.length : Int)) ∨ 300 ≤ t.length) := by
          rintro (h | h | h)
          · cases h
          · exact q h
          · exact q2 h
        have n2 : ¬ (false = true ∨ ¬ (0 ≤ a ∧ a < (ns.length : Int)) ∨ 300 < t.length) := by
          rintro (h | h | h)
          · cases h
          · exact q h
          · omega
        rw [pkI_put, pkS_put, if_neg n1, if_neg n2]
        rcases pk_kids ns K (pk_rel ns K) (rd_T64 ns a).f3 t [] h with ⟨h1, h2⟩ | ⟨h1, h2, h3⟩
        · rw [if_pos (.inl h1)]
          refine .inl ⟨rfl, ?_⟩
          rcases h2 with h2 | h2
          · exact .inl h2
          · refine .inr ?_
            simp only [List.length_append, List.length_singleton]
            omega
        · rw [h2]
          by_cases q3 : 300 ≤ (pkI_kids (pkI_put ns K) (rd_T64 ns a).f3 t []).1.length
          · rw [if_pos (.inr q3)]
            refine .inl ⟨rfl, .inr ?_⟩
            simp only [List.length_append, List.length_singleton]
            omega
          · rw [if_neg (by rintro (h | h); · rw [h1] at h; cases h
                           · exact q3 h)]
            refine .inr ⟨rfl, ?_, ?_⟩
            · simp only [h1]
            · simp only [List.length_append, List.length_singleton]
              omega

theorem pkI_kids_sm (f : Int → List NodeT → Bool → Int × List NodeT × Bool) (hf : ∀ a t, (∀ x ∈ t, nodeSm x) → ∀ x ∈ (f a t false).2.1, nodeSm x) : ∀ (cs : List Int) (t : List NodeT) (out : List Int), (∀ x ∈ t, nodeSm x) →
    (∀ x ∈ (pkI_kids f cs t out).1, nodeSm x) ∧ (pkI_kids f cs t out).2.2.length ≤ out.length + cs.length
  | [], t, out, h => ⟨h, Nat.le_refl _⟩
  | c :: r, t, out, h => by
    rw [pkI_kids]
    by_cases q : (f c t false).2.2 = true
    · rw [if_pos q]
      exact ⟨hf c t h, by simp⟩
    · rw [if_neg q]
      have h2 := pkI_kids_sm f hf r (f c t false).2.1 (out ++ [(f c t false).1]) (hf c t h)
      refine ⟨h2.1, ?_⟩
      have := h2.2
      rw [List.length_append, List.length_singleton] at this
      rw [List.length_cons]
      omega
theorem pkI_sm (ns : List NodeT) (hn : ∀ x ∈ ns, nodeSm x) : ∀ (K : Nat) (a : Int) (t : List NodeT) (b : Bool), (∀ x ∈ t, nodeSm x) → ∀ x ∈ (pkI_put ns K a t b).2.1, nodeSm x
  | 0, a, t, b, h => h
  | K + 1, a, t, b, h => by
    rw [pkI_put]
    by_cases q : b = true ∨ ¬ (0 ≤ a ∧ a < (ns.length : Int)) ∨ 300 ≤ t.length
    · rw [if_pos q]; exact h
    · rw [if_neg q]
      have hk := pkI_kids_sm (pkI_put ns K) (fun a t h => pkI_sm ns hn K a t false h) (rd_T64 ns a).f3 t [] h
      by_cases q2 : (pkI_kids (pkI_put ns K) (rd_T64 ns a).f3 t []).2.1 = true ∨ 300 ≤ (pkI_kids (pkI_put ns K) (rd_T64 ns a).f3 t []).1.length
      · rw [if_pos q2]; exact hk.1
      · rw [if_neg q2]
        intro x hx
        rcases List.mem_append.1 hx with hx | hx
        · exact hk.1 x hx
        · have ha : 0 ≤ a ∧ a < (ns.length : Int) := Classical.byContradiction fun h => q (.inr (.inl h))
          have hm := hn _ (List.getElem_mem (show a.toNat < ns.length by omega))
          have hr : rd_T64 ns a = ns[a.toNat]'(by omega) := by
            have := rdNT_nat ns a.toNat (by omega)
            rwa [Int.toNat_of_nonneg ha.1] at this
          rw [List.mem_singleton.1 hx]
          refine ⟨?_, ?_⟩
          · show (rd_T64 ns a).f2.size ≤ 1048576
            rw [hr]; exact hm.1
          · have := hk.2
            rw [List.length_nil] at this
            have h3 : (rd_T64 ns a).f3.length ≤ 1048576 := by rw [hr]; exact hm.2
            show (pkI_kids (pkI_put ns K) (rd_T64 ns a).f3 t []).2.2.length ≤ 1048576
            omega

abbrev ParL := S82
abbrev ParT := S80
def parOf (x : ParL) : ParT := ⟨x.f0, x.f1⟩
theorem rdPL_nat (xs : List ParL) (i : Nat) (h : i < xs.length) : rd_T82 xs (i : Int) = xs[i] := by
  unfold rd_T82
  exact getD_nat xs _ i h
theorem laws_szParam_or (x : ParL) (a : Int) (h0 : 0 ≤ a) (h1 : a ≤ 1048576) (w : x.f0.size ≤ maxLen) : ∃ r, laws_szParam.f x.f0 x.f1 a = some r ∧ (r < 0 ∨ (0 ≤ r ∧ r ≤ a)) := by
  rw [laws_szParam.f, sz_sub a _ h0 h1 w]
  by_cases c : a - (x.f0.size : Int) < 0
  · rw [if_pos c]; exact ⟨_, rfl, .inl (by omega)⟩
  · rw [if_neg c]; exact ⟨_, rfl, .inr ⟨by omega, by omega⟩⟩
theorem laws_szParamS_l0 (l : List ParL) (hl : l.length ≤ maxLen) (hw : ∀ x ∈ l, x.f0.size ≤ maxLen) : ∀ (d i : Nat) (a : Int), i + d = l.length → 0 ≤ a → a ≤ 1048576 →
    ∃ r, Ev (fun k => laws_szParamS.l0 k l a (i : Int)) r ∧ (r < 0 ∨ (0 ≤ r ∧ r ≤ a))
  | 0, i, a, h, h0, h1 => ⟨a, ev_s0 (fun k => by simp only [laws_szParamS.l0]; rw [if_neg (by omega)]), .inr ⟨h0, by omega⟩⟩
  | d + 1, i, a, h, h0, h1 => by
    have hi : i < l.length := by omega
    have hl' := hl
    unfold maxLen at hl'
    obtain ⟨r, e, hr⟩ := laws_szParam_or l[i] a h0 h1 (hw _ (List.getElem_mem hi))
    have q1 : (i : Int) < (l.length : Int) := by omega
    have q2 : (0 : Int) ≤ (i : Int) := by omega
    by_cases c : r < 0
    · exact ⟨-1, ev_s0 (fun k => by simp only [laws_szParamS.l0]; rw [if_pos q1, if_pos q2, rdPL_nat l i hi, e, Option.bind_some, if_pos c]), .inl (by omega)⟩
    · rcases hr with hr | hr
      · exact absurd hr c
      · obtain ⟨r2, E, h2⟩ := laws_szParamS_l0 l hl hw d (i + 1) r (by omega) hr.1 (by omega)
        refine ⟨r2, ev_s1 E (fun k e' => ?_), ?_⟩
        · simp only [laws_szParamS.l0]; rw [if_pos q1, if_pos q2, rdPL_nat l i hi, e, Option.bind_some, if_neg c, w_succ2 (by omega)]; exact e'
        · rcases h2 with h2 | h2
          · exact .inl h2
          · exact .inr ⟨h2.1, by omega⟩
theorem laws_szParamS_or (l : List ParL) (a : Int) (h0 : 0 ≤ a) (h1 : a ≤ 1048576) (hl : l.length ≤ maxLen) (hw : ∀ x ∈ l, x.f0.size ≤ maxLen) :
    ∃ r, Ev (fun k => laws_szParamS.f k l a) r ∧ (r < 0 ∨ (0 ≤ r ∧ r ≤ a ∧ l.length ≤ 1048576)) := by
  have e := sz_sub a _ h0 h1 hl
  by_cases c : a - (l.length : Int) < 0
  · exact ⟨-1, ev_a0 (fun k => by simp only [laws_szParamS.f]; rw [e, if_pos c]), .inl (by omega)⟩
  · obtain ⟨r, E, h⟩ := laws_szParamS_l0 l hl hw l.length 0 (a - (l.length : Int)) (by omega) (by omega) (by omega)
    refine ⟨r, ev_a1 E (fun k e' => by simp only [laws_szParamS.f]; rw [e, if_neg c]; exact e'), ?_⟩
    rcases h with h | h
    · exact .inl h
    · exact .inr ⟨h.1, by omega, by omega⟩
theorem laws_toParamS_l0 (l : List ParL) (hl : l.length ≤ 1048576) : ∀ (d i : Nat), i + d = l.length →
    Ev (fun k => laws_toParamS.l0 k l ((l.take i).map parOf ++ List.replicate (l.length - i) z80) (i : Int)) (l.map parOf)
  | 0, i, h => by
    refine ev_s0 (fun k => ?_)
    simp only [laws_toParamS.l0]
    rw [if_neg (by omega), show l.length - i = 0 by omega, show i = l.length by omega]; simp
  | d + 1, i, h => by
    have hi : i < l.length := by omega
    refine ev_s1 (laws_toParamS_l0 l hl d (i + 1) (by omega)) (fun k e => ?_)
    simp only [laws_toParamS.l0, laws_toParam.f, Option.bind_some]
    rw [if_pos (by omega), if_pos (by omega), if_pos (by simp; omega), Int.toNat_natCast, rdPL_nat l i hi, show (⟨l[i].f0, l[i].f1⟩ : ParT) = parOf l[i] from rfl, copy_step parOf l z80 i hi, w_succ (by omega)]
    exact e
theorem laws_toParamS_ev (l : List ParL) (hl : l.length ≤ 1048576) : Ev (fun k => laws_toParamS.f k l) (l.map parOf) := by
  refine ev_a1 (laws_toParamS_l0 l hl l.length 0 (by omega)) (fun k e => ?_)
  simp only [laws_toParamS.f]
  rw [if_pos (by omega), Int.toNat_natCast, if_pos (by omega)]
  simpa using e
theorem laws_eqParamS_l0 (a : List ParT) (hl : a.length ≤ 1048576) : ∀ (d i : Nat), i + d = a.length → Ev (fun k => laws_eqParamS.l0 k a a (i : Int)) true
  | 0, i, h => by
    refine ev_s0 (fun k => ?_)
    simp only [laws_eqParamS.l0]
    rw [if_neg (by omega)]
  | d + 1, i, h => by
    refine ev_s1 (laws_eqParamS_l0 a hl d (i + 1) (by omega)) (fun k e => ?_)
    simp only [laws_eqParamS.l0, laws_eqParam.f]
    rw [if_pos (by omega), if_pos (by omega), if_pos (by omega), w_succ (by omega)]
    simpa using e
theorem laws_eqParamS_ev (a : List ParT) (hl : a.length ≤ 1048576) : Ev (fun k => laws_eqParamS.f k a a) true := by
  refine ev_a1 (laws_eqParamS_l0 a hl a.length 0 (by omega)) (fun k e => ?_)
  simp only [laws_eqParamS.f, if_true]
  exact e
abbrev FnL := S62
abbrev FnT := S44
def fnOf (x : FnL) : FnT := ⟨x.f0, x.f1.map parOf, x.f2, x.f3, x.f4⟩
def fnWf (x : FnL) : Prop := x.f0.size ≤ maxLen ∧ x.f1.length ≤ maxLen ∧ ∀ y ∈ x.f1, y.f0.size ≤ maxLen
def fnSm (x : FnT) : Prop := x.f0.size ≤ 1048576 ∧ x.f1.length ≤ 1048576
theorem rdFL_nat (xs : List FnL) (i : Nat) (h : i < xs.length) : rd_T62 xs (i : Int) = xs[i] := by
  unfold rd_T62
  exact getD_nat xs _ i h
theorem rdFT_nat (xs : List FnT) (i : Nat) (h : i < xs.length) : rd_T44 xs (i : Int) = xs[i] := by
  unfold rd_T44
  exact getD_nat xs _ i h
theorem laws_szFn_or (x : FnL) (a : Int) (h0 : 0 ≤ a) (h1 : a ≤ 1048576) (w : fnWf x) : ∃ r, Ev (fun k => laws_szFn.f k x.f0 x.f1 x.f2 x.f3 x.f4 a) r ∧ (r < 0 ∨ (0 ≤ r ∧ r ≤ a ∧ fnSm (fnOf x))) := by
  have e := sz_sub a _ h0 h1 w.1
  by_cases c : a - (x.f0.size : Int) < 0
  · exact ⟨-1, ev_a0 (fun k => by simp only [laws_szFn.f]; rw [e, if_pos c]), .inl (by omega)⟩
  · obtain ⟨r, E, h⟩ := laws_szParamS_or x.f1 (a - (x.f0.size : Int)) (by omega) (by omega) w.2.1 w.2.2
    by_cases d : r < 0
    · exact ⟨-1, ev_a1 E (fun k e' => by simp only [laws_szFn.f]; rw [e, if_neg c, e', Option.bind_some, if_pos d]), .inl (by omega)⟩
    · rcases h with h | h
      · exact absurd h d
      · exact ⟨r, ev_a1 E (fun k e' => by simp only [laws_szFn.f]; rw [e, if_neg c, e', Option.bind_some, if_neg d]), .inr ⟨h.1, by omega, ⟨by show x.f0.size ≤ 1048576; omega, by show (x.f1.map parOf).length ≤ 1048576; rw [List.length_map]; exact h.2.2⟩⟩⟩
theorem laws_szFnS_l0 (l : List FnL) (hl : l.length ≤ maxLen) (hw : ∀ x ∈ l, fnWf x) : ∀ (d i : Nat) (a : Int), i + d = l.length → 0 ≤ a → a ≤ 1048576 →
    ∃ r, Ev (fun k => laws_szFnS.l0 k l a (i : Int)) r ∧ (r < 0 ∨ (0 ≤ r ∧ r ≤ a ∧ ∀ x ∈ l.drop i, fnSm (fnOf x)))
  | 0, i, a, h, h0, h1 => ⟨a, ev_s0 (fun k => by simp only [laws_szFnS.l0]; rw [if_neg (by omega)]), .inr ⟨h0, by omega, by rw [List.drop_eq_nil_of_le (by omega)]; simp⟩⟩
  | d + 1, i, a, h, h0, h1 => by
    have hi : i < l.length := by omega
    have hl' := hl
    unfold maxLen at hl'
    obtain ⟨r, e, hr⟩ := laws_szFn_or l[i] a h0 h1 (hw _ (List.getElem_mem hi))
    have q1 : (i : Int) < (l.length : Int) := by omega
    have q2 : (0 : Int) ≤ (i : Int) := by omega
    by_cases c : r < 0
    · exact ⟨-1, ev_s1 e (fun k e => by simp only [laws_szFnS.l0]; rw [if_pos q1, if_pos q2, rdFL_nat l i hi, e, Option.bind_some, if_pos c]), .inl (by omega)⟩
    · rcases hr with hr | hr
      · exact absurd hr c
      · obtain ⟨r2, E, h2⟩ := laws_szFnS_l0 l hl hw d (i + 1) r (by omega) hr.1 (by omega)
        refine ⟨r2, ev_s2 E e (fun k e' e => ?_), ?_⟩
        · simp only [laws_szFnS.l0]; rw [if_pos q1, if_pos q2, rdFL_nat l i hi, e, Option.bind_some, if_neg c, w_succ2 (by omega)]; exact e'
        · rcases h2 with h2 | h2
          · exact .inl h2
          · refine .inr ⟨h2.1, by omega, ?_⟩
            rw [List.drop_eq_getElem_cons hi]
            intro x hx
            rcases List.mem_cons.mp hx with hx | hx
            · rw [hx]; exact hr.2.2
            · exact h2.2.2 x hx
theorem laws_szFnS_or (l : List FnL) (a : Int) (h0 : 0 ≤ a) (h1 : a ≤ 1048576) (hl : l.length ≤ maxLen) (hw : ∀ x ∈ l, fnWf x) :
    ∃ r, Ev (fun k => laws_szFnS.f k l a) r ∧ (r < 0 ∨ (0 ≤ r ∧ r ≤ a ∧ l.length ≤ 1048576 ∧ ∀ x ∈ l, fnSm (fnOf x))) := by
  have e := sz_sub a _ h0 h1 hl
  by_cases c : a - (l.length : Int) < 0
  · exact ⟨-1, ev_a0 (fun k => by simp only [laws_szFnS.f]; rw [e, if_pos c]), .inl (by omega)⟩
  · obtain ⟨r, E, h⟩ := laws_szFnS_l0 l hl hw l.length 0 (a - (l.length : Int)) (by omega) (by omega) (by omega)
    refine ⟨r, ev_a1 E (fun k e' => by simp only [laws_szFnS.f]; rw [e, if_neg c]; exact e'), ?_⟩
    rcases h with h | h
    · exact .inl h
    · exact .inr ⟨h.1, by omega, by omega, fun x hx => h.2.2 x (by simpa using hx)⟩
theorem laws_toFnS_l0 (l : List FnL) (hl : l.length ≤ 1048576) (hk : ∀ x ∈ l, fnSm (fnOf x)) : ∀ (d i : Nat), i + d = l.length →
    Ev (fun k => laws_toFnS.l0 k l ((l.take i).map fnOf ++ List.replicate (l.length - i) z44) (i : Int)) (l.map fnOf)
  | 0, i, h => by
    refine ev_s0 (fun k => ?_)
    simp only [laws_toFnS.l0]
    rw [if_neg (by omega), show l.length - i = 0 by omega, show i = l.length by omega]; simp
  | d + 1, i, h => by
    have hi : i < l.length := by omega
    have hp : l[i].f1.length ≤ 1048576 := by
      have := (hk _ (List.getElem_mem hi)).2
      have e : (fnOf l[i]).f1.length = l[i].f1.length := by simp [fnOf]
      omega
    refine ev_s2 (laws_toFnS_l0 l hl hk d (i + 1) (by omega)) (laws_toParamS_ev l[i].f1 hp) (fun k e e2 => ?_)
    simp only [laws_toFnS.l0, laws_toFn.f]
    rw [if_pos (by omega), if_pos (by omega), rdFL_nat l i hi, e2]
    simp only [Option.bind_some]
    rw [if_pos (by simp; omega), Int.toNat_natCast, show (⟨l[i].f0, l[i].f1.map parOf, l[i].f2, l[i].f3, l[i].f4⟩ : FnT) = fnOf l[i] from rfl, copy_step fnOf l z44 i hi, w_succ (by omega)]
    exact e
theorem laws_toFnS_ev (l : List FnL) (hl : l.length ≤ 1048576) (hk : ∀ x ∈ l, fnSm (fnOf x)) : Ev (fun k => laws_toFnS.f k l) (l.map fnOf) := by
  refine ev_a1 (laws_toFnS_l0 l hl hk l.length 0 (by omega)) (fun k e => ?_)
  simp only [laws_toFnS.f]
  rw [if_pos (by omega), Int.toNat_natCast, if_pos (by omega)]
  simpa using e
theorem laws_eqFnS_l0 (a : List FnT) (hl : a.length ≤ 1048576) (hk : ∀ x ∈ a, fnSm x) : ∀ (d i : Nat), i + d = a.length → Ev (fun k => laws_eqFnS.l0 k a a (i : Int)) true
  | 0, i, h => by
    refine ev_s0 (fun k => ?_)
    simp only [laws_eqFnS.l0]
    rw [if_neg (by omega)]
  | d + 1, i, h => by
    have hi : i < a.length := by omega
    refine ev_s2 (laws_eqFnS_l0 a hl hk d (i + 1) (by omega)) (laws_eqParamS_ev a[i].f1 (hk _ (List.getElem_mem hi)).2) (fun k e e2 => ?_)
    simp only [laws_eqFnS.l0, laws_eqFn.f, if_true]
    rw [if_pos (by omega), if_pos (by omega), if_pos (by omega), rdFT_nat a i hi, e2]
    simp only [Option.bind_some, if_true]
    rw [w_succ (by omega)]
    exact e
theorem laws_eqFnS_ev (a : List FnT) (hl : a.length ≤ 1048576) (hk : ∀ x ∈ a, fnSm x) : Ev (fun k => laws_eqFnS.f k a a) true := by
  refine ev_a1 (laws_eqFnS_l0 a hl hk a.length 0 (by omega)) (fun k e => ?_)
  simp only [laws_eqFnS.f, if_true]
  exact e

def progSm (P : List NodeT) (F : List FnT) : Prop := (P.length ≤ 1048576 ∧ ∀ x ∈ P, nodeSm x) ∧ (F.length ≤ 1048576 ∧ ∀ x ∈ F, fnSm x)
theorem laws_szProgram_or (ns : List NodeL) (fs : List FnL) (a : Int) (h0 : 0 ≤ a) (h1 : a ≤ 1048576) (hn : ns.length ≤ maxLen) (hw : ∀ x ∈ ns, nodeWf x) (hf : fs.length ≤ maxLen) (hv : ∀ x ∈ fs, fnWf x) :
    ∃ r, Ev (fun k => laws_szProgram.f k ns fs a) r ∧ (r < 0 ∨ (0 ≤ r ∧ r ≤ a ∧ progSm (ns.map nodeOf) (fs.map fnOf))) := by
  obtain ⟨r, E1, h1'⟩ := laws_szNodeS_or ns a h0 h1 hn hw
  by_cases c : r < 0
  · exact ⟨-1, ev_a1 E1 fun k e => by rw [laws_szProgram.f, e, Option.bind_some, if_pos c], .inl (by decide)⟩
  rcases h1' with h1' | h1'
  · exact absurd h1' c
  obtain ⟨r2, E2, h2⟩ := laws_szFnS_or fs r h1'.1 (by omega) hf hv
  by_cases d : r2 < 0
  · exact ⟨-1, ev_a2 E1 E2 fun k e1 e2 => by rw [laws_szProgram.f, e1, Option.bind_some, if_neg c, e2, Option.bind_some, if_pos d], .inl (by decide)⟩
  rcases h2 with h2 | h2
  · exact absurd h2 d
  refine ⟨r2, ev_a2 E1 E2 fun k e1 e2 => by rw [laws_szProgram.f, e1, Option.bind_some, if_neg c, e2, Option.bind_some, if_neg d], .inr ⟨h2.1, by omega, ⟨by rw [List.length_map]; exact h1'.2.2.1, fun x hx => ?_⟩, ⟨by rw [List.length_map]; exact h2.2.2.1, fun x hx => ?_⟩⟩⟩
  · obtain ⟨y, hy, rfl⟩ := List.mem_map.mp hx
    exact h1'.2.2.2 y hy
  · obtain ⟨y, hy, rfl⟩ := List.mem_map.mp hx
    exact h2.2.2.2 y hy
theorem laws_toProgram_ev (ns : List NodeL) (fs : List FnL) (h : progSm (ns.map nodeOf) (fs.map fnOf)) : Ev (fun k => laws_toProgram.f k ns fs) (ns.map nodeOf, fs.map fnOf) := by
  have l1 : ns.length ≤ 1048576 := by have := h.1.1; rwa [List.length_map] at this
  have l2 : fs.length ≤ 1048576 := by have := h.2.1; rwa [List.length_map] at this
  refine ev_a2 (laws_toNodeS_ev ns l1 fun x hx => h.1.2 _ (List.mem_map.mpr ⟨x, hx, rfl⟩)) (laws_toFnS_ev fs l2 fun x hx => h.2.2 _ (List.mem_map.mpr ⟨x, hx, rfl⟩)) fun k e1 e2 => ?_
  rw [laws_toProgram.f, e1, Option.bind_some, e2, Option.bind_some]
theorem laws_eqProgram_ev (P : List NodeT) (F : List FnT) (h : progSm P F) : Ev (fun k => laws_eqProgram.f k P F P F) true := by
  refine ev_a2 (laws_eqNodeS_ev P h.1.1 h.1.2) (laws_eqFnS_ev F h.2.1 h.2.2) fun k e1 e2 => ?_
  rw [laws_eqProgram.f, e1, Option.bind_some, if_pos rfl, e2, Option.bind_some, if_pos rfl]

theorem pkf_badI (ns : List NodeT) : ∀ (fs : List FnT) (t : List NodeT) (out : List FnT), (pk_fns (pkI_put ns 10) fs t true out).2.1 = true
  | [], t, out => rfl
  | f :: r, t, out => by
    have e : ∀ a t, pkI_put ns 10 a t true = (-1, t, true) := fun a t => by rw [pkI_put, if_pos (.inl rfl)]
    rw [pk_fns]
    simp only [e]
    by_cases c : 0 ≤ f.f4
    · rw [if_pos c]; exact pkf_badI ns r _ _
    · rw [if_neg c]; exact pkf_badI ns r _ _
theorem pkf_badS (ns : List NodeT) : ∀ (fs : List FnT) (t : List NodeT) (b : Bool) (out : List FnT), (b = true ∨ 300 < t.length) → ((pk_fns (pkS_put ns 10) fs t b out).2.1 = true ∨ 300 < (pk_fns (pkS_put ns 10) fs t b out).1.length)
  | [], t, b, out, h => h
  | f :: r, t, b, out, h => by
    have e : ∀ a (t : List NodeT) b, (b = true ∨ 300 < t.length) → pkS_put ns 10 a t b = (-1, t, true) := fun a t b h => by rw [pkS_put, if_pos (h.elim .inl (fun h => .inr (.inr h)))]
    rw [pk_fns, e f.f3 t b h]
    simp only [e f.f4 t true (.inl rfl)]
    by_cases c : 0 ≤ f.f4
    · rw [if_pos c]; exact pkf_badS ns r _ _ _ (.inl rfl)
    · rw [if_neg c]; exact pkf_badS ns r _ _ _ (.inl rfl)
theorem pkf_rel (ns : List NodeT) : ∀ (fs : List FnT) (t : List NodeT) (out : List FnT), t.length ≤ 300 →
    ((pk_fns (pkI_put ns 10) fs t false out).2.1 = true ∧ ((pk_fns (pkS_put ns 10) fs t false out).2.1 = true ∨ 300 < (pk_fns (pkS_put ns 10) fs t false out).1.length)) ∨ ((pk_fns (pkI_put ns 10) fs t false out).2.1 = false ∧ pk_fns (pkS_put ns 10) fs t false out = pk_fns (pkI_put ns 10) fs t false out ∧ (pk_fns (pkI_put ns 10) fs t false out).1.length ≤ 300)
  | [], t, out, h => .inr ⟨rfl, rfl, h⟩
  | f :: r, t, out, h => by
    have e : ∀ a t, pkI_put ns 10 a t true = (-1, t, true) := fun a t => by rw [pkI_put, if_pos (.inl rfl)]
    have e2 : ∀ a (t : List NodeT) b, (b = true ∨ 300 < t.length) → pkS_put ns 10 a t b = (-1, t, true) := fun a t b h => by rw [pkS_put, if_pos (h.elim .inl (fun h => .inr (.inr h)))]
    rw [pk_fns, pk_fns]
    rcases pk_rel ns 10 f.f3 t h with ⟨h1, h2⟩ | ⟨h1, h2, h3⟩
    · refine .inl ⟨?_, ?_⟩
      · by_cases c : 0 ≤ f.f4
        · rw [if_pos c, h1, e]; exact pkf_badI ns r _ _
        · rw [if_neg c, h1]; exact pkf_badI ns r _ _
      · by_cases c : 0 ≤ f.f4
        · rw [if_pos c, e2 f.f4 _ _ h2]; exact pkf_badS ns r _ _ _ (.inl rfl)
        · rw [if_neg c]; exact pkf_badS ns r _ _ _ h2
    · rw [h2, h1]
      by_cases c : 0 ≤ f.f4
      · rw [if_pos c, if_pos c]
        rcases pk_rel ns 10 f.f4 (pkI_put ns 10 f.f3 t false).2.1 h3 with ⟨g1, g2⟩ | ⟨g1, g2, g3⟩
        · refine .inl ⟨?_, ?_⟩
          · rw [g1]; exact pkf_badI ns r _ _
          · exact pkf_badS ns r _ _ _ g2
        · rw [g2, g1]
          exact pkf_rel ns r _ _ g3
      · rw [if_neg c, if_neg c]
        exact pkf_rel ns r _ _ h3
theorem pkf_sm (ns : List NodeT) (hn : ∀ x ∈ ns, nodeSm x) : ∀ (fs : List FnT) (t : List NodeT) (b : Bool) (out : List FnT), (∀ x ∈ t, nodeSm x) → (∀ x ∈ fs, fnSm x) → (∀ x ∈ out, fnSm x) →
    (∀ x ∈ (pk_fns (pkI_put ns 10) fs t b out).1, nodeSm x) ∧ (∀ x ∈ (pk_fns (pkI_put ns 10) fs t b out).2.2, fnSm x) ∧ (pk_fns (pkI_put ns 10) fs t b out).2.2.length = out.length + fs.length
  | [], t, b, out, h, hf, ho => ⟨h, ho, rfl⟩
  | f :: r, t, b, out, h, hf, ho => by
    rw [pk_fns]
    have hr : ∀ x ∈ r, fnSm x := fun x hx => hf x (List.mem_cons_of_mem _ hx)
    have h1 := hf f (List.mem_cons_self ..)
    have ho2 : ∀ (p q : Int), ∀ x ∈ out ++ [(⟨f.f0, f.f1, f.f2, p, q⟩ : FnT)], fnSm x := fun p q x hx => by
      rcases List.mem_append.1 hx with hx | hx
      · exact ho x hx
      · rw [List.mem_singleton.1 hx]; exact h1
    by_cases c : 0 ≤ f.f4
    · rw [if_pos c]
      have h2 := pkf_sm ns hn r _ (pkI_put ns 10 f.f4 (pkI_put ns 10 f.f3 t b).2.1 (pkI_put ns 10 f.f3 t b).2.2).2.2 _ (pkI_sm ns hn 10 f.f4 _ (pkI_put ns 10 f.f3 t b).2.2 (pkI_sm ns hn 10 f.f3 t b h)) hr (ho2 (pkI_put ns 10 f.f3 t b).1 (pkI_put ns 10 f.f4 (pkI_put ns 10 f.f3 t b).2.1 (pkI_put ns 10 f.f3 t b).2.2).1)
      exact ⟨h2.1, h2.2.1, by rw [h2.2.2, List.length_append, List.length_singleton, List.length_cons]; omega⟩
    · rw [if_neg c]
      have h2 := pkf_sm ns hn r _ (pkI_put ns 10 f.f3 t b).2.2 _ (pkI_sm ns hn 10 f.f3 t b h) hr (ho2 (pkI_put ns 10 f.f3 t b).1 f.f4)
      exact ⟨h2.1, h2.2.1, by rw [h2.2.2, List.length_append, List.length_singleton, List.length_cons]; omega⟩
/-- What Packed hands back, on both sides. -/
def packV (P : List NodeT) (F : List FnT) : List NodeT × List FnT × Bool := if (pk_fns (pkI_put P 10) F [] false []).2.1 = true then ([], [], false) else ((pk_fns (pkI_put P 10) F [] false []).1, (pk_fns (pkI_put P 10) F [] false []).2.2, true)
theorem packV_sm (P : List NodeT) (F : List FnT) (h : progSm P F) : progSm (packV P F).1 (packV P F).2.1 := by
  unfold packV
  by_cases c : (pk_fns (pkI_put P 10) F [] false []).2.1 = true
  · rw [if_pos c]
    exact ⟨⟨by simp, fun x hx => absurd hx (by simp)⟩, ⟨by simp, fun x hx => absurd hx (by simp)⟩⟩
  · rw [if_neg c]
    have h1 := pkf_sm P h.1.2 F [] false [] (fun x hx => absurd hx (by simp)) h.2.2 (fun x hx => absurd hx (by simp))
    have h2 : (pk_fns (pkI_put P 10) F [] false []).1.length ≤ 300 := by
      rcases pkf_rel P F [] [] (Nat.zero_le _) with h3 | h3
      · exact absurd h3.1 c
      · exact h3.2.2
    refine ⟨⟨Nat.le_trans h2 (by decide), h1.1⟩, ⟨?_, h1.2.1⟩⟩
    show (pk_fns (pkI_put P 10) F [] false []).2.2.length ≤ 1048576
    rw [h1.2.2, List.length_nil, Nat.zero_add]
    exact h.2.1
theorem pack_cond (P : List NodeT) (F : List FnT) (h : progSm P F) : F.length < 1000000000000 ∧ ∀ x ∈ F, x.f1.length < 1000000000000 :=
  ⟨Nat.lt_of_le_of_lt h.2.1 (by decide), fun x hx => Nat.lt_of_le_of_lt (h.2.2 x hx).2 (by decide)⟩
theorem impl_Packed_is (P : List NodeT) (F : List FnT) (h : progSm P F) : impl_Packed.f P F = some (packV P F) := by
  rw [impl_Packed.f, if_pos (pack_cond P F h), packV]
  by_cases c : (pk_fns (pkI_put P 10) F [] false []).2.1 = true
  · rw [if_pos c, if_pos c]
  · rw [if_neg c, if_neg c]
theorem spec_Packed_is (P : List NodeT) (F : List FnT) (h : progSm P F) : spec_Packed.f P F = some (packV P F) := by
  rw [spec_Packed.f, if_pos (pack_cond P F h), packV]
  rcases pkf_rel P F [] [] (Nat.zero_le _) with ⟨h1, h2⟩ | ⟨h1, h2, h3⟩
  · rw [if_pos h1, if_pos h2]
  · have n1 : ¬ ((pk_fns (pkI_put P 10) F [] false []).2.1 = true ∨ 300 < (pk_fns (pkI_put P 10) F [] false []).1.length) := by
      rw [h1]
      rintro (h | h)
      · cases h
      · omega
    rw [h2, if_neg n1, if_neg (by rw [h1]; decide)]

theorem rd_cons_nat (a : Int) (l : List Int) (i : Nat) : rd (a :: l) ((i + 1 : Nat) : Int) = rd l (i : Int) := by
  unfold rd; rw [Int.toNat_natCast, Int.toNat_natCast, List.getD_cons_succ]
theorem mk_ints_rd : ∀ (n i : Nat) (a : Int), i < n → rd (mk_ints a n) (i : Int) = a + i
  | 0, i, a, h => absurd h (Nat.not_lt_zero i)
  | n + 1, 0, a, h => by
    rw [mk_ints]
    show a = _
    omega
  | n + 1, i + 1, a, h => by
    rw [mk_ints, rd_cons_nat, mk_ints_rd n i (a + 1) (by omega)]
    omega
theorem heldInts_l0 (a : Int) (n : Nat) (h0 : 0 ≤ a) (h : a + n < 4611686018427387904) : ∀ (d i : Nat), i + d = n → Ev (fun k => laws_heldIntS.l0 k (mk_ints a n) (a + i) (i : Int)) (a + n)
  | 0, i, hi => by
    refine ev_s0 (fun k => ?_)
    simp only [laws_heldIntS.l0, mk_ints_len]
    rw [if_neg (by omega), show i = n by omega]
  | d + 1, i, hi => by
    have ih := heldInts_l0 a n h0 h d (i + 1) (by omega)
    refine ev_s1 ih (fun k e => ?_)
    simp only [laws_heldIntS.l0, mk_ints_len]
    rw [if_pos (by omega), if_pos (by omega), mk_ints_rd n i a (by omega), if_pos rfl, show wrap64 (a + (i : Int) + 1) = a + ((i + 1 : Nat) : Int) by unfold wrap64; omega, show wrap64 ((i : Int) + 1) = ((i + 1 : Nat) : Int) by unfold wrap64; omega]
    exact e
theorem heldInts_ev (a : Int) (n : Nat) (h0 : 0 ≤ a) (h : a + n < 4611686018427387904) : Ev (fun k => laws_heldIntS.f k (mk_ints a n) a) (a + n) := by
  have := heldInts_l0 a n h0 h n 0 (by omega)
  simpa [laws_heldIntS.f] using this
theorem text_ev (a : Int) (h : a < 4611686018427387904) : Ev (fun k => laws_markText.f k a) (mk_text a) := by
  refine ⟨21, fun k hk => ?_⟩
  have := mkk_le_ev (F := fun k => laws_markText.f k a) (laws_markText.mono a) (mk_text_some a h) (k - 21)
  try dsimp only at this
  rwa [show 21 + (k - 21) = k by omega] at this
theorem heldNodes_l0 (a : Int) (l : List NodeT) (h0 : 0 ≤ a) (h : a + (mkk_nodesSum l : Nat) < 4611686018427387904) (hl : l.length < 4611686018427387904) : ∀ (d i : Nat) (m : Int), i + d = l.length → m + (mkk_nodesSum (l.drop i) : Nat) = a + (mkk_nodesSum l : Nat) → 0 ≤ m →
    Ev (fun k => laws_heldNodeS.l0 k (mk_nodes a l) m (i : Int)) (a + (mkk_nodesSum l : Nat))
  | 0, i, m, hi, hm, hm0 => by
    refine ev_s0 (fun k => ?_)
    simp only [laws_heldNodeS.l0, mk_nodes_len]
    rw [if_neg (by omega)]
    rw [List.drop_eq_nil_of_le (by omega), mkk_nodesSum] at hm
    congr 1
    omega
  | d + 1, i, m, hi, hm, hm0 => by
    have hil : i < l.length := by omega
    have h7 := mkk_nodesSum_drop l i hil
    have hb : m + 3 + ((rd_T64 l (i : Int)).f3.length : Int) < 4611686018427387904 := by omega
    have e1 := mkk_wS hm0 (by omega)
    have e2 := mkk_wS (m := m + 1) (by omega) (by omega)
    have e3 := mkk_wS (m := m + 1 + 1) (by omega) (by omega)
    have ih := heldNodes_l0 a l h0 h hl d (i + 1) (m + 3 + ((rd_T64 l (i : Int)).f3.length : Int)) (by omega) (by omega) (by omega)
    have hat := mk_nodes_at l a i m hil hm
    refine ev_s3 ih (text_ev (m + 2) (by omega)) (heldInts_ev (m + 3) (rd_T64 l (i : Int)).f3.length (by omega) hb) (fun k e et ei => ?_)
    simp only [laws_heldNodeS.l0, mk_nodes_len]
    rw [if_pos (by omega), if_pos (by omega), hat, e1, e2, e3]
    simp only [if_true]
    rw [show m + 1 + 1 = m + 2 by omega, et, Option.bind_some, if_pos rfl, show m + 2 + 1 = m + 3 by omega, ei, Option.bind_some, if_neg (by omega), show wrap64 ((i : Int) + 1) = ((i + 1 : Nat) : Int) by unfold wrap64; omega]
    exact e
theorem heldNodes_ev (a : Int) (l : List NodeT) (h0 : 0 ≤ a) (h : a + (mkk_nodesSum l : Nat) < 4611686018427387904) (hl : l.length < 4611686018427387904) : Ev (fun k => laws_heldNodeS.f k (mk_nodes a l) a) (a + (mkk_nodesSum l : Nat)) := by
  have := heldNodes_l0 a l h0 h hl l.length 0 a (by omega) (by rw [List.drop_zero]) h0
  simpa [laws_heldNodeS.f] using this

theorem mk_params_at : ∀ (n i : Nat) (a : Int), i < n → rd_T80 (mk_params a n) (i : Int) = ⟨mk_text (a + 2 * i), a + 2 * i + 1⟩
  | 0, i, a, h => absurd h (Nat.not_lt_zero i)
  | n + 1, 0, a, h => by
    rw [mk_params]
    show (⟨mk_text a, a + 1⟩ : S80) = _
    rw [show a + 2 * ((0 : Nat) : Int) = a by omega]
  | n + 1, i + 1, a, h => by
    have h2 := mk_params_at n i (a + 2) (by omega)
    rw [mk_params]
    unfold rd_T80 at h2 ⊢
    rw [Int.toNat_natCast] at h2 ⊢
    rw [List.getD_cons_succ, h2, show a + 2 * ((i + 1 : Nat) : Int) = a + 2 + 2 * (i : Int) by omega]
theorem heldParams_l0 (a : Int) (n : Nat) (h0 : 0 ≤ a) (h : a + 2 * n < 4611686018427387904) : ∀ (d i : Nat), i + d = n → Ev (fun k => laws_heldParamS.l0 k (mk_params a n) (a + 2 * i) (i : Int)) (a + 2 * n)
  | 0, i, hi => by
    refine ev_s0 (fun k => ?_)
    simp only [laws_heldParamS.l0, mk_params_len]
    rw [if_neg (by omega), show i = n by omega]
  | d + 1, i, hi => by
    have ih := heldParams_l0 a n h0 h d (i + 1) (by omega)
    have e1 := mkk_wS (m := a + 2 * (i : Int)) (by omega) (by omega)
    have e2 := mkk_wS (m := a + 2 * (i : Int) + 1) (by omega) (by omega)
    refine ev_s2 ih (text_ev (a + 2 * i) (by omega)) (fun k e et => ?_)
    simp only [laws_heldParamS.l0, mk_params_len]
    rw [if_pos (by omega), if_pos (by omega), et, Option.bind_some, mk_params_at n i a (by omega), if_pos rfl, e1, if_pos rfl, e2, show wrap64 ((i : Int) + 1) = ((i + 1 : Nat) : Int) by unfold wrap64; omega, show a + 2 * (i : Int) + 1 + 1 = a + 2 * ((i + 1 : Nat) : Int) by omega]
    exact e
theorem heldParams_ev (a : Int) (n : Nat) (h0 : 0 ≤ a) (h : a + 2 * n < 4611686018427387904) : Ev (fun k => laws_heldParamS.f k (mk_params a n) a) (a + 2 * n) := by
  have := heldParams_l0 a n h0 h n 0 (by omega)
  simpa [laws_heldParamS.f] using this
theorem heldFns_l0 (a : Int) (l : List FnT) (h0 : 0 ≤ a) (h : a + (mkk_fnsSum l : Nat) < 4611686018427387904) (hl : l.length < 4611686018427387904) : ∀ (d i : Nat) (m : Int), i + d = l.length → m + (mkk_fnsSum (l.drop i) : Nat) = a + (mkk_fnsSum l : Nat) → 0 ≤ m →
    Ev (fun k => laws_heldFnS.l0 k (mk_fns a l) m (i : Int)) (a + (mkk_fnsSum l : Nat))
  | 0, i, m, hi, hm, hm0 => by
    refine ev_s0 (fun k => ?_)
    simp only [laws_heldFnS.l0, mk_fns_len]
    rw [if_neg (by omega)]
    rw [List.drop_eq_nil_of_le (by omega), mkk_fnsSum] at hm
    congr 1
    omega
  | d + 1, i, m, hi, hm, hm0 => by
    have hil : i < l.length := by omega
    have h7 := mkk_fnsSum_drop l i hil
    have hb : m + 4 + 2 * ((rd_T44 l (i : Int)).f1.length : Int) < 4611686018427387904 := by omega
    have e1 := mkk_wS hm0 (by omega)
    have e2 := mkk_wS (m := m + 1 + 2 * ((rd_T44 l (i : Int)).f1.length : Int)) (by omega) (by omega)
    have e3 := mkk_wS (m := m + 1 + 2 * ((rd_T44 l (i : Int)).f1.length : Int) + 1) (by omega) (by omega)
    have e4 := mkk_wS (m := m + 1 + 2 * ((rd_T44 l (i : Int)).f1.length : Int) + 1 + 1) (by omega) (by omega)
    have n1 : ¬ (m + 1 + 2 * ((rd_T44 l (i : Int)).f1.length : Int) < 0) := by omega
    have ih := heldFns_l0 a l h0 h hl d (i + 1) (m + 1 + 2 * ((rd_T44 l (i : Int)).f1.length : Int) + 1 + 1 + 1) (by omega) (by omega) (by omega)
    have hat := mk_fns_at l a i m hil hm
    refine ev_s3 ih (text_ev m (by omega)) (heldParams_ev (m + 1) (rd_T44 l (i : Int)).f1.length (by omega) (by omega)) (fun k e et ei => ?_)
    simp only [laws_heldFnS.l0, mk_fns_len]
    rw [if_pos (by omega), if_pos (by omega), hat, et, Option.bind_some, if_pos rfl, e1]
    simp only []
    rw [ei, Option.bind_some, if_neg n1, if_pos rfl, e2, if_pos rfl, e3, if_pos rfl, e4, show wrap64 ((i : Int) + 1) = ((i + 1 : Nat) : Int) by unfold wrap64; omega]
    exact e
theorem heldFns_ev (a : Int) (l : List FnT) (h0 : 0 ≤ a) (h : a + (mkk_fnsSum l : Nat) < 4611686018427387904) (hl : l.length < 4611686018427387904) : Ev (fun k => laws_heldFnS.f k (mk_fns a l) a) (a + (mkk_fnsSum l : Nat)) := by
  have := heldFns_l0 a l h0 h hl l.length 0 a (by omega) (by rw [List.drop_zero]) h0
  simpa [laws_heldFnS.f] using this
theorem heldProgram_ev (P : List NodeT) (F : List FnT) (h : 1 + ((mkk_nodesSum P + mkk_fnsSum F : Nat) : Int) < 4611686018427387904) (hP : P.length < 4611686018427387904) (hF : F.length < 4611686018427387904) :
    Ev (fun k => laws_heldProgram.f k (mk_nodes 1 P) (mk_fns (1 + (mkk_nodesSum P : Nat)) F) 1) (1 + ((mkk_nodesSum P + mkk_fnsSum F : Nat) : Int)) := by
  have n1 : ¬ ((1 : Int) + (mkk_nodesSum P : Nat) < 0) := by omega
  have n2 : ¬ ((1 : Int) + (mkk_nodesSum P : Nat) + (mkk_fnsSum F : Nat) < 0) := by omega
  have e0 : (1 : Int) + (mkk_nodesSum P : Nat) + (mkk_fnsSum F : Nat) = 1 + ((mkk_nodesSum P + mkk_fnsSum F : Nat) : Int) := by omega
  refine ev_a2 (heldNodes_ev 1 P (by omega) (by omega) hP) (heldFns_ev (1 + (mkk_nodesSum P : Nat)) F (by omega) (by omega) hF) (fun k e1 e2 => ?_)
  rw [laws_heldProgram.f, e1, Option.bind_some, if_neg n1, e2, Option.bind_some, if_neg n2, e0]

theorem nodesSum_le (l : List NodeT) (h : ∀ x ∈ l, nodeSm x) : mkk_nodesSum l ≤ 1048579 * l.length := by
  induction l with
  | nil => simp [mkk_nodesSum]
  | cons x r ih =>
    have h1 := (h x (List.mem_cons_self ..)).2
    have h2 := ih fun y hy => h y (List.mem_cons_of_mem _ hy)
    rw [mkk_nodesSum, List.length_cons]
    omega
theorem fnsSum_le (l : List FnT) (h : ∀ x ∈ l, fnSm x) : mkk_fnsSum l ≤ 2097156 * l.length := by
  induction l with
  | nil => simp [mkk_fnsSum]
  | cons x r ih =>
    have h1 := (h x (List.mem_cons_self ..)).2
    have h2 := ih fun y hy => h y (List.mem_cons_of_mem _ hy)
    rw [mkk_fnsSum, List.length_cons]
    omega
theorem pack_marks (P : List NodeT) (F : List FnT) (h : progSm P F) : ∃ (q : Int) (v : List NodeT) (u : List FnT), laws_markProgram.f P F 1 = some (q, v, u) ∧ ¬ q < 0 ∧ Ev (fun k => laws_heldProgram.f k v u 1) q := by
  have b3 := nodesSum_le P h.1.2
  have b4 := fnsSum_le F h.2.2
  have b5 := h.1.1
  have b6 := h.2.1
  have c1 : 0 ≤ (1 : Int) ∧ 1 + ((mkk_nodesSum P + mkk_fnsSum F : Nat) : Int) < 4611686018427387904 := by omega
  have c3 : ¬ (1 + ((mkk_nodesSum P + mkk_fnsSum F : Nat) : Int) < 0) := by omega
  have c4 : P.length < 4611686018427387904 := by omega
  have c5 : F.length < 4611686018427387904 := by omega
  exact ⟨_, _, _, by rw [laws_markProgram.f, if_pos c1], c3, heldProgram_ev P F c1.2 c4 c5⟩
theorem FnExactPacked : ∀ (l0_0 : List S58) (l0_1 : List S62), (l0_0.length ≤ maxLen ∧ ∀ a ∈ l0_0, G58 a) → (l0_1.length ≤ maxLen ∧ ∀ a ∈ l0_1, G62 a) → ∃ k, laws_FnExactPacked.f k l0_0 l0_1 = some true := by
  intro ns fs hn hf
  obtain ⟨r, E1, h1⟩ := laws_szProgram_or ns fs 1048576 (by decide) (by decide) hn.1 (fun x hx => ⟨(hn.2 x hx).2.2.1, (hn.2 x hx).2.2.2.1⟩) hf.1 (fun x hx => ⟨(hf.2 x hx).1, (hf.2 x hx).2.1.1, fun y hy => ((hf.2 x hx).2.1.2 y hy).1⟩)
  by_cases c : r < 0
  · obtain ⟨k, e⟩ := E1.rounds
    have e' : laws_szProgram.f k ns fs 1048576 = some r := e
    exact ⟨k, by rw [laws_FnExactPacked.f, e', Option.bind_some, if_pos c]⟩
  rcases h1 with h1 | h1
  · exact absurd h1 c
  have hP := h1.2.2
  have hS := packV_sm _ _ hP
  have hI := impl_Packed_is _ _ hP
  have hs := spec_Packed_is _ _ hP
  have E3 := laws_toProgram_ev ns fs hP
  have E8 := laws_eqProgram_ev _ _ hP
  obtain ⟨m, m1, m2, hm, n1, _⟩ := pack_marks _ _ hP
  generalize hR : packV (ns.map nodeOf) (fs.map fnOf) = R at hS hI hs
  obtain ⟨rn, rf, rb⟩ := R
  dsimp only at hS
  have E9 := laws_eqProgram_ev _ _ hS
  obtain ⟨q, v, u, hq, n2, E10⟩ := pack_marks _ _ hS
  clear hR
  obtain ⟨K1, e1⟩ := E1
  obtain ⟨K3, e3⟩ := E3
  obtain ⟨K8, e8⟩ := E8
  obtain ⟨K9, e9⟩ := E9
  obtain ⟨K10, e10⟩ := E10
  obtain ⟨k, hk1⟩ : ∃ k, k = K1 + K3 + K8 + K9 + K10 + 2 := ⟨_, rfl⟩
  refine ⟨k + 1, ?_⟩
  have f1 := e1 (k + 1) (by omega)
  have f3 := e3 (k + 1) (by omega)
  have f9 := e9 (k + 1) (by omega)
  simp only [laws_FnExactPacked.f]
  simp only [f1, f3, f9, hI, hs, Option.bind_some, if_neg c, if_true, bne_self_eq_false]
  have g3 := e3 k (by omega)
  have g8 := e8 k (by omega)
  have g9 := e9 k (by omega)
  rw [laws_FnExactPacked.j0, if_neg (by decide)]
  simp only [g3, g8, g9, hm, Option.bind_some, if_neg n1, if_true, bne_self_eq_false]
  clear g3 g8 g9
  obtain ⟨k', rfl⟩ : ∃ k', k = k' + 1 := ⟨k - 1, by omega⟩
  clear f1 f3 f9
  have i3 := e3 k' (by omega)
  have i9 := e9 k' (by omega)
  have i10 := e10 k' (by omega)
  rw [laws_FnExactPacked.j1, if_neg (by decide)]
  simp only [hq, i3, i9, i10, hI, Option.bind_some, if_neg n2, if_true, bne_self_eq_false]
  clear i3 i9 i10
  obtain ⟨k'', rfl⟩ : ∃ k'', k' = k'' + 1 := ⟨k' - 1, by omega⟩
  have j10 := e10 k'' (by omega)
  rw [laws_FnExactPacked.j2, if_neg (by decide)]
  simp only [j10, Option.bind_some, if_neg n2, if_true]
end Go.Proofs.Ytnepkmbknoanjaa.Pure
