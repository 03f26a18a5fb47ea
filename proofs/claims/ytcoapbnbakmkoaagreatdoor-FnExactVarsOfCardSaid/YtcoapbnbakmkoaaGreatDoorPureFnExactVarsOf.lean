/- The program's VarsOf returns what the reference's returns, for all programs and functions, and shares no memory. No condition beside what the statement itself asks. -/
import Derived.Test.YtcoapbnbakmkoaaGreatDoorPFnExactVarsOfx13
import Derived.Test.YtcoapbnbakmkoaaGreatDoorRdFnExactVarsOf
set_option linter.unusedVariables false
set_option linter.unusedSimpArgs false
namespace Go.Proofs.YtcoapbnbakmkoaaGreatDoor.Pure
open Go.RowKit Go.Proofs.YtcoapbnbakmkoaaGreatDoor.PFnExactVarsOf Go.Proofs.YtcoapbnbakmkoaaGreatDoor.RdFnExactVarsOf Go.Proofs.YtcoapbnbakmkoaaGreatDoorW.PrintWords Go.Proofs.YtcoapbnbakmkoaaGreatDoorW.PrintLast

theorem b_w64 {x : Int} (h0 : -9223372036854775808 ≤ x) (h1 : x ≤ 9223372036854775807) : wrap64 x = x := by unfold wrap64; omega
theorem b_tmod {x y : Int} (h : 0 ≤ x) : Int.tmod x y = x % y := Int.tmod_eq_emod_of_nonneg h
theorem b_tdiv {x y : Int} (h : 0 ≤ x) : Int.tdiv x y = x / y := Int.tdiv_eq_ediv_of_nonneg h
theorem ev_a0 {α : Type} {F : Nat → Option α} {r : α} (H : ∀ k, F k = some r) : Ev F r := ⟨0, fun k _ => H k⟩
theorem ev_s0 {α : Type} {F : Nat → Option α} {r : α} (H : ∀ k, F (k + 1) = some r) : Ev F r := by
  refine ⟨1, fun k hk => ?_⟩
  obtain ⟨m, rfl⟩ : ∃ m, k = m + 1 := ⟨k - 1, by omega⟩
  exact H m
theorem ev_a1 {α β : Type} {F : Nat → Option α} {r : α} {g : Nat → Option β} {a : β} (ha : Ev g a) (H : ∀ k, g k = some a → F k = some r) : Ev F r := by
  obtain ⟨K, ha⟩ := ha
  exact ⟨K, fun k hk => H k (ha k hk)⟩
theorem ev_s1 {α β : Type} {F : Nat → Option α} {r : α} {g : Nat → Option β} {a : β} (ha : Ev g a) (H : ∀ k, g k = some a → F (k + 1) = some r) : Ev F r := by
  obtain ⟨K, ha⟩ := ha
  refine ⟨K + 1, fun k hk => ?_⟩
  obtain ⟨m, rfl⟩ : ∃ m, k = m + 1 := ⟨k - 1, by omega⟩
  exact H m (ha m (by omega))
theorem ev_and {α β : Type} {g : Nat → Option α} {f : Nat → Option β} {a : α} {b : β} (ha : Ev g a) (hb : Ev f b) : ∃ K, ∀ k, K ≤ k → g k = some a ∧ f k = some b := by
  obtain ⟨K, ha⟩ := ha
  obtain ⟨K', hb⟩ := hb
  exact ⟨max K K', fun k hk => ⟨ha k (by omega), hb k (by omega)⟩⟩
theorem ev_a2 {α β γ : Type} {F : Nat → Option α} {r : α} {g : Nat → Option β} {a : β} {f : Nat → Option γ} {b : γ} (ha : Ev g a) (hb : Ev f b) (H : ∀ k, g k = some a → f k = some b → F k = some r) : Ev F r := by
  obtain ⟨K, h⟩ := ev_and ha hb
  exact ⟨K, fun k hk => H k (h k hk).1 (h k hk).2⟩
theorem ev_s2 {α β γ : Type} {F : Nat → Option α} {r : α} {g : Nat → Option β} {a : β} {f : Nat → Option γ} {b : γ} (ha : Ev g a) (hb : Ev f b) (H : ∀ k, g k = some a → f k = some b → F (k + 1) = some r) : Ev F r := by
  obtain ⟨K, h⟩ := ev_and ha hb
  refine ⟨K + 1, fun k hk => ?_⟩
  obtain ⟨m, rfl⟩ : ∃ m, k = m + 1 := ⟨k - 1, by omega⟩
  exact H m (h m (by omega)).1 (h m (by omega)).2
theorem ev_a3 {α β γ δ : Type} {F : Nat → Option α} {r : α} {g : Nat → Option β} {a : β} {f : Nat → Option γ} {b : γ} {e : Nat → Option δ} {c : δ} (ha : Ev g a) (hb : Ev f b) (hc : Ev e c) (H : ∀ k, g k = some a → f k = some b → e k = some c → F k = some r) : Ev F r := by
  obtain ⟨K, h⟩ := ev_and ha hb
  obtain ⟨K', h'⟩ := hc
  exact ⟨max K K', fun k hk => H k (h k (by omega)).1 (h k (by omega)).2 (h' k (by omega))⟩
theorem ev_s3 {α β γ δ : Type} {F : Nat → Option α} {r : α} {g : Nat → Option β} {a : β} {f : Nat → Option γ} {b : γ} {e : Nat → Option δ} {c : δ} (ha : Ev g a) (hb : Ev f b) (hc : Ev e c) (H : ∀ k, g k = some a → f k = some b → e k = some c → F (k + 1) = some r) : Ev F r := by
  obtain ⟨K, h⟩ := ev_and ha hb
  obtain ⟨K', h'⟩ := hc
  refine ⟨max K K' + 1, fun k hk => ?_⟩
  obtain ⟨m, rfl⟩ : ∃ m, k = m + 1 := ⟨k - 1, by omega⟩
  exact H m (h m (by omega)).1 (h m (by omega)).2 (h' m (by omega))
def Reach (kd : Nat → List Int) (a b : Nat) : Prop := ∀ S : Nat → Prop, S a → (∀ x c : Nat, S x → (c : Int) ∈ kd x → S c) → S b
theorem reach_self (kd : Nat → List Int) (a : Nat) : Reach kd a a := fun _ h _ => h
theorem reach_kid {kd : Nat → List Int} {a b c : Nat} (h : Reach kd a b) (hk : (c : Int) ∈ kd b) : Reach kd a c := fun S h0 h1 => h1 b c (h S h0 h1) hk
theorem reach_first {kd : Nat → List Int} {a b c : Nat} (hk : (b : Int) ∈ kd a) (h : Reach kd b c) : Reach kd a c := fun S h0 h1 => h S (h1 a b h0 hk) h1
theorem reach_le {kd : Nat → List Int} {a b : Nat} (hkd : ∀ x, x ≤ a → ∀ c ∈ kd x, 0 ≤ c ∧ c < x) (h : Reach kd a b) : b ≤ a := by
  refine h (fun x => x ≤ a) (Nat.le_refl a) fun x c hx hc => ?_
  have := hkd x hx c hc
  omega
/-- strictly ascending lists with the same members are one list -/
def Asc (l : List Int) : Prop := l.Pairwise (· < ·)
theorem asc_ext : ∀ (a b : List Int), Asc a → Asc b → (∀ x, x ∈ a ↔ x ∈ b) → a = b
  | [], [], _, _, _ => rfl
  | [], y :: b, _, _, h => absurd ((h y).2 (List.mem_cons_self ..)) (by simp)
  | x :: a, [], _, _, h => absurd ((h x).1 (List.mem_cons_self ..)) (by simp)
  | x :: a, y :: b, ha, hb, h => by
    have ha' := List.pairwise_cons.1 ha
    have hb' := List.pairwise_cons.1 hb
    have hxy : x = y := by
      rcases List.mem_cons.1 ((h x).1 (List.mem_cons_self ..)) with e | e
      · exact e
      · rcases List.mem_cons.1 ((h y).2 (List.mem_cons_self ..)) with e2 | e2
        · exact e2.symm
        · have := hb'.1 x e
          have := ha'.1 y e2
          omega
    subst hxy
    congr 1
    refine asc_ext a b ha'.2 hb'.2 fun z => ⟨fun hz => ?_, fun hz => ?_⟩
    · rcases List.mem_cons.1 ((h z).1 (List.mem_cons_of_mem _ hz)) with e | e
      · subst e; have := ha'.1 z hz; omega
      · exact e
    · rcases List.mem_cons.1 ((h z).2 (List.mem_cons_of_mem _ hz)) with e | e
      · subst e; have := hb'.1 z hz; omega
      · exact e
theorem asc_sort (l : List Int) (h : l.Nodup) : Asc (l.mergeSort fun x y => decide (x ≤ y)) := by
  have h1 := List.pairwise_mergeSort (le := fun x y : Int => decide (x ≤ y)) (fun a b c h1 h2 => by simp only [decide_eq_true_eq] at *; omega) (fun a b => by simp only [Bool.or_eq_true, decide_eq_true_eq]; omega) l
  have h2 : (l.mergeSort fun x y => decide (x ≤ y)).Nodup := (List.mergeSort_perm l _).nodup_iff.2 h
  unfold Asc
  have := h1.and h2
  exact this.imp (fun {a b} h => by have h1 := of_decide_eq_true h.1; have h2 : a ≠ b := h.2; omega)
theorem mem_sort (l : List Int) (x : Int) : x ∈ (l.mergeSort fun x y => decide (x ≤ y)) ↔ x ∈ l := (List.mergeSort_perm l _).mem_iff
/-- a list of distinct naturals up to k has at most k + 1 members -/
theorem nodup_len (l : List Int) (k : Nat) (h : l.Nodup) (hb : ∀ x ∈ l, 0 ≤ x ∧ x ≤ (k : Int)) : l.length ≤ k + 1 := by
  induction k generalizing l with
  | zero =>
    match l, h, hb with
    | [], _, _ => simp
    | [x], _, _ => simp
    | x :: y :: t, h, hb =>
      have h1 := hb x (by simp)
      have h2 := hb y (by simp)
      have h3 := (List.nodup_cons.1 h).1
      exact absurd (show x ∈ y :: t by rw [show x = y by omega]; simp) h3
  | succ k ih =>
    have h1 : (l.filter (· ≠ ((k + 1 : Nat) : Int))).length ≤ k + 1 := by
      refine ih _ (h.filter _) fun x hx => ?_
      have := List.mem_filter.1 hx
      have h2 := hb x this.1
      have h3 : x ≠ ((k + 1 : Nat) : Int) := by simpa using this.2
      omega
    have h4 : l.length ≤ (l.filter (· ≠ ((k + 1 : Nat) : Int))).length + 1 := by
      have := List.length_eq_countP_add_countP (fun x => decide (x ≠ ((k + 1 : Nat) : Int))) (l := l)
      rw [List.countP_eq_length_filter, List.countP_eq_length_filter] at this
      have h5 : (l.filter (fun x => decide (¬decide (x ≠ ((k + 1 : Nat) : Int)) = true))).length ≤ 1 := by
        have hn := h.filter (fun x => decide (¬decide (x ≠ ((k + 1 : Nat) : Int)) = true))
        match e : l.filter (fun x => decide (¬decide (x ≠ ((k + 1 : Nat) : Int)) = true)) with
        | [] => simp
        | [x] => simp
        | x :: y :: t =>
          rw [e] at hn
          have hx : x ∈ l.filter (fun x => decide (¬decide (x ≠ ((k + 1 : Nat) : Int)) = true)) := by rw [e]; simp
          have hy : y ∈ l.filter (fun x => decide (¬decide (x ≠ ((k + 1 : Nat) : Int)) = true)) := by rw [e]; simp
          have hx' := (List.mem_filter.1 hx).2
          have hy' := (List.mem_filter.1 hy).2
          simp at hx' hy'
          exact absurd (show x ∈ y :: t by rw [hx', hy']; simp) (List.nodup_cons.1 hn).1
      omega
    omega
def on (s : List Bool) (j : Nat) : Prop := s.getD j false = true
theorem on_set (s : List Bool) (a j : Nat) (h : a < s.length) : on (s.set a true) j ↔ on s j ∨ j = a := by
  unfold on
  rw [List.getD_eq_getElem?_getD, List.getD_eq_getElem?_getD, List.getElem?_set]
  by_cases c : a = j
  · subst c; simp [h]
  · rw [if_neg c]
    constructor
    · exact .inl
    · rintro (h | h)
      · exact h
      · exact absurd h.symm c
def dfsPre (kd : Nat → List Int) (a : Nat) (s : List Bool) : Prop := ∀ j, j < a → on s j → ∀ c : Nat, (c : Int) ∈ kd j → on s c
def dfsPost (kd : Nat → List Int) (a : Nat) (s s' : List Bool) : Prop := s'.length = s.length ∧ (∀ j, on s j → on s' j) ∧ on s' a ∧ (∀ j, on s' j → on s j ∨ Reach kd a j) ∧ ∀ j, j ≤ a → on s' j → ∀ c : Nat, (c : Int) ∈ kd j → on s' c
/-- the loop over a's kids, q of them done -/
def dfsMid (kd : Nat → List Int) (a q : Nat) (s s' : List Bool) : Prop := s'.length = s.length ∧ (∀ j, on s j → on s' j) ∧ on s' a ∧ (∀ j, on s' j → on s j ∨ Reach kd a j) ∧ (∀ j, j < a → on s' j → ∀ c : Nat, (c : Int) ∈ kd j → on s' c) ∧ ∀ p c : Nat, p < q → (kd a)[p]? = some (c : Int) → on s' c
theorem dfs_seen {kd : Nat → List Int} {a : Nat} {s : List Bool} (h : on s a) (hp : ∀ j, j ≤ a → on s j → ∀ c : Nat, (c : Int) ∈ kd j → on s c) : dfsPost kd a s s :=
  ⟨rfl, fun _ h => h, h, fun _ h => .inl h, hp⟩
theorem dfs_start {kd : Nat → List Int} {a : Nat} {s : List Bool} (hl : a < s.length) (hp : dfsPre kd a s) (hk : ∀ x, x ≤ a → ∀ c ∈ kd x, 0 ≤ c ∧ c < x) : dfsMid kd a 0 s (s.set a true) :=
  ⟨by rw [List.length_set], fun j h => (on_set s a j hl).2 (.inl h), (on_set s a a hl).2 (.inr rfl), fun j h => ((on_set s a j hl).1 h).imp id fun e => by subst e; exact reach_self kd j,
    fun j hj h c hc => ((on_set s a j hl).1 h).elim (fun h => (on_set s a c hl).2 (.inl (hp j hj h c hc))) (fun e => by omega), fun p c hp _ => by omega⟩
theorem dfs_pre {kd : Nat → List Int} {a q c : Nat} {s s' : List Bool} (h : dfsMid kd a q s s') (hc : c < a) : ∀ j, j ≤ c → on s' j → ∀ d : Nat, (d : Int) ∈ kd j → on s' d := fun j hj => h.2.2.2.2.1 j (by omega)
theorem dfs_next {kd : Nat → List Int} {a q c : Nat} {s s' s2 : List Bool} (h : dfsMid kd a q s s') (hq : (kd a)[q]? = some (c : Int)) (hk : ∀ x, x ≤ a → ∀ c ∈ kd x, 0 ≤ c ∧ c < x) (h2 : dfsPost kd c s' s2) : dfsMid kd a (q + 1) s s2 := by
  have hm : (c : Int) ∈ kd a := List.mem_of_getElem? hq
  have hca := hk a (Nat.le_refl _) _ hm
  obtain ⟨l1, m1, o1, r1, c1, d1⟩ := h
  obtain ⟨l2, m2, o2, r2, c2⟩ := h2
  refine ⟨l2.trans l1, fun j hj => m2 j (m1 j hj), m2 a o1, fun j hj => ?_, fun j hja hj d hd => ?_, fun p d hp hd => ?_⟩
  · rcases r2 j hj with h | h
    · exact r1 j h
    · exact .inr (reach_first hm h)
  · by_cases e : j ≤ c
    · exact c2 j e hj d hd
    · rcases r2 j hj with h | h
      · exact m2 d (c1 j hja h d hd)
      · exact absurd (reach_le (fun x hx => hk x (by omega)) h) e
  · by_cases e : p = q
    · subst e
      rw [hq] at hd
      have : c = d := by injection hd with hd; omega
      subst this
      exact o2
    · exact m2 d (d1 p d (by omega) hd)
theorem dfs_end {kd : Nat → List Int} {a : Nat} {s s' : List Bool} (h : dfsMid kd a (kd a).length s s') : dfsPost kd a s s' := by
  obtain ⟨l1, m1, o1, r1, c1, d1⟩ := h
  refine ⟨l1, m1, o1, r1, fun j hj hs c hc => ?_⟩
  by_cases e : j = a
  · subst e
    obtain ⟨p, hp, he⟩ := List.getElem_of_mem hc
    exact d1 p c hp (by rw [List.getElem?_eq_getElem hp, he])
  · exact c1 j (by omega) hs c hc
theorem dfs_all {kd : Nat → List Int} {a : Nat} {s s' : List Bool} (h : dfsPost kd a s s') (h0 : ∀ j, ¬ on s j) (hk : ∀ x, x ≤ a → ∀ c ∈ kd x, 0 ≤ c ∧ c < x) (j : Nat) : on s' j ↔ Reach kd a j := by
  obtain ⟨l1, m1, o1, r1, c1⟩ := h
  refine ⟨fun h => (r1 j h).elim (fun h => absurd h (h0 j)) id, fun h => ?_⟩
  refine (h (fun x => on s' x ∧ x ≤ a) ⟨o1, Nat.le_refl _⟩ fun x c hx hc => ⟨c1 x hx.2 hx.1 c hc, ?_⟩).1
  have := hk x hx.2 c hc
  omega
/-! the breadth-first row -/
def addKids (out : List Int) : List Int → List Int
  | [] => out
  | c :: r => addKids (if c ∈ out then out else out ++ [c]) r
theorem addKids_sub (out : List Int) : ∀ r, ∃ t, addKids out r = out ++ t ∧ ∀ x ∈ t, x ∈ r
  | [] => ⟨[], by simp [addKids]⟩
  | c :: r => by
    unfold addKids
    by_cases h : c ∈ out
    · rw [if_pos h]
      obtain ⟨t, e, ht⟩ := addKids_sub out r
      exact ⟨t, e, fun x hx => List.mem_cons_of_mem _ (ht x hx)⟩
    · rw [if_neg h]
      obtain ⟨t, e, ht⟩ := addKids_sub (out ++ [c]) r
      refine ⟨c :: t, by rw [e]; simp, fun x hx => ?_⟩
      rcases List.mem_cons.1 hx with h | h
      · rw [h]; exact List.mem_cons_self ..
      · exact List.mem_cons_of_mem _ (ht x h)
theorem addKids_mem (out : List Int) : ∀ (r : List Int) (x : Int), x ∈ addKids out r ↔ x ∈ out ∨ x ∈ r
  | [], x => by simp [addKids]
  | c :: r, x => by
    unfold addKids
    rw [addKids_mem _ r x]
    by_cases h : c ∈ out
    · rw [if_pos h]
      constructor
      · rintro (h | h)
        · exact .inl h
        · exact .inr (List.mem_cons_of_mem _ h)
      · rintro (h2 | h2)
        · exact .inl h2
        · rcases List.mem_cons.1 h2 with e | e
          · rw [e]; exact .inl h
          · exact .inr e
    · rw [if_neg h]
      simp only [List.mem_append, List.mem_cons, List.not_mem_nil, or_false, or_assoc]
theorem addKids_nodup (out : List Int) (h : out.Nodup) : ∀ r, (addKids out r).Nodup := by
  intro r
  induction r generalizing out with
  | nil => exact h
  | cons c r ih =>
    unfold addKids
    by_cases hc : c ∈ out
    · rw [if_pos hc]; exact ih out h
    · rw [if_neg hc]
      refine ih _ ?_
      rw [List.nodup_append]
      exact ⟨h, by simp, fun a ha b hb => by simp at hb; subst hb; exact fun e => hc (e ▸ ha)⟩
/-- the row so far, i of it done -/
def bfsIn (kd : Nat → List Int) (a i : Nat) (out : List Int) : Prop := out.Nodup ∧ (a : Int) ∈ out ∧ (∀ x ∈ out, 0 ≤ x ∧ Reach kd a x.toNat) ∧ ∀ p x, p < i → out[p]? = some x → ∀ c ∈ kd x.toNat, c ∈ out
theorem bfs_start (kd : Nat → List Int) (a : Nat) : bfsIn kd a 0 [(a : Int)] :=
  ⟨by simp, by simp, fun x hx => by simp at hx; subst hx; exact ⟨by omega, by rw [Int.toNat_natCast]; exact reach_self kd a⟩, fun p x hp _ => by omega⟩
theorem bfs_next {kd : Nat → List Int} {a i : Nat} {out : List Int} {x : Int} (h : bfsIn kd a i out) (hx : out[i]? = some x) (hk : ∀ x, x ≤ a → ∀ c ∈ kd x, 0 ≤ c ∧ c < x) : bfsIn kd a (i + 1) (addKids out (kd x.toNat)) := by
  obtain ⟨h1, h2, h3, h4⟩ := h
  have hxm := List.mem_of_getElem? hx
  have hxr := h3 x hxm
  have hxa := reach_le hk hxr.2
  obtain ⟨t, e, ht⟩ := addKids_sub out (kd x.toNat)
  refine ⟨addKids_nodup out h1 _, (addKids_mem _ _ _).2 (.inl h2), fun y hy => ?_, fun p y hp hy c hc => ?_⟩
  · rcases (addKids_mem _ _ _).1 hy with h | h
    · exact h3 y h
    · have := hk _ hxa y h
      exact ⟨this.1, reach_kid hxr.2 (by rw [Int.toNat_of_nonneg this.1]; exact h)⟩
  · rw [addKids_mem]
    have hlt : i < out.length := by
      have := (List.getElem?_eq_some_iff.1 hx).1
      exact this
    rw [e, List.getElem?_append_left (by omega)] at hy
    by_cases e2 : p = i
    · subst e2
      rw [hx] at hy
      injection hy with hy
      subst hy
      exact .inr hc
    · exact .inl (h4 p y (by omega) hy c hc)
theorem bfs_len {kd : Nat → List Int} {a i : Nat} {out : List Int} (h : bfsIn kd a i out) (hk : ∀ x, x ≤ a → ∀ c ∈ kd x, 0 ≤ c ∧ c < x) : out.length ≤ a + 1 :=
  nodup_len out a h.1 fun x hx => ⟨(h.2.2.1 x hx).1, by have := reach_le hk (h.2.2.1 x hx).2; have := (h.2.2.1 x hx).1; omega⟩
theorem bfs_end {kd : Nat → List Int} {a : Nat} {out : List Int} (h : bfsIn kd a out.length out) (hk : ∀ x, x ≤ a → ∀ c ∈ kd x, 0 ≤ c ∧ c < x) (x : Int) : x ∈ out ↔ 0 ≤ x ∧ Reach kd a x.toNat := by
  refine ⟨fun hx => h.2.2.1 x hx, fun hx => ?_⟩
  have := (hx.2 (fun y => y ≤ a ∧ (y : Int) ∈ out) ⟨Nat.le_refl _, h.2.1⟩ fun y c hy hc => ?_).2
  · rwa [Int.toNat_of_nonneg hx.1] at this
  · obtain ⟨p, hp, he⟩ := List.getElem_of_mem hy.2
    have := hk y hy.1 c hc
    refine ⟨by omega, h.2.2.2 p y hp (by rw [List.getElem?_eq_getElem hp, he]) c ?_⟩
    rwa [Int.toNat_natCast]

theorem set_at {α : Type} : ∀ (a : List α) (b : α) (r : List α) (v : α) (i : Nat), a.length = i → (a ++ b :: r).set i v = a ++ v :: r
  | [], b, r, v, i, h => by subst h; rfl
  | x :: a, b, r, v, i, h => by
    subst h
    simp only [List.cons_append, List.length_cons, List.set_cons_succ, set_at a b r v a.length rfl]
theorem copy_step {α β : Type} (f : α → β) (xs : List α) (z : β) (i : Nat) (h : i < xs.length) :
    ((xs.take i).map f ++ List.replicate (xs.length - i) z).set i (f xs[i]) = (xs.take (i + 1)).map f ++ List.replicate (xs.length - (i + 1)) z := by
  rw [show xs.length - i = (xs.length - (i + 1)) + 1 by omega, List.replicate_succ, set_at _ _ _ _ i (by simp; omega), List.take_succ_eq_append_getElem h, List.map_append, List.append_assoc]
  rfl
theorem rd_nat (xs : List Int) (i : Nat) (h : i < xs.length) : rd xs (i : Int) = xs[i] := by
  unfold rd
  rw [Int.toNat_natCast, List.getD_eq_getElem?_getD, List.getElem?_eq_getElem h]; rfl
theorem getD_nat {α : Type} (xs : List α) (z : α) (i : Nat) (h : i < xs.length) : xs.getD ((i : Int)).toNat z = xs[i] := by
  rw [Int.toNat_natCast, List.getD_eq_getElem?_getD, List.getElem?_eq_getElem h]; rfl
theorem w_succ {i : Nat} (h : i < 4611686018427387904) : wrap64 ((i : Int) + 1) = ((i + 1 : Nat) : Int) := by unfold wrap64; omega
theorem laws_toIntS_l0 (l : List Int) (hl : l.length ≤ 1048576) : ∀ (d i : Nat), i + d = l.length →
    Ev (fun k => laws_toIntS.l0 k l ((l.take i).map id ++ List.replicate (l.length - i) 0) (i : Int)) l
  | 0, i, h => by
    refine ev_s0 (fun k => ?_)
    simp only [laws_toIntS.l0]
    rw [if_neg (by omega), show l.length - i = 0 by omega, show i = l.length by omega]; simp
  | d + 1, i, h => by
    refine ev_s1 (laws_toIntS_l0 l hl d (i + 1) (by omega)) (fun k e => ?_)
    have hi : i < l.length := by omega
    simp only [laws_toIntS.l0]
    rw [if_pos (by omega), if_pos (by omega), if_pos (by simp; omega), Int.toNat_natCast, rd_nat l i hi, show l[i] = id l[i] from rfl, copy_step id l 0 i hi, w_succ (by omega)]
    exact e
theorem laws_toIntS_ev (l : List Int) (hl : l.length ≤ 1048576) : Ev (fun k => laws_toIntS.f k l) l := by
  refine ev_a1 (laws_toIntS_l0 l hl l.length 0 (by omega)) (fun k e => ?_)
  simp only [laws_toIntS.f]
  rw [if_pos (by omega), Int.toNat_natCast, if_pos (by omega)]
  simpa using e
theorem laws_eqIntS_l0 (a : List Int) (hl : a.length ≤ 1048576) : ∀ (d i : Nat), i + d = a.length → Ev (fun k => laws_eqIntS.l0 k a a (i : Int)) true
  | 0, i, h => by
    refine ev_s0 (fun k => ?_)
    simp only [laws_eqIntS.l0]
    rw [if_neg (by omega)]
  | d + 1, i, h => by
    refine ev_s1 (laws_eqIntS_l0 a hl d (i + 1) (by omega)) (fun k e => ?_)
    simp only [laws_eqIntS.l0, if_true]
    rw [if_pos (by omega), if_pos (by omega), if_pos (by omega), w_succ (by omega)]
    exact e
theorem laws_eqIntS_ev (a : List Int) (hl : a.length ≤ 1048576) : Ev (fun k => laws_eqIntS.f k a a) true := by
  refine ev_a1 (laws_eqIntS_l0 a hl a.length 0 (by omega)) (fun k e => ?_)
  simp only [laws_eqIntS.f, if_true]
  exact e

theorem w_succ2 {i : Nat} (h : i < 9223372036854775807) : wrap64 ((i : Int) + 1) = ((i + 1 : Nat) : Int) := by unfold wrap64; omega
theorem sz_sub (a : Int) (n : Nat) (h0 : 0 ≤ a) (h1 : a ≤ 1048576) (hn : n ≤ maxLen) : wrap64 (a - (n : Int)) = a - n := by
  unfold maxLen at hn
  exact b_w64 (by omega) (by omega)
theorem laws_szIntS_or (l : List Int) (a : Int) (h0 : 0 ≤ a) (h1 : a ≤ 1048576) (hl : l.length ≤ maxLen) : ∃ r, laws_szIntS.f l a = some r ∧ (r < 0 ∨ (0 ≤ r ∧ r ≤ a ∧ l.length ≤ 1048576)) := by
  rw [laws_szIntS.f, sz_sub a _ h0 h1 hl]
  by_cases c : a - (l.length : Int) < 0
  · rw [if_pos c]; exact ⟨_, rfl, .inl (by omega)⟩
  · rw [if_neg c]; exact ⟨_, rfl, .inr ⟨by omega, by omega, by omega⟩⟩
abbrev NodeL := S80
abbrev NodeT := S62
def nodeOf (x : NodeL) : NodeT := ⟨x.f0, x.f1, x.f2, x.f3⟩
def nodeWf (x : NodeL) : Prop := x.f2.size ≤ maxLen ∧ x.f3.length ≤ maxLen
def nodeSm (x : NodeT) : Prop := x.f2.size ≤ 1048576 ∧ x.f3.length ≤ 1048576
theorem rdNL_nat (xs : List NodeL) (i : Nat) (h : i < xs.length) : rd_T80 xs (i : Int) = xs[i] := by
  unfold rd_T80
  exact getD_nat xs _ i h
theorem rdNT_nat (xs : List NodeT) (i : Nat) (h : i < xs.length) : rd_T62 xs (i : Int) = xs[i] := by
  unfold rd_T62
  exact getD_nat xs _ i h
theorem laws_szNode_or (x : NodeL) (a : Int) (h0 : 0 ≤ a) (h1 : a ≤ 1048576) (w : nodeWf x) : ∃ r, laws_szNode.f x.f0 x.f1 x.f2 x.f3 a = some r ∧ (r < 0 ∨ (0 ≤ r ∧ r ≤ a ∧ nodeSm (nodeOf x))) := by
  rw [laws_szNode.f, sz_sub a _ h0 h1 w.1]
  by_cases c : a - (x.f2.size : Int) < 0
  · rw [if_pos c]; exact ⟨_, rfl, .inl (by omega)⟩
  · rw [if_neg c]
    obtain ⟨r, e, h⟩ := laws_szIntS_or x.f3 (a - (x.f2.size : Int)) (by omega) (by omega) w.2
    rw [e, Option.bind_some]
    by_cases d : r < 0
    · rw [if_pos d]; exact ⟨_, rfl, .inl (by omega)⟩
    · rw [if_neg d]
      rcases h with h | h
      · exact absurd h d
      · exact ⟨_, rfl, .inr ⟨h.1, by omega, ⟨by show x.f2.size ≤ 1048576; omega, h.2.2⟩⟩⟩
theorem laws_szNodeS_l0 (l : List NodeL) (hl : l.length ≤ maxLen) (hw : ∀ x ∈ l, nodeWf x) : ∀ (d i : Nat) (a : Int), i + d = l.length → 0 ≤ a → a ≤ 1048576 →
    ∃ r, Ev (fun k => laws_szNodeS.l0 k l a (i : Int)) r ∧ (r < 0 ∨ (0 ≤ r ∧ r ≤ a ∧ ∀ x ∈ l.drop i, nodeSm (nodeOf x)))
  | 0, i, a, h, h0, h1 => ⟨a, ev_s0 (fun k => by simp only [laws_szNodeS.l0]; rw [if_neg (by omega)]), .inr ⟨h0, by omega, by rw [List.drop_eq_nil_of_le (by omega)]; simp⟩⟩
  | d + 1, i, a, h, h0, h1 => by
    have hi : i < l.length := by omega
    have hl' := hl
    unfold maxLen at hl'
    obtain ⟨r, e, hr⟩ := laws_szNode_or l[i] a h0 h1 (hw _ (List.getElem_mem hi))
    have q1 : (i : Int) < (l.length : Int) := by omega
    have q2 : (0 : Int) ≤ (i : Int) := by omega
    by_cases c : r < 0
    · exact ⟨-1, ev_s0 (fun k => by simp only [laws_szNodeS.l0]; rw [if_pos q1, if_pos q2, rdNL_nat l i hi, e, Option.bind_some, if_pos c]), .inl (by omega)⟩
    · rcases hr with hr | hr
      · exact absurd hr c
      · obtain ⟨r2, E, h2⟩ := laws_szNodeS_l0 l hl hw d (i + 1) r (by omega) hr.1 (by omega)
        refine ⟨r2, ev_s1 E (fun k e' => ?_), ?_⟩
        · simp only [laws_szNodeS.l0]; rw [if_pos q1, if_pos q2, rdNL_nat l i hi, e, Option.bind_some, if_neg c, w_succ2 (by omega)]; exact e'
        · rcases h2 with h2 | h2
          · exact .inl h2
          · refine .inr ⟨h2.1, by omega, ?_⟩
            rw [List.drop_eq_getElem_cons hi]
            intro x hx
            rcases List.mem_cons.mp hx with hx | hx
            · rw [hx]; exact hr.2.2
            · exact h2.2.2 x hx
theorem laws_szNodeS_or (l : List NodeL) (a : Int) (h0 : 0 ≤ a) (h1 : a ≤ 1048576) (hl : l.length ≤ maxLen) (hw : ∀ x ∈ l, nodeWf x) :
    ∃ r, Ev (fun k => laws_szNodeS.f k l a) r ∧ (r < 0 ∨ (0 ≤ r ∧ r ≤ a ∧ l.length ≤ 1048576 ∧ ∀ x ∈ l, nodeSm (nodeOf x))) := by
  have e := sz_sub a _ h0 h1 hl
  by_cases c : a - (l.length : Int) < 0
  · exact ⟨-1, ev_a0 (fun k => by simp only [laws_szNodeS.f]; rw [e, if_pos c]), .inl (by omega)⟩
  · obtain ⟨r, E, h⟩ := laws_szNodeS_l0 l hl hw l.length 0 (a - (l.length : Int)) (by omega) (by omega) (by omega)
    refine ⟨r, ev_a1 E (fun k e' => by simp only [laws_szNodeS.f]; rw [e, if_neg c]; exact e'), ?_⟩
    rcases h with h | h
    · exact .inl h
    · exact .inr ⟨h.1, by omega, by omega, fun x hx => h.2.2 x (by simpa using hx)⟩
theorem laws_toNodeS_l0 (l : List NodeL) (hl : l.length ≤ 1048576) (hk : ∀ x ∈ l, nodeSm (nodeOf x)) : ∀ (d i : Nat), i + d = l.length →
    Ev (fun k => laws_toNodeS.l0 k l ((l.take i).map nodeOf ++ List.replicate (l.length - i) z62) (i : Int)) (l.map nodeOf)
  | 0, i, h => by
    refine ev_s0 (fun k => ?_)
    simp only [laws_toNodeS.l0]
    rw [if_neg (by omega), show l.length - i = 0 by omega, show i = l.length by omega]; simp
  | d + 1, i, h => by
    have hi : i < l.length := by omega
    refine ev_s2 (laws_toNodeS_l0 l hl hk d (i + 1) (by omega)) (laws_toIntS_ev l[i].f3 (hk _ (List.getElem_mem hi)).2) (fun k e e2 => ?_)
    simp only [laws_toNodeS.l0, laws_toNode.f]
    rw [if_pos (by omega), if_pos (by omega), rdNL_nat l i hi, e2]
    simp only [Option.bind_some]
    rw [if_pos (by simp; omega), Int.toNat_natCast, show (⟨l[i].f0, l[i].f1, l[i].f2, l[i].f3⟩ : NodeT) = nodeOf l[i] from rfl, copy_step nodeOf l z62 i hi, w_succ (by omega)]
    exact e
theorem laws_toNodeS_ev (l : List NodeL) (hl : l.length ≤ 1048576) (hk : ∀ x ∈ l, nodeSm (nodeOf x)) : Ev (fun k => laws_toNodeS.f k l) (l.map nodeOf) := by
  refine ev_a1 (laws_toNodeS_l0 l hl hk l.length 0 (by omega)) (fun k e => ?_)
  simp only [laws_toNodeS.f]
  rw [if_pos (by omega), Int.toNat_natCast, if_pos (by omega)]
  simpa using e
theorem laws_eqNodeS_l0 (a : List NodeT) (hl : a.length ≤ 1048576) (hk : ∀ x ∈ a, nodeSm x) : ∀ (d i : Nat), i + d = a.length → Ev (fun k => laws_eqNodeS.l0 k a a (i : Int)) true
  | 0, i, h => by
    refine ev_s0 (fun k => ?_)
    simp only [laws_eqNodeS.l0]
    rw [if_neg (by omega)]
  | d + 1, i, h => by
    have hi : i < a.length := by omega
    refine ev_s2 (laws_eqNodeS_l0 a hl hk d (i + 1) (by omega)) (laws_eqIntS_ev a[i].f3 (hk _ (List.getElem_mem hi)).2) (fun k e e2 => ?_)
    simp only [laws_eqNodeS.l0, laws_eqNode.f, if_true]
    rw [if_pos (by omega), if_pos (by omega), if_pos (by omega), rdNT_nat a i hi, e2]
    simp only [Option.bind_some, if_true]
    rw [w_succ (by omega)]
    exact e
theorem laws_eqNodeS_ev (a : List NodeT) (hl : a.length ≤ 1048576) (hk : ∀ x ∈ a, nodeSm x) : Ev (fun k => laws_eqNodeS.f k a a) true := by
  refine ev_a1 (laws_eqNodeS_l0 a hl hk a.length 0 (by omega)) (fun k e => ?_)
  simp only [laws_eqNodeS.f, if_true]
  exact e

open Given
def keyIn (l : List ByteArray) (s : ByteArray) : Bool := l.any fun w => decide (w.toList = s.toList)
theorem keyIn_step (l : List ByteArray) (i : Nat) (h : i < l.length) (s : ByteArray) : keyIn (l.drop i) s = if (rdOf ByteArray.empty l (i : Int)).toList = s.toList then true else keyIn (l.drop (i + 1)) s := by
  rw [List.drop_eq_getElem_cons h]
  have e : rdOf ByteArray.empty l (i : Int) = l[i] := by simp [rdOf, List.getD, List.getElem?_eq_getElem h]
  rw [e]
  unfold keyIn
  rw [List.any_cons]
  by_cases c : l[i].toList = s.toList
  · rw [if_pos c, decide_eq_true c]; rfl
  · rw [if_neg c, decide_eq_false c]; rfl
theorem spec_KeyWord_l0_ev (s : ByteArray) (l : List ByteArray) (hl : l.length ≤ 1000) : ∀ n i : Nat, l.length - i = n → i ≤ l.length → Ev (fun k => spec_KeyWord.l0 k s l (i : Int)) (keyIn (l.drop i) s)
  | 0, i, hn, hi => ev_s0 fun k => by
    have : ¬ (i : Int) < (l.length : Int) := by omega
    have e : l.drop i = [] := List.drop_eq_nil_of_le (by omega)
    rw [spec_KeyWord.l0, if_neg this, e]; rfl
  | n + 1, i, hn, hi => ev_s1 (spec_KeyWord_l0_ev s l hl n (i + 1) (by omega) (by omega)) fun k h => by
    have q1 : (i : Int) < (l.length : Int) := by omega
    have q2 : (0 : Int) ≤ i := by omega
    have q3 : i < l.length := by omega
    have e : wrap64 ((i : Int) + 1) = ((i + 1 : Nat) : Int) := by rw [b_w64 (by omega) (by omega)]; omega
    rw [spec_KeyWord.l0, if_pos q1, if_pos q2, e, keyIn_step l i q3 s]
    by_cases c : (rdOf ByteArray.empty l (i : Int)).toList = s.toList
    · rw [if_pos c, if_pos c]
    · rw [if_neg c, if_neg c]; exact h
theorem impl_oneOf_l0_ev (s : ByteArray) (l : List ByteArray) (hl : l.length ≤ 1000) : ∀ n i : Nat, l.length - i = n → i ≤ l.length → Ev (fun k => impl_oneOf.l0 k s l (l.length : Int) (i : Int)) (keyIn (l.drop i) s)
  | 0, i, hn, hi => ev_s0 fun k => by
    have : ¬ (i : Int) < (l.length : Int) := by omega
    have e : l.drop i = [] := List.drop_eq_nil_of_le (by omega)
    rw [impl_oneOf.l0, if_neg this, e]; rfl
  | n + 1, i, hn, hi => ev_s1 (impl_oneOf_l0_ev s l hl n (i + 1) (by omega) (by omega)) fun k h => by
    have q1 : (i : Int) < (l.length : Int) := by omega
    have q2 : (0 : Int) ≤ i := by omega
    have q3 : i < l.length := by omega
    have e : wrap64 ((i : Int) + 1) = ((i + 1 : Nat) : Int) := by rw [b_w64 (by omega) (by omega)]; omega
    rw [impl_oneOf.l0, if_pos q1, if_pos q2, if_pos q1, e, keyIn_step l i q3 s]
    by_cases c : (rdOf ByteArray.empty l (i : Int)).toList = s.toList
    · rw [if_pos c, if_pos c]
    · rw [if_neg c, if_neg c]; exact h
def theKeys : List ByteArray := [⟨#[102, 110]⟩, ⟨#[108, 101, 116]⟩, ⟨#[105, 102]⟩, ⟨#[101, 108, 115, 101]⟩, ⟨#[119, 104, 105, 108, 101]⟩, ⟨#[112, 114, 105, 110, 116]⟩, ⟨#[100, 111]⟩, ⟨#[110, 101, 119]⟩, ⟨#[99, 108, 111, 110, 101]⟩, ⟨#[109, 117, 116]⟩, ⟨#[105, 110, 112, 117, 116]⟩, ⟨#[105, 110, 116]⟩, ⟨#[98, 111, 120]⟩, ⟨#[114, 101, 116]⟩]
theorem theKeys_spec : spec_l03Keys.f = some theKeys := rfl
theorem theKeys_split : strings_Split.f (⟨#[102, 110, 32, 108, 101, 116, 32, 105, 102, 32, 101, 108, 115, 101, 32, 119, 104, 105, 108, 101, 32, 112, 114, 105, 110, 116, 32, 100, 111, 32, 110, 101, 119, 32, 99, 108, 111, 110, 101, 32, 109, 117, 116, 32, 105, 110, 112, 117, 116, 32, 105, 110, 116, 32, 98, 111, 120, 32, 114, 101, 116]⟩ : ByteArray) (⟨#[32]⟩ : ByteArray) = some theKeys := by
  kernel_rfl
theorem spec_KeyWord_ev (s : ByteArray) : Ev (fun k => spec_KeyWord.f k s) (keyIn theKeys s) :=
  ev_a1 (spec_KeyWord_l0_ev s theKeys (by decide) 14 0 rfl (by decide)) fun k h => by
    rw [spec_KeyWord.f, theKeys_spec]; exact h
theorem impl_KeyWord_ev (s : ByteArray) : Ev (fun k => impl_KeyWord.f k s) (keyIn theKeys s) :=
  ev_a1 (impl_oneOf_l0_ev s theKeys (by decide) 14 0 rfl (by decide)) fun k h => by
    rw [impl_KeyWord.f, impl_oneOf.f, theKeys_split, Option.bind_some]
    have h' : impl_oneOf.l0 k s theKeys (theKeys.length : Int) 0 = some (keyIn theKeys s) := h
    rw [h']; rfl

def isLe (x : Int) : Bool := decide (97 ≤ x ∧ x ≤ 122)
def isFi (x : Int) : Bool := decide (48 ≤ x ∧ x ≤ 57)
theorem spec_letter_is (x : Int) : spec_l03Letter.f x = some (isLe x) := by
  unfold spec_l03Letter.f isLe
  by_cases c : x ≥ 97
  · rw [if_pos c]; by_cases d : x ≤ 122 <;> simp [d, c]
  · rw [if_neg c]; simp; intro h; omega
theorem spec_figure_is (x : Int) : spec_l03Figure.f x = some (isFi x) := by
  unfold spec_l03Figure.f isFi
  by_cases c : x ≥ 48
  · rw [if_pos c]; by_cases d : x ≤ 57 <;> simp [d, c]
  · rw [if_neg c]; simp; intro h; omega
theorem impl_letter_is (x : Int) : impl_isLetter.f x = some (isLe x) := spec_letter_is x
theorem impl_figure_is (x : Int) : impl_isFigure.f x = some (isFi x) := spec_figure_is x

theorem spec_in_is (x y z : Int) : spec_l01In.f x y z = some (decide (y ≤ x ∧ x ≤ z)) := by
  unfold spec_l01In.f
  by_cases c : x ≥ y
  · rw [if_pos c]; by_cases d : x ≤ z <;> simp [d, c]
  · rw [if_neg c]; simp; intro h; omega

theorem impl_in_is (x y z : Int) : impl_in.f x y z = some (decide (y ≤ x ∧ x ≤ z)) := by
  unfold impl_in.f
  by_cases c : x ≥ y
  · rw [if_pos c]; by_cases d : x ≤ z <;> simp [d, c]
  · rw [if_neg c]; simp; intro h; omega

def allAl (s : ByteArray) : Nat → Nat → Bool
  | 0, _ => true
  | n + 1, i => if isLe (bt s (i : Int)) = true then allAl s n (i + 1) else if isFi (bt s (i : Int)) = true then allAl s n (i + 1) else false
theorem spec_NameOk_l0_ev (s : ByteArray) (hs : s.size ≤ 1000) : ∀ n i : Nat, s.size - i = n → i ≤ s.size → Ev (fun k => spec_NameOk.l0 k s (i : Int)) (allAl s n i)
  | 0, i, hn, hi => ev_s0 fun k => by
    have : ¬ (i : Int) < (s.size : Int) := by omega
    rw [spec_NameOk.l0, if_neg this]; rfl
  | n + 1, i, hn, hi => ev_s1 (spec_NameOk_l0_ev s hs n (i + 1) (by omega) (by omega)) fun k h => by
    have q1 : (i : Int) < (s.size : Int) := by omega
    have q2 : (0 : Int) ≤ i := by omega
    have e : wrap64 ((i : Int) + 1) = ((i + 1 : Nat) : Int) := by rw [b_w64 (by omega) (by omega)]; omega
    rw [spec_NameOk.l0, if_pos q1, if_pos q2, e, spec_letter_is, spec_figure_is, Option.bind_some, Option.bind_some, h, allAl]
    cases isLe (bt s (i : Int)) <;> cases isFi (bt s (i : Int)) <;> rfl
theorem impl_NameOk_l0_ev (s : ByteArray) (hs : s.size ≤ 1000) : ∀ n i : Nat, s.size - i = n → i ≤ s.size → Ev (fun k => impl_NameOk.l0 k s (i : Int)) (allAl s n i && !keyIn theKeys s)
  | 0, i, hn, hi => ev_s1 (impl_KeyWord_ev s) fun k h => by
    have : ¬ (i : Int) < (s.size : Int) := by omega
    have h2 := impl_KeyWord.mono s k _ h
    rw [impl_NameOk.l0, if_neg this, h]; rfl
  | n + 1, i, hn, hi => ev_s1 (impl_NameOk_l0_ev s hs n (i + 1) (by omega) (by omega)) fun k h => by
    have q1 : (i : Int) < (s.size : Int) := by omega
    have q2 : (0 : Int) ≤ i := by omega
    have e : wrap64 ((i : Int) + 1) = ((i + 1 : Nat) : Int) := by rw [b_w64 (by omega) (by omega)]; omega
    rw [impl_NameOk.l0, if_pos q1, if_pos q2, e, impl_letter_is, impl_figure_is, Option.bind_some, Option.bind_some, h, allAl]
    cases isLe (bt s (i : Int)) <;> cases isFi (bt s (i : Int)) <;> rfl
def nameOk (s : ByteArray) : Bool := decide (1 ≤ s.size ∧ s.size ≤ 8) && isLe (bt s 0) && allAl s s.size 0 && !keyIn theKeys s
theorem spec_NameOk_ev (s : ByteArray) : Ev (fun k => spec_NameOk.f k s) (nameOk s) := by
  by_cases q : 1 ≤ s.size ∧ s.size ≤ 8
  · have q1 : 0 < (s.size : Int) := by omega
    have q2 : (1 : Int) ≤ (s.size : Int) ∧ (s.size : Int) ≤ 8 := by omega
    obtain ⟨K, H⟩ := ev_and (spec_KeyWord_ev s) (spec_NameOk_l0_ev s (by omega) s.size 0 (by omega) (by omega))
    refine ⟨K + 1, fun k hk => ?_⟩
    obtain ⟨m, rfl⟩ : ∃ m, k = m + 1 := ⟨k - 1, by omega⟩
    have h1 := (H (m + 1) (by omega)).1
    have h2 := (H m (by omega)).2
    have h2' : spec_NameOk.l0 m s 0 = some (allAl s s.size 0) := h2
    show spec_NameOk.f (m + 1) s = _
    rw [spec_NameOk.f, spec_in_is, Option.bind_some, decide_eq_true q2, if_pos rfl, if_pos q1, spec_letter_is, Option.bind_some, h1, Option.bind_some, nameOk, decide_eq_true q, spec_NameOk.j0, spec_NameOk.j0, h2']
    cases isLe (bt s 0) <;> cases keyIn theKeys s <;> cases allAl s s.size 0 <;> rfl
  · have q2 : ¬ ((1 : Int) ≤ (s.size : Int) ∧ (s.size : Int) ≤ 8) := by omega
    refine ⟨1, fun k hk => ?_⟩
    obtain ⟨m, rfl⟩ : ∃ m, k = m + 1 := ⟨k - 1, by omega⟩
    show spec_NameOk.f (m + 1) s = _
    rw [spec_NameOk.f, spec_in_is, Option.bind_some, decide_eq_false q2, nameOk, decide_eq_false q, spec_NameOk.j0]
    rfl
theorem impl_NameOk_ev (s : ByteArray) : Ev (fun k => impl_NameOk.f k s) (nameOk s) := by
  by_cases q : 1 ≤ s.size ∧ s.size ≤ 8
  · have q1 : 0 < (s.size : Int) := by omega
    have q2 : (1 : Int) ≤ (s.size : Int) ∧ (s.size : Int) ≤ 8 := by omega
    obtain ⟨K, H⟩ := impl_NameOk_l0_ev s (by omega) s.size 0 (by omega) (by omega)
    refine ⟨K + 1, fun k hk => ?_⟩
    obtain ⟨m, rfl⟩ : ∃ m, k = m + 1 := ⟨k - 1, by omega⟩
    have h2' : impl_NameOk.l0 m s 0 = some (allAl s s.size 0 && !keyIn theKeys s) := H m (by omega)
    show impl_NameOk.f (m + 1) s = _
    rw [impl_NameOk.f, impl_in_is, Option.bind_some, decide_eq_true q2, if_pos rfl, if_pos q1, impl_letter_is, Option.bind_some, nameOk, decide_eq_true q, impl_NameOk.j0, h2']
    cases isLe (bt s 0) <;> cases keyIn theKeys s <;> cases allAl s s.size 0 <;> rfl
  · have q2 : ¬ ((1 : Int) ≤ (s.size : Int) ∧ (s.size : Int) ≤ 8) := by omega
    refine ⟨1, fun k hk => ?_⟩
    obtain ⟨m, rfl⟩ : ∃ m, k = m + 1 := ⟨k - 1, by omega⟩
    show impl_NameOk.f (m + 1) s = _
    rw [impl_NameOk.f, impl_in_is, Option.bind_some, decide_eq_false q2, nameOk, decide_eq_false q, impl_NameOk.j0]
    rfl

def inB (x lo hi : Int) : Bool := decide (lo ≤ x ∧ x ≤ hi)
def shapeV (a : Int) : Int × Int :=
  if a = 8 ∨ a = 13 ∨ a = 14 ∨ a = 15 ∨ a = 18 ∨ a = 19 then (1, 1) else if a = 9 ∨ a = 10 ∨ a = 11 ∨ a = 17 then (2, 2) else if a = 12 then (0, 3) else if a = 16 then (3, 3) else if a = 20 then (0, 12) else (0, 0)
theorem spec_kids_ev (a : Int) : Ev (fun k => spec_l04Kids.f k a) (shapeV a) := by
  refine ⟨2, fun k hk => ?_⟩
  obtain ⟨m, rfl⟩ : ∃ m, k = m + 2 := ⟨k - 2, by omega⟩
  show spec_l04Kids.f (m + 2) a = _
  by_cases h8 : a = 8
  · subst h8; rfl
  by_cases h13 : a = 13
  · subst h13; rfl
  by_cases h14 : a = 14
  · subst h14; rfl
  by_cases h15 : a = 15
  · subst h15; rfl
  by_cases h18 : a = 18
  · subst h18; rfl
  by_cases h19 : a = 19
  · subst h19; rfl
  by_cases h9 : a = 9
  · subst h9; rfl
  by_cases h10 : a = 10
  · subst h10; rfl
  by_cases h11 : a = 11
  · subst h11; rfl
  by_cases h17 : a = 17
  · subst h17; rfl
  by_cases h12 : a = 12
  · subst h12; rfl
  by_cases h16 : a = 16
  · subst h16; rfl
  by_cases h20 : a = 20
  · subst h20; rfl
  simp [spec_l04Kids.f, spec_l04Kids.j0, spec_l04Kids.j1, shapeV, h8, h13, h14, h15, h18, h19, h9, h10, h11, h17, h12, h16, h20]
theorem impl_shape_ev (a : Int) : Ev (fun k => impl_shape.f k a) (shapeV a) := by
  refine ⟨2, fun k hk => ?_⟩
  obtain ⟨m, rfl⟩ : ∃ m, k = m + 2 := ⟨k - 2, by omega⟩
  show impl_shape.f (m + 2) a = _
  by_cases h8 : a = 8
  · subst h8; rfl
  by_cases h13 : a = 13
  · subst h13; rfl
  by_cases h14 : a = 14
  · subst h14; rfl
  by_cases h15 : a = 15
  · subst h15; rfl
  by_cases h18 : a = 18
  · subst h18; rfl
  by_cases h19 : a = 19
  · subst h19; rfl
  by_cases h9 : a = 9
  · subst h9; rfl
  by_cases h10 : a = 10
  · subst h10; rfl
  by_cases h11 : a = 11
  · subst h11; rfl
  by_cases h17 : a = 17
  · subst h17; rfl
  by_cases h12 : a = 12
  · subst h12; rfl
  by_cases h16 : a = 16
  · subst h16; rfl
  by_cases h20 : a = 20
  · subst h20; rfl
  simp [impl_shape.f, impl_shape.j0, impl_shape.j1, shapeV, h8, h13, h14, h15, h18, h19, h9, h10, h11, h17, h12, h16, h20]
def namedV (a : Int) : Bool := inB a 2 6 || inB a 12 15
theorem spec_named_is (a : Int) : spec_l04Named.f a = some (namedV a) := by
  by_cases h : 2 ≤ a ∧ a ≤ 6
  · have : a = 2 ∨ a = 3 ∨ a = 4 ∨ a = 5 ∨ a = 6 := by omega
    rcases this with h | h | h | h | h <;> subst h <;> rfl
  by_cases h2 : 12 ≤ a ∧ a ≤ 15
  · have : a = 12 ∨ a = 13 ∨ a = 14 ∨ a = 15 := by omega
    rcases this with h | h | h | h <;> subst h <;> rfl
  rw [spec_l04Named.f, if_neg (by omega), if_neg (by omega), if_neg (by omega), if_neg (by omega), if_neg (by omega), if_neg (by omega), if_neg (by omega), if_neg (by omega), if_neg (by omega), namedV, inB, inB, decide_eq_false h, decide_eq_false h2]
  rfl
theorem impl_named_is (a : Int) : impl_hasName.f a = some (namedV a) := by
  rw [impl_hasName.f, impl_in_is, impl_in_is, Option.bind_some, namedV, inB, inB]
  cases decide (2 ≤ a ∧ a ≤ 6) <;> rfl
def fitsV (kind i kid : Int) : Bool := if kind = 20 then inB kid 13 19 else if (kind = 16 ∨ kind = 17) ∧ i > 0 then kid == 20 else if kind = 19 then kid == 12 else inB kid 1 12
theorem spec_fits_ev (kind i kid : Int) : Ev (fun k => spec_l04Fits.f k kind i kid) (fitsV kind i kid) := by
  refine ⟨1, fun k hk => ?_⟩
  obtain ⟨m, rfl⟩ : ∃ m, k = m + 1 := ⟨k - 1, by omega⟩
  show spec_l04Fits.f (m + 1) kind i kid = _
  rw [spec_l04Fits.f, spec_l04Statement.f, spec_in_is, fitsV]
  by_cases h20 : kind = 20
  · rw [if_pos h20, if_pos h20]; rfl
  rw [if_neg h20, if_neg h20]
  by_cases h16 : kind = 16
  · rw [if_pos h16, h16, spec_l04Fits.j0, if_pos (show ((16 : Int) == 16) = true from rfl), spec_l04Value.f, spec_in_is]
    by_cases hi : i > 0
    · rw [if_pos hi, if_pos ⟨.inl rfl, hi⟩]
    · rw [if_neg hi, if_neg (fun h => hi h.2), if_neg (by decide)]; rfl
  rw [if_neg h16, spec_l04Fits.j0, spec_l04Value.f, spec_in_is]
  by_cases h17 : kind = 17
  · rw [h17, if_pos (show ((17 : Int) == 17) = true from rfl)]
    by_cases hi : i > 0
    · rw [if_pos hi, if_pos ⟨.inr rfl, hi⟩]
    · rw [if_neg hi, if_neg (fun h => hi h.2), if_neg (by decide)]; rfl
  have e : (kind == 17) = false := beq_eq_false_iff_ne.mpr h17
  rw [e, if_neg (by decide), if_neg (show ¬ ((kind = 16 ∨ kind = 17) ∧ i > 0) from fun h => h.1.elim h16 h17)]
  by_cases h19 : kind = 19
  · rw [if_pos h19, if_pos h19]
  · rw [if_neg h19, if_neg h19]; rfl
theorem impl_fits_ev (kind i kid : Int) : Ev (fun k => impl_kidFits.f k kind i kid) (fitsV kind i kid) := by
  refine ⟨1, fun k hk => ?_⟩
  obtain ⟨m, rfl⟩ : ∃ m, k = m + 1 := ⟨k - 1, by omega⟩
  show impl_kidFits.f (m + 1) kind i kid = _
  rw [impl_kidFits.f, impl_isStep.f, impl_in_is, fitsV]
  by_cases h20 : kind = 20
  · rw [if_pos h20, if_pos h20]; rfl
  rw [if_neg h20, if_neg h20]
  by_cases h16 : kind = 16
  · rw [if_pos h16, h16, impl_kidFits.j0, impl_isValue.f, impl_in_is]
    by_cases hi : i > 0
    · rw [decide_eq_true hi, if_pos rfl, if_pos ⟨.inl rfl, hi⟩]
    · rw [decide_eq_false hi, if_neg (by decide), if_neg (by decide), if_neg (fun h => hi h.2), if_neg (by decide)]; rfl
  rw [if_neg h16]
  by_cases h17 : kind = 17
  · rw [if_pos h17, h17, impl_kidFits.j0, impl_isValue.f, impl_in_is]
    by_cases hi : i > 0
    · rw [decide_eq_true hi, if_pos rfl, if_pos ⟨.inr rfl, hi⟩]
    · rw [decide_eq_false hi, if_neg (by decide), if_neg (by decide), if_neg (fun h => hi h.2), if_neg (by decide)]; rfl
  rw [if_neg h17, impl_kidFits.j0, impl_isValue.f, impl_in_is, if_neg (by decide), if_neg (show ¬ ((kind = 16 ∨ kind = 17) ∧ i > 0) from fun h => h.1.elim h16 h17)]
  by_cases h19 : kind = 19
  · rw [if_pos h19, if_pos h19]
  · rw [if_neg h19, if_neg h19]; rfl
def dupR (kids : List Int) (v : Int) : Nat → Nat → Bool
  | 0, _ => false
  | n + 1, j => if v = rd kids (j : Int) then true else dupR kids v n (j + 1)
theorem rd_take (kids : List Int) (p j : Nat) (hj : j < p) (hp : p ≤ kids.length) : rd (kids.take p) (j : Int) = rd kids (j : Int) := by
  rw [rd_nat _ j (by rw [List.length_take]; omega), rd_nat kids j (by omega), List.getElem_take]
theorem impl_hasInt_l0 (kids : List Int) (p : Nat) (hp : p ≤ kids.length) (hk : kids.length ≤ 1048576) (v : Int) : ∀ n j : Nat, p - j = n → j ≤ p →
    Ev (fun k => impl_hasInt.l0 k v (kids.take p) ((kids.take p).length : Int) (j : Int)) (dupR kids v n j)
  | 0, j, hn, hj => ev_s0 fun k => by
    have hl : (kids.take p).length = p := by rw [List.length_take]; omega
    rw [impl_hasInt.l0, hl, if_neg (by omega)]; rfl
  | n + 1, j, hn, hj => ev_s1 (impl_hasInt_l0 kids p hp hk v n (j + 1) (by omega) (by omega)) fun k h => by
    have hl : (kids.take p).length = p := by rw [List.length_take]; omega
    rw [hl] at h
    rw [impl_hasInt.l0, hl, if_pos (by omega), if_pos (by omega), if_pos (by omega), rd_take kids p j (by omega) hp, w_succ (by omega), h, dupR]
    by_cases c : rd kids (j : Int) = v
    · rw [if_pos c, if_pos c.symm]
    · rw [if_neg c, if_neg (fun e => c e.symm)]
theorem impl_hasInt_ev (kids : List Int) (p : Nat) (hp : p ≤ kids.length) (hk : kids.length ≤ 1048576) (v : Int) : Ev (fun k => impl_hasInt.f k (kids.take p) v) (dupR kids v p 0) :=
  ev_a1 (impl_hasInt_l0 kids p hp hk v p 0 (by omega) (by omega)) fun k h => h
def kidsR (ns : List NodeT) (K kind : Int) (kids : List Int) : Nat → Nat → Bool
  | 0, _ => true
  | n + 1, p => inB (rd kids (p : Int)) 0 (K - 1) && fitsV kind (p : Int) (rd_T62 ns (rd kids (p : Int))).f0 && !dupR kids (rd kids (p : Int)) p 0 && kidsR ns K kind kids n (p + 1)
theorem spec_dup_l1 (ns : List NodeT) (i : Nat) (hi : i < ns.length) (hn : ns.length ≤ 1048576) (kind num : Int) (name : ByteArray) (kids : List Int) (hk : kids.length ≤ 1048576) (p : Nat) (hp : p < kids.length) (R : Bool) (H : Ev (fun k => spec_NodeOk.l0 k ns (i : Int) ((p + 1 : Nat) : Int) kind num name kids) R) : ∀ n j : Nat, p - j = n → j ≤ p →
    Ev (fun k => spec_NodeOk.l1 k ns (i : Int) (p : Int) (j : Int) kind num name kids) (!dupR kids (rd kids (p : Int)) n j && R)
  | 0, j, hn', hj => ev_s1 H fun k h => by
    rw [spec_NodeOk.l1, if_neg (by omega), w_succ (by omega), h]; rfl
  | n + 1, j, hn', hj => ev_s1 (spec_dup_l1 ns i hi hn kind num name kids hk p hp R H n (j + 1) (by omega) (by omega)) fun k h => by
    rw [spec_NodeOk.l1, if_pos (by omega), if_pos (by omega), if_pos (by omega), if_pos (by omega), if_pos (by omega), w_succ (by omega), h, dupR]
    by_cases c : rd kids (p : Int) = rd kids (j : Int)
    · rw [if_pos c, if_pos c]; rfl
    · rw [if_neg c, if_neg c]
theorem spec_kids_l0 (ns : List NodeT) (i : Nat) (hi : i < ns.length) (hn : ns.length ≤ 1048576) (kind num : Int) (name : ByteArray) (kids : List Int) (hk : kids.length ≤ 1048576) : ∀ n p : Nat, kids.length - p = n → p ≤ kids.length → Ev (fun k => spec_NodeOk.l0 k ns (i : Int) (p : Int) kind num name kids) (kidsR ns (i : Int) kind kids n p)
  | 0, p, hn', hp => ev_s0 fun k => by rw [spec_NodeOk.l0, if_neg (by omega)]; rfl
  | n + 1, p, hn', hp => by
    have q1 : (p : Int) < (kids.length : Int) := by omega
    have q2 : (0 : Int) ≤ (p : Int) := by omega
    have w1 : wrap64 ((i : Int) - 1) = (i : Int) - 1 := b_w64 (by omega) (by omega)
    have ih := spec_kids_l0 ns i hi hn kind num name kids hk n (p + 1) (by omega) (by omega)
    have hd := spec_dup_l1 ns i hi hn kind num name kids hk p (by omega) _ ih p 0 (by omega) (by omega)
    rw [kidsR]
    cases hb : inB (rd kids (p : Int)) 0 ((i : Int) - 1) with
    | false =>
      have h4 : Ev (fun k => spec_NodeOk.j4 k ns (i : Int) (p : Int) true kind num name kids) false := ev_s0 fun k => by rw [spec_NodeOk.j4, if_pos rfl]
      refine ev_s1 h4 fun k h => ?_
      unfold inB at hb
      rw [spec_NodeOk.l0, if_pos q1, if_pos q2, w1, spec_in_is, Option.bind_some, hb, if_neg (by decide)]
      exact h
    | true =>
      have hb' : 0 ≤ rd kids (p : Int) ∧ rd kids (p : Int) ≤ (i : Int) - 1 := by simpa [inB] using hb
      have p1 := hb'.1
      have p2 : rd kids (p : Int) < (ns.length : Int) := by have := hb'.2; omega
      have hf := spec_fits_ev kind (p : Int) (rd_T62 ns (rd kids (p : Int))).f0
      unfold inB at hb
      cases hv : fitsV kind (p : Int) (rd_T62 ns (rd kids (p : Int))).f0 with
      | false =>
        rw [hv] at hf
        have h4 : Ev (fun k => spec_NodeOk.j4 k ns (i : Int) (p : Int) true kind num name kids) false := ev_s0 fun k => by rw [spec_NodeOk.j4, if_pos rfl]
        refine ev_s2 hf h4 fun k h h' => ?_
        rw [spec_NodeOk.l0, if_pos q1, if_pos q2, w1, spec_in_is, Option.bind_some, hb, if_pos rfl, if_pos p1, if_pos p2, h, Option.bind_some]
        exact h'
      | true =>
        rw [hv] at hf
        have h4 : Ev (fun k => spec_NodeOk.j4 k ns (i : Int) (p : Int) false kind num name kids) (!dupR kids (rd kids (p : Int)) p 0 && kidsR ns (i : Int) kind kids n (p + 1)) := ev_s1 hd fun k h => by rw [spec_NodeOk.j4, if_neg (by decide)]; exact h
        refine ev_s2 hf h4 fun k h h' => ?_
        rw [spec_NodeOk.l0, if_pos q1, if_pos q2, w1, spec_in_is, Option.bind_some, hb, if_pos rfl, if_pos p1, if_pos p2, h, Option.bind_some]
        rw [Bool.and_self, Bool.true_and]
        exact h'
def nameV (kind : Int) (name : ByteArray) : Bool := if namedV kind = true then nameOk name else name.toList == ([] : List UInt8)
def numV2 (kind num : Int) : Bool := if kind = 1 then inB num 0 1000000000 else num == 0
theorem nameOk_nil (s : ByteArray) (h : s.toList = []) : nameOk s = false := by
  have e : s.size = 0 := by
    have e1 : s.data.toList.length = s.size := rfl
    rw [← e1, ← Lib.toList_data, h]; rfl
  unfold nameOk
  rw [decide_eq_false (by omega)]
  rfl
theorem spec_j2_ev (ns : List NodeT) (i : Nat) (hi : i < ns.length) (hn : ns.length ≤ 1048576) (kind num : Int) (name : ByteArray) (kids : List Int) (hk : kids.length ≤ 1048576) (b : Bool) : Ev (fun k => spec_NodeOk.j2 k ns (i : Int) b kind num name kids) (!b && kidsR ns (i : Int) kind kids kids.length 0) := by
  cases b with
  | true => exact ev_s0 fun k => by rw [spec_NodeOk.j2, if_pos rfl]; rfl
  | false => exact ev_s1 (spec_kids_l0 ns i hi hn kind num name kids hk kids.length 0 (by omega) (by omega)) fun k h => by rw [spec_NodeOk.j2, if_neg (by decide)]; exact h
theorem spec_j1_ev (ns : List NodeT) (i : Nat) (hi : i < ns.length) (hn : ns.length ≤ 1048576) (kind num : Int) (name : ByteArray) (kids : List Int) (hk : kids.length ≤ 1048576) (b : Bool) : Ev (fun k => spec_NodeOk.j1 k ns (i : Int) b kind num name kids) (!b && (nameV kind name && kidsR ns (i : Int) kind kids kids.length 0)) := by
  cases b with
  | true => exact ev_s0 fun k => by rw [spec_NodeOk.j1, if_pos rfl]; rfl
  | false =>
    have jt := spec_j2_ev ns i hi hn kind num name kids hk true
    have jf := spec_j2_ev ns i hi hn kind num name kids hk false
    by_cases e : name.toList = ([] : List UInt8)
    · have e1 : (name.toList != ([] : List UInt8)) = false := by rw [e]; rfl
      have e2 : (name.toList == ([] : List UInt8)) = true := by rw [e]; rfl
      cases hv : namedV kind with
      | true =>
        refine ev_s1 jt fun k h => ?_
        rw [spec_NodeOk.j1, if_neg (by decide), spec_named_is, Option.bind_some, hv, e1, if_pos (by decide), h, nameV, if_pos hv, nameOk_nil name e]; rfl
      | false =>
        refine ev_s1 jf fun k h => ?_
        rw [spec_NodeOk.j1, if_neg (by decide), spec_named_is, Option.bind_some, hv, e1, if_neg (by decide), if_pos e, h, nameV, if_neg (by rw [hv]; decide), e2]; rfl
    · have e1 : (name.toList != ([] : List UInt8)) = true := by simpa using e
      have e2 : (name.toList == ([] : List UInt8)) = false := by simpa using e
      cases hv : namedV kind with
      | true =>
        have hN := spec_NameOk_ev name
        have jN := spec_j2_ev ns i hi hn kind num name kids hk (!nameOk name)
        refine ev_s2 hN jN fun k h h' => ?_
        rw [spec_NodeOk.j1, if_neg (by decide), spec_named_is, Option.bind_some, hv, e1, if_neg (by decide), if_neg e, h, Option.bind_some, h', nameV, if_pos hv]
        cases nameOk name <;> rfl
      | false =>
        refine ev_s1 jt fun k h => ?_
        rw [spec_NodeOk.j1, if_neg (by decide), spec_named_is, Option.bind_some, hv, e1, if_pos (by decide), h, nameV, if_neg (by rw [hv]; decide), e2]; rfl
def nodeOkV (ns : List NodeT) (a : Int) : Bool :=
  inB a 0 ((ns.length : Int) - 1) && (inB (rd_T62 ns a).f0 1 20 && (inB ((rd_T62 ns a).f3.length : Int) (shapeV (rd_T62 ns a).f0).1 (shapeV (rd_T62 ns a).f0).2 &&
    (numV2 (rd_T62 ns a).f0 (rd_T62 ns a).f1 && (nameV (rd_T62 ns a).f0 (rd_T62 ns a).f2 && kidsR ns a (rd_T62 ns a).f0 (rd_T62 ns a).f3 (rd_T62 ns a).f3.length 0))))
theorem spec_NodeOk_ev (ns : List NodeT) (hn : ns.length ≤ 1048576) (hk : ∀ x ∈ ns, nodeSm x) (a : Int) : Ev (fun k => spec_NodeOk.f k ns a) (nodeOkV ns a) := by
  have w1 : wrap64 ((ns.length : Int) - 1) = (ns.length : Int) - 1 := b_w64 (by omega) (by omega)
  have jt : Ev (fun k => spec_NodeOk.j0 k ns a true) false := ev_s0 fun k => by rw [spec_NodeOk.j0, if_pos rfl]
  by_cases ha : 0 ≤ a ∧ a ≤ (ns.length : Int) - 1
  · obtain ⟨i, rfl⟩ := Int.eq_ofNat_of_zero_le ha.1
    have hi : i < ns.length := by omega
    have q1 : (0 : Int) ≤ (i : Int) := by omega
    have q2 : (i : Int) < (ns.length : Int) := by omega
    have hb : inB (i : Int) 0 ((ns.length : Int) - 1) = true := decide_eq_true ha
    have hkk : (rd_T62 ns (i : Int)).f3.length ≤ 1048576 := by rw [rdNT_nat ns i hi]; exact (hk _ (List.getElem_mem hi)).2
    generalize hX : rd_T62 ns (i : Int) = X at hkk
    have j1 := fun b => spec_j1_ev ns i hi hn X.f0 X.f1 X.f2 X.f3 hkk b
    have hs := spec_kids_ev X.f0
    rw [nodeOkV, hb, Bool.true_and, hX]
    cases hkind : inB X.f0 1 20 with
    | false =>
      refine ev_a1 jt fun k h => ?_
      unfold inB at hkind
      rw [spec_NodeOk.f, w1, spec_in_is, Option.bind_some, decide_eq_true ha, if_pos rfl, if_pos q1, if_pos q2, hX, spec_in_is, Option.bind_some, hkind]
      exact h
    | true =>
      have j0 : Ev (fun k => spec_NodeOk.j0 k ns (i : Int) false) (inB (X.f3.length : Int) (shapeV X.f0).1 (shapeV X.f0).2 && (numV2 X.f0 X.f1 && (nameV X.f0 X.f2 && kidsR ns (i : Int) X.f0 X.f3 X.f3.length 0))) := by
        cases hlen : inB (X.f3.length : Int) (shapeV X.f0).1 (shapeV X.f0).2 with
        | false =>
          refine ev_s2 hs (j1 true) fun k h h' => ?_
          unfold inB at hlen
          rw [spec_NodeOk.j0, if_neg (by decide), if_pos q1, if_pos q2, hX, h, Option.bind_some, spec_in_is, Option.bind_some, hlen, if_neg (by decide)]
          exact h'
        | true =>
          by_cases hnum : 0 ≤ X.f1 ∧ X.f1 ≤ 1000000000
          · by_cases hone : X.f0 = 1
            · refine ev_s2 hs (j1 false) fun k h h' => ?_
              unfold inB at hlen
              rw [spec_NodeOk.j0, if_neg (by decide), if_pos q1, if_pos q2, hX, h, Option.bind_some, spec_in_is, Option.bind_some, hlen, if_pos rfl, spec_in_is, Option.bind_some, decide_eq_true hnum, if_pos rfl, if_pos hone, h', numV2, if_pos hone, inB, decide_eq_true hnum]
              rfl
            · refine ev_s2 hs (j1 (X.f1 != 0)) fun k h h' => ?_
              unfold inB at hlen
              rw [spec_NodeOk.j0, if_neg (by decide), if_pos q1, if_pos q2, hX, h, Option.bind_some, spec_in_is, Option.bind_some, hlen, if_pos rfl, spec_in_is, Option.bind_some, decide_eq_true hnum, if_pos rfl, if_neg hone, h', numV2, if_neg hone]
              cases hz : X.f1 == 0 <;> simp [bne, hz]
          · refine ev_s2 hs (j1 true) fun k h h' => ?_
            have hz : numV2 X.f0 X.f1 = false := by
              unfold numV2
              by_cases hone : X.f0 = 1
              · rw [if_pos hone, inB, decide_eq_false hnum]
              · rw [if_neg hone]
                have : ¬ X.f1 = 0 := by intro e; apply hnum; omega
                exact beq_eq_false_iff_ne.mpr this
            unfold inB at hlen
            rw [spec_NodeOk.j0, if_neg (by decide), if_pos q1, if_pos q2, hX, h, Option.bind_some, spec_in_is, Option.bind_some, hlen, if_pos rfl, spec_in_is, Option.bind_some, decide_eq_false hnum, if_neg (by decide), h', hz]
            rfl
      refine ev_a1 j0 fun k h => ?_
      unfold inB at hkind
      rw [spec_NodeOk.f, w1, spec_in_is, Option.bind_some, decide_eq_true ha, if_pos rfl, if_pos q1, if_pos q2, hX, spec_in_is, Option.bind_some, hkind]
      exact h
  · refine ev_a1 jt fun k h => ?_
    rw [spec_NodeOk.f, w1, spec_in_is, Option.bind_some, decide_eq_false ha, if_neg (by decide), nodeOkV, inB, decide_eq_false ha]
    exact h
theorem impl_j2_ev (kind num : Int) (name : ByteArray) (kids : List Int) (b : Bool) : Ev (fun k => impl_NodeOk.j2 k b kind num name kids) (!b && nameV kind name) := by
  cases b with
  | true => exact ev_s0 fun k => by rw [impl_NodeOk.j2, if_pos rfl]; rfl
  | false =>
    refine ev_s1 (impl_NameOk_ev name) fun k h => ?_
    rw [impl_NodeOk.j2, if_neg (by decide), impl_named_is, Option.bind_some, h, nameV]
    cases namedV kind <;> rfl
theorem impl_kids_l0 (ns : List NodeT) (i : Nat) (hi : i < ns.length) (hn : ns.length ≤ 1048576) (kind num : Int) (name : ByteArray) (kids : List Int) (hk : kids.length ≤ 1048576) : ∀ n p : Nat, kids.length - p = n → p ≤ kids.length → Ev (fun k => impl_NodeOk.l0 k ns (i : Int) kids (kids.length : Int) (p : Int) kind num name kids) (kidsR ns (i : Int) kind kids n p && (numV2 kind num && nameV kind name))
  | 0, p, hn', hp => by
    rw [kidsR, Bool.true_and]
    by_cases hone : kind = 1
    · have j := impl_j2_ev kind num name kids (!inB num 0 1000000000)
      refine ev_s1 j fun k h => ?_
      rw [impl_NodeOk.l0, if_neg (by omega), if_pos hone, impl_in_is, Option.bind_some, numV2, if_pos hone]
      unfold inB at h ⊢
      cases hb : decide (0 ≤ num ∧ num ≤ 1000000000) <;> rw [hb] at h
      · rw [if_neg (by decide)]; exact h
      · rw [if_pos rfl]; exact h
    · refine ev_s1 (impl_j2_ev kind num name kids (num != 0)) fun k h => ?_
      rw [impl_NodeOk.l0, if_neg (by omega), if_neg hone, numV2, if_neg hone, h]
      cases hz : num == 0 <;> simp [bne, hz]
  | n + 1, p, hn', hp => by
    have q1 : (p : Int) < (kids.length : Int) := by omega
    have q2 : (0 : Int) ≤ (p : Int) := by omega
    have q3 : (p : Int) ≤ (kids.length : Int) := by omega
    have w1 : wrap64 ((i : Int) - 1) = (i : Int) - 1 := b_w64 (by omega) (by omega)
    have w2 : wrap64 ((p : Int) + 1) = ((p + 1 : Nat) : Int) := w_succ (by omega)
    have ih := impl_kids_l0 ns i hi hn kind num name kids hk n (p + 1) (by omega) (by omega)
    have hd := impl_hasInt_ev kids p (by omega) hk (rd kids (p : Int))
    have hf := impl_fits_ev kind (p : Int) (rd_T62 ns (rd kids (p : Int))).f0
    rw [kidsR]
    cases hb : inB (rd kids (p : Int)) 0 ((i : Int) - 1) with
    | false =>
      refine ev_s0 fun k => ?_
      unfold inB at hb
      rw [impl_NodeOk.l0, if_pos q1, if_pos q2, if_pos q1, w1, impl_in_is, Option.bind_some, hb, if_neg (by decide)]
      rfl
    | true =>
      have hb' : 0 ≤ rd kids (p : Int) ∧ rd kids (p : Int) ≤ (i : Int) - 1 := by simpa [inB] using hb
      have p1 := hb'.1
      have p2 : rd kids (p : Int) < (ns.length : Int) := by have := hb'.2; omega
      unfold inB at hb
      refine ev_s3 hd hf ih fun k h h' h'' => ?_
      rw [impl_NodeOk.l0, if_pos q1, if_pos q2, if_pos q1, w1, impl_in_is, Option.bind_some, hb, if_pos rfl, if_pos q3, Int.toNat_natCast, h, Option.bind_some, if_pos p1, if_pos p2, h', w2, h'']
      cases dupR kids (rd kids (p : Int)) p 0 <;> cases fitsV kind (p : Int) (rd_T62 ns (rd kids (p : Int))).f0 <;> rfl
theorem impl_NodeOk_ev (ns : List NodeT) (hn : ns.length ≤ 1048576) (hk : ∀ x ∈ ns, nodeSm x) (a : Int) : Ev (fun k => impl_NodeOk.f k ns a) (nodeOkV ns a) := by
  have w1 : wrap64 ((ns.length : Int) - 1) = (ns.length : Int) - 1 := b_w64 (by omega) (by omega)
  by_cases ha : 0 ≤ a ∧ a ≤ (ns.length : Int) - 1
  · obtain ⟨i, rfl⟩ := Int.eq_ofNat_of_zero_le ha.1
    have hi : i < ns.length := by omega
    have q1 : (0 : Int) ≤ (i : Int) := by omega
    have q2 : (i : Int) < (ns.length : Int) := by omega
    have hb : inB (i : Int) 0 ((ns.length : Int) - 1) = true := decide_eq_true ha
    have hkk : (rd_T62 ns (i : Int)).f3.length ≤ 1048576 := by rw [rdNT_nat ns i hi]; exact (hk _ (List.getElem_mem hi)).2
    generalize hX : rd_T62 ns (i : Int) = X at hkk
    have hs := impl_shape_ev X.f0
    have j0 : ∀ b : Bool, Ev (fun k => impl_NodeOk.j0 k ns (i : Int) b X.f0 X.f1 X.f2 X.f3) (!b && (kidsR ns (i : Int) X.f0 X.f3 X.f3.length 0 && (numV2 X.f0 X.f1 && nameV X.f0 X.f2))) := by
      intro b
      cases b with
      | true => exact ev_s0 fun k => by rw [impl_NodeOk.j0, if_pos rfl]; rfl
      | false => exact ev_s1 (impl_kids_l0 ns i hi hn X.f0 X.f1 X.f2 X.f3 hkk X.f3.length 0 (by omega) (by omega)) fun k h => by rw [impl_NodeOk.j0, if_neg (by decide)]; exact h
    rw [nodeOkV, hb, Bool.true_and, hX]
    cases hkind : inB X.f0 1 20 with
    | false =>
      refine ev_a2 hs (j0 true) fun k h h' => ?_
      unfold inB at hkind
      rw [impl_NodeOk.f, w1, impl_in_is, Option.bind_some, decide_eq_true ha, if_pos rfl, if_pos q1, if_pos q2, hX, h, Option.bind_some, impl_in_is, Option.bind_some, hkind, if_neg (by decide), h']
      rfl
    | true =>
      refine ev_a2 hs (j0 (!inB (X.f3.length : Int) (shapeV X.f0).1 (shapeV X.f0).2)) fun k h h' => ?_
      unfold inB at hkind h'
      rw [impl_NodeOk.f, w1, impl_in_is, Option.bind_some, decide_eq_true ha, if_pos rfl, if_pos q1, if_pos q2, hX, h, Option.bind_some, impl_in_is, Option.bind_some, hkind, if_pos rfl, impl_in_is, Option.bind_some, h']
      unfold inB
      generalize kidsR ns (i : Int) X.f0 X.f3 X.f3.length 0 = b1
      generalize numV2 X.f0 X.f1 = b2
      generalize nameV X.f0 X.f2 = b3
      generalize decide ((shapeV X.f0).1 ≤ (X.f3.length : Int) ∧ (X.f3.length : Int) ≤ (shapeV X.f0).2) = b4
      cases b1 <;> cases b2 <;> cases b3 <;> cases b4 <;> rfl
  · exact ev_a0 fun k => by
      rw [impl_NodeOk.f, w1, impl_in_is, Option.bind_some, decide_eq_false ha, if_neg (by decide), nodeOkV, inB, decide_eq_false ha]
      rfl

theorem kidsR_in (ns : List NodeT) (K kind : Int) (kids : List Int) : ∀ n p : Nat, kidsR ns K kind kids n p = true → ∀ q, p ≤ q → q < p + n → 0 ≤ rd kids (q : Int) ∧ rd kids (q : Int) ≤ K - 1
  | 0, p, _, q, h1, h2 => by omega
  | n + 1, p, h, q, h1, h2 => by
    rw [kidsR] at h
    simp only [Bool.and_eq_true] at h
    by_cases e : q = p
    · subst e
      have h0 := h.1.1.1
      unfold inB at h0
      exact of_decide_eq_true h0
    · exact kidsR_in ns K kind kids n (p + 1) h.2 q (by omega) (by omega)
theorem nodeOkV_kids (ns : List NodeT) (i : Nat) (h : nodeOkV ns (i : Int) = true) : ∀ q : Nat, q < (rd_T62 ns (i : Int)).f3.length → 0 ≤ rd (rd_T62 ns (i : Int)).f3 (q : Int) ∧ rd (rd_T62 ns (i : Int)).f3 (q : Int) ≤ (i : Int) - 1 := by
  intro q hq
  unfold nodeOkV at h
  simp only [Bool.and_eq_true] at h
  exact kidsR_in ns _ _ _ _ 0 h.2.2.2.2.2 q (by omega) (by omega)
def kidsMax (ds kids : List Int) : Nat → Nat → Int → Int
  | 0, _, d => d
  | n + 1, p, d => kidsMax ds kids n (p + 1) (if rd ds (rd kids (p : Int)) + 1 > d then rd ds (rd kids (p : Int)) + 1 else d)
theorem kidsMax_ge (ds kids : List Int) : ∀ (n p : Nat) (d : Int), d ≤ kidsMax ds kids n p d
  | 0, _, d => by rw [kidsMax]; omega
  | n + 1, p, d => by
    rw [kidsMax]
    refine Int.le_trans ?_ (kidsMax_ge ds kids n (p + 1) _)
    split <;> omega
def nodeDeep (ns : List NodeT) (ds : List Int) (i : Nat) : Int := kidsMax ds (rd_T62 ns (i : Int)).f3 (rd_T62 ns (i : Int)).f3.length 0 1
def deeps (ns : List NodeT) : Nat → Option (List Int)
  | 0 => some []
  | i + 1 => match deeps ns i with
    | none => none
    | some ds => if nodeOkV ns (i : Int) = true then (if nodeDeep ns ds i > 10 then none else some (ds ++ [nodeDeep ns ds i])) else none
theorem rd_app_lt (xs ys : List Int) (j : Nat) (h : j < xs.length) : rd (xs ++ ys) (j : Int) = rd xs (j : Int) := by
  rw [rd_nat _ j (by rw [List.length_append]; omega), rd_nat xs j h, List.getElem_append_left h]
theorem rd_app_at (xs : List Int) (v : Int) (i : Nat) (h : xs.length = i) : rd (xs ++ [v]) (i : Int) = v := by
  subst h
  rw [rd_nat _ _ (by rw [List.length_append, List.length_singleton]; omega)]
  simp
theorem deeps_is (ns : List NodeT) : ∀ (i : Nat) (ds : List Int), deeps ns i = some ds → ds.length = i ∧ ∀ j : Nat, j < i → 1 ≤ rd ds (j : Int) ∧ rd ds (j : Int) ≤ 10
  | 0, ds, h => by rw [deeps] at h; cases h; exact ⟨rfl, fun j hj => by omega⟩
  | i + 1, ds, h => by
    rw [deeps] at h
    cases e : deeps ns i with
    | none => rw [e] at h; cases h
    | some es =>
      rw [e] at h
      obtain ⟨hl, hb⟩ := deeps_is ns i es e
      simp only [] at h
      split at h
      · split at h
        · cases h
        · rename_i _ hD
          cases h
          have hg := kidsMax_ge es (rd_T62 ns (i : Int)).f3 (rd_T62 ns (i : Int)).f3.length 0 1
          refine ⟨by rw [List.length_append, List.length_singleton]; omega, fun j hj => ?_⟩
          by_cases c : j = i
          · subst c
            rw [rd_app_at es _ j hl]
            unfold nodeDeep at hD ⊢
            omega
          · rw [rd_app_lt es _ j (by omega)]; exact hb j (by omega)
      · cases h
theorem deeps_none (ns : List NodeT) (i : Nat) (h : deeps ns i = none) : ∀ d : Nat, deeps ns (i + d) = none
  | 0 => h
  | d + 1 => by rw [← Nat.add_assoc, deeps, deeps_none ns i h d]
theorem deeps_ok (ns : List NodeT) (i : Nat) (ds : List Int) (h : deeps ns (i + 1) = some ds) : nodeOkV ns (i : Int) = true ∧ ∃ es, deeps ns i = some es ∧ nodeDeep ns es i ≤ 10 ∧ ds = es ++ [nodeDeep ns es i] := by
  rw [deeps] at h
  cases e : deeps ns i with
  | none => rw [e] at h; cases h
  | some es =>
    rw [e] at h
    simp only [] at h
    split at h
    · split at h
      · cases h
      · rename_i h1 h2
        cases h
        exact ⟨h1, es, rfl, by omega, rfl⟩
    · cases h
theorem w_kid (x : Int) (h0 : 1 ≤ x) (h1 : x ≤ 10) : wrap64 (x + 1) = x + 1 := b_w64 (by omega) (by omega)
theorem impl_depths_l1 (ns : List NodeT) (a : Int) (ds : List Int) (i : Nat) (hd : ds.length = i) (hb : ∀ j : Nat, j < i → 1 ≤ rd ds (j : Int) ∧ rd ds (j : Int) ≤ 10) (kids : List Int) (hk : kids.length ≤ 1048576)
    (hkk : ∀ q : Nat, q < kids.length → 0 ≤ rd kids (q : Int) ∧ rd kids (q : Int) ≤ (i : Int) - 1) (R : List Int × Bool) :
    ∀ (n p : Nat) (d : Int), kids.length - p = n → p ≤ kids.length →
    Ev (fun k => if kidsMax ds kids n p d > 10 then (some (([] : List Int), false)) else (if ds.length < 17592186044416 then (impl_depths.l0 k ns a (ds ++ [kidsMax ds kids n p d]) (wrap64 ((i : Int) + 1))) else (none))) R →
    Ev (fun k => impl_depths.l1 k ns a ds (i : Int) d kids (kids.length : Int) (p : Int)) R
  | 0, p, d, hn, hp, H => by
    refine ev_s1 H fun k h => ?_
    rw [impl_depths.l1, if_neg (by omega)]
    exact h
  | n + 1, p, d, hn, hp, H => by
    have q1 : (p : Int) < (kids.length : Int) := by omega
    have q2 : (0 : Int) ≤ (p : Int) := by omega
    obtain ⟨k1, k2⟩ := hkk p (by omega)
    obtain ⟨m, hm⟩ := Int.eq_ofNat_of_zero_le k1
    obtain ⟨b1, b2⟩ := hb m (by omega)
    have q3 : rd kids (p : Int) < (ds.length : Int) := by omega
    have r1 : kids.length - (p + 1) = n := by omega
    have r2 : p + 1 ≤ kids.length := by omega
    have w1 : wrap64 (rd ds (rd kids (p : Int)) + 1) = rd ds (rd kids (p : Int)) + 1 := by rw [hm]; exact w_kid _ b1 b2
    have w2 : wrap64 ((p : Int) + 1) = ((p + 1 : Nat) : Int) := w_succ (by omega)
    have e : mx d (rd ds (rd kids (p : Int)) + 1) = (if rd ds (rd kids (p : Int)) + 1 > d then rd ds (rd kids (p : Int)) + 1 else d) := by
      unfold mx; by_cases c : d < rd ds (rd kids (p : Int)) + 1
      · rw [if_pos c]
      · rw [if_neg c]
    refine ev_s1 (impl_depths_l1 ns a ds i hd hb kids hk hkk R n (p + 1) (if rd ds (rd kids (p : Int)) + 1 > d then rd ds (rd kids (p : Int)) + 1 else d) r1 r2 H) fun k h => ?_
    rw [impl_depths.l1, if_pos q1, if_pos q2, if_pos q1, if_pos k1, if_pos q3, w1, w2, e]
    exact h
def depthsV (ns : List NodeT) (i : Nat) : List Int × Bool := match deeps ns i with | some l => (l, true) | none => ([], false)
theorem impl_depths_l0 (ns : List NodeT) (hn : ns.length ≤ 1048576) (hk : ∀ x ∈ ns, nodeSm x) (a : Nat) (ha : a < ns.length) : ∀ (d i : Nat) (ds : List Int), i + d = a + 1 → deeps ns i = some ds →
    Ev (fun k => impl_depths.l0 k ns (a : Int) ds (i : Int)) (depthsV ns (a + 1))
  | 0, i, ds, h, e => by
    refine ev_s0 fun k => ?_
    obtain rfl : i = a + 1 := by omega
    rw [impl_depths.l0, if_neg (by omega), depthsV, e]
  | d + 1, i, ds, h, e => by
    have q1 : (i : Int) ≤ (a : Int) := by omega
    have q2 : (0 : Int) ≤ (i : Int) := by omega
    have hi : i < ns.length := by omega
    have q3 : (i : Int) < (ns.length : Int) := by omega
    obtain ⟨hl, hb⟩ := deeps_is ns i ds e
    have hN := impl_NodeOk_ev ns hn hk (i : Int)
    cases ok : nodeOkV ns (i : Int) with
    | false =>
      rw [ok] at hN
      have hz : deeps ns (i + 1) = none := by rw [deeps, e]; simp [ok]
      have hz2 := deeps_none ns (i + 1) hz d
      rw [show i + 1 + d = a + 1 by omega] at hz2
      refine ev_s1 hN fun k h1 => ?_
      rw [impl_depths.l0, if_pos q1, h1, Option.bind_some, if_neg (by decide), depthsV, hz2]
    | true =>
      rw [ok] at hN
      have hkk := nodeOkV_kids ns i ok
      have hkl : (rd_T62 ns (i : Int)).f3.length ≤ 1048576 := by rw [rdNT_nat ns i hi]; exact (hk _ (List.getElem_mem hi)).2
      have H : Ev (fun k => impl_depths.l1 k ns (a : Int) ds (i : Int) 1 (rd_T62 ns (i : Int)).f3 ((rd_T62 ns (i : Int)).f3.length : Int) ((0 : Nat) : Int)) (depthsV ns (a + 1)) := by
        refine impl_depths_l1 ns a ds i hl hb _ hkl hkk _ (rd_T62 ns (i : Int)).f3.length 0 1 rfl (by omega) ?_
        by_cases c : nodeDeep ns ds i > 10
        · have hz : deeps ns (i + 1) = none := by rw [deeps, e]; simp [ok, c]
          have hz2 := deeps_none ns (i + 1) hz d
          rw [show i + 1 + d = a + 1 by omega] at hz2
          refine ev_a0 fun k => ?_
          unfold nodeDeep at c
          rw [if_pos c, depthsV, hz2]
        · have hz : deeps ns (i + 1) = some (ds ++ [nodeDeep ns ds i]) := by rw [deeps, e]; simp [ok, c]
          refine ev_a1 (impl_depths_l0 ns hn hk a ha d (i + 1) _ (by omega) hz) fun k h1 => ?_
          unfold nodeDeep at c h1
          rw [if_neg c, if_pos (by omega), w_succ (by omega)]
          exact h1
      refine ev_s2 hN H fun k h1 h2 => ?_
      rw [impl_depths.l0, if_pos q1, h1, Option.bind_some, if_pos rfl, if_pos q2, if_pos q3]
      exact h2
def deepV (ns : List NodeT) (a : Int) : Int := if inB a 0 ((ns.length : Int) - 1) = true then (match deeps ns (a.toNat + 1) with | some l => rd l a | none => 0) else 0
theorem impl_DeepOf_ev (ns : List NodeT) (hn : ns.length ≤ 1048576) (hk : ∀ x ∈ ns, nodeSm x) (a : Int) : Ev (fun k => impl_DeepOf.f k ns a) (deepV ns a) := by
  have w1 : wrap64 ((ns.length : Int) - 1) = (ns.length : Int) - 1 := b_w64 (by omega) (by omega)
  by_cases ha : 0 ≤ a ∧ a ≤ (ns.length : Int) - 1
  · obtain ⟨i, rfl⟩ := Int.eq_ofNat_of_zero_le ha.1
    refine ev_a1 (impl_depths_l0 ns hn hk i (by omega) (i + 1) 0 [] (by omega) rfl) fun k h => ?_
    have h' : impl_depths.l0 k ns (i : Int) [] 0 = some (depthsV ns (i + 1)) := h
    have q1 : (0 : Int) ≤ (i : Int) := by omega
    rw [impl_DeepOf.f, impl_depths.f, w1, impl_in_is, Option.bind_some, decide_eq_true ha, if_pos rfl, h', Option.bind_some, deepV, inB, decide_eq_true ha, if_pos rfl, Int.toNat_natCast, depthsV]
    cases e : deeps ns (i + 1) with
    | none => simp
    | some l =>
      have hl := (deeps_is ns _ l e).1
      simp only [if_true]
      rw [if_pos q1, if_pos (by omega)]
  · refine ev_a0 fun k => ?_
    rw [impl_DeepOf.f, impl_depths.f, w1, impl_in_is, Option.bind_some, decide_eq_false ha, if_neg (by decide), Option.bind_some, deepV, inB, decide_eq_false ha]
    simp
def specL (ns : List NodeT) : Nat → List Int
  | 0 => []
  | i + 1 => match deeps ns (i + 1) with | some ds => ds | none => specL ns i ++ [0]
theorem specL_some (ns : List NodeT) (i : Nat) (ds : List Int) (h : deeps ns i = some ds) : specL ns i = ds := by
  cases i with
  | zero => rw [deeps] at h; cases h; rfl
  | succ i => rw [specL, h]
theorem specL_len (ns : List NodeT) : ∀ i : Nat, (specL ns i).length = i
  | 0 => rfl
  | i + 1 => by
    rw [specL]
    cases e : deeps ns (i + 1) with
    | some ds => exact (deeps_is ns _ ds e).1
    | none => simp only [List.length_append, List.length_singleton, specL_len ns i]
theorem specL_zero (ns : List NodeT) (i : Nat) (h : deeps ns (i + 1) = none) : rd (specL ns (i + 1)) (i : Int) = 0 := by
  rw [specL, h]
  exact rd_app_at _ 0 i (specL_len ns i)
theorem spec_deeps_l1 (ns : List NodeT) (a : Int) (ds : List Int) (i : Nat) (hi : i < ns.length) (hd : ds.length = i) (hb : ∀ j : Nat, j < i → 1 ≤ rd ds (j : Int) ∧ rd ds (j : Int) ≤ 10) (kids : List Int) (hK : (rd_T62 ns (i : Int)).f3 = kids) (hk : kids.length ≤ 1048576)
    (hkk : ∀ q : Nat, q < kids.length → 0 ≤ rd kids (q : Int) ∧ rd kids (q : Int) ≤ (i : Int) - 1) (R : List Int) :
    ∀ (n p : Nat) (d : Int), kids.length - p = n → p ≤ kids.length → 1 ≤ d →
    Ev (fun k => if kidsMax ds kids n p d > 10 then (if ds.length < 17592186044416 then (spec_l04Deeps.l0 k ns a (ds ++ [0]) (wrap64 ((i : Int) + 1))) else (none)) else (if ds.length < 17592186044416 then (spec_l04Deeps.l0 k ns a (ds ++ [kidsMax ds kids n p d]) (wrap64 ((i : Int) + 1))) else (none))) R →
    Ev (fun k => spec_l04Deeps.l1 k ns a ds (i : Int) d (p : Int)) R
  | 0, p, d, hn, hp, h1d, H => by
    have q1 : (0 : Int) ≤ (i : Int) := by omega
    have q2 : (i : Int) < (ns.length : Int) := by omega
    have H2 : Ev (fun k => spec_l04Deeps.j5 k ns a ds (i : Int) d (p : Int) false) R := ev_s1 H fun k h => by
      rw [spec_l04Deeps.j5, if_neg (by decide)]; exact h
    refine ev_s1 H2 fun k h => ?_
    rw [spec_l04Deeps.l1, if_pos (by omega), if_pos q1, if_pos q2, hK, decide_eq_false (by omega)]
    exact h
  | n + 1, p, d, hn, hp, h1d, H => by
    have q1 : (0 : Int) ≤ (i : Int) := by omega
    have q2 : (i : Int) < (ns.length : Int) := by omega
    have q3 : (p : Int) < (kids.length : Int) := by omega
    have q4 : (0 : Int) ≤ (p : Int) := by omega
    obtain ⟨k1, k2⟩ := hkk p (by omega)
    obtain ⟨m, hm⟩ := Int.eq_ofNat_of_zero_le k1
    obtain ⟨b1, b2⟩ := hb m (by omega)
    have q5 : rd kids (p : Int) < (ds.length : Int) := by omega
    have r1 : kids.length - (p + 1) = n := by omega
    have r2 : p + 1 ≤ kids.length := by omega
    have hge : 1 ≤ (if rd ds (rd kids (p : Int)) + 1 > d then rd ds (rd kids (p : Int)) + 1 else d) := by split <;> omega
    have q0 : d > 0 := by omega
    have w1 : wrap64 (rd ds (rd kids (p : Int)) + 1) = rd ds (rd kids (p : Int)) + 1 := by rw [hm]; exact w_kid _ b1 b2
    have w2 : wrap64 ((p : Int) + 1) = ((p + 1 : Nat) : Int) := w_succ (by omega)
    have ih := spec_deeps_l1 ns a ds i hi hd hb kids hK hk hkk R n (p + 1) (if rd ds (rd kids (p : Int)) + 1 > d then rd ds (rd kids (p : Int)) + 1 else d) r1 r2 hge H
    have H2 : Ev (fun k => spec_l04Deeps.j5 k ns a ds (i : Int) d (p : Int) true) R := ev_s1 ih fun k h => by
      rw [spec_l04Deeps.j5, if_pos rfl, if_pos q1, if_pos q2, hK, if_pos q4, if_pos q3, if_pos k1, if_pos q5, w1, w2]
      by_cases c : rd ds (rd kids (p : Int)) + 1 > d
      · rw [if_pos c] at h ⊢; exact h
      · rw [if_neg c] at h ⊢; exact h
    refine ev_s1 H2 fun k h => ?_
    rw [spec_l04Deeps.l1, if_pos q0, if_pos q1, if_pos q2, hK, decide_eq_true q3]
    exact h
theorem spec_deeps_zero (ns : List NodeT) (a : Int) (l : List Int) (i : Nat) (hi : i < 1048576) (hl : l.length = i) (R : List Int) (H : Ev (fun k => spec_l04Deeps.l0 k ns a (l ++ [0]) ((i + 1 : Nat) : Int)) R) (d : Int) : Ev (fun k => spec_l04Deeps.j2 k ns a l (i : Int) d true) R := by
  have h5 : Ev (fun k => spec_l04Deeps.j5 k ns a l (i : Int) 0 0 false) R := ev_s1 H fun k h => by
    rw [spec_l04Deeps.j5, if_neg (by decide), if_neg (by decide), if_pos (by omega), w_succ (by omega)]; exact h
  have h1 : Ev (fun k => spec_l04Deeps.l1 k ns a l (i : Int) 0 0) R := ev_s1 h5 fun k h => by rw [spec_l04Deeps.l1, if_neg (by decide)]; exact h
  have h3 : Ev (fun k => spec_l04Deeps.j3 k ns a l (i : Int) 0) R := ev_s1 h1 fun k h => by rw [spec_l04Deeps.j3]; exact h
  exact ev_s1 h3 fun k h => by rw [spec_l04Deeps.j2, if_pos rfl]; exact h
theorem spec_deeps_l0 (ns : List NodeT) (hn : ns.length ≤ 1048576) (hk : ∀ x ∈ ns, nodeSm x) (a : Nat) (ha : a < ns.length) : ∀ (d i : Nat), i + d = a + 1 →
    Ev (fun k => spec_l04Deeps.l0 k ns (a : Int) (specL ns i) (i : Int)) (specL ns (a + 1))
  | 0, i, h => by
    obtain rfl : i = a + 1 := by omega
    have h1 : Ev (fun k => spec_l04Deeps.j1 k ns (a : Int) (specL ns (a + 1)) ((a + 1 : Nat) : Int) false) (specL ns (a + 1)) := ev_s0 fun k => by rw [spec_l04Deeps.j1, if_neg (by decide)]
    refine ev_s1 h1 fun k h => ?_
    rw [spec_l04Deeps.l0, if_neg (by omega)]; exact h
  | d + 1, i, h => by
    have q1 : (i : Int) ≤ (a : Int) := by omega
    have hi : i < ns.length := by omega
    have q3 : (i : Int) < (ns.length : Int) := by omega
    have ih := spec_deeps_l0 ns hn hk a ha d (i + 1) (by omega)
    have hl := specL_len ns i
    have hN := spec_NodeOk_ev ns hn hk (i : Int)
    have H1 : Ev (fun k => spec_l04Deeps.j1 k ns (a : Int) (specL ns i) (i : Int) true) (specL ns (a + 1)) := by
      cases ok : nodeOkV ns (i : Int) with
      | false =>
        have hz : deeps ns (i + 1) = none := by
          rw [deeps]
          cases deeps ns i with
          | none => rfl
          | some ds => simp [ok]
        have e : specL ns (i + 1) = specL ns i ++ [0] := by rw [specL, hz]
        rw [ok] at hN
        rw [e] at ih
        refine ev_s2 hN (spec_deeps_zero ns a _ i (by omega) hl _ ih 1) fun k h1 h2 => ?_
        rw [spec_l04Deeps.j1, if_pos rfl, h1, Option.bind_some, if_neg (by decide)]
        exact h2
      | true =>
        rw [ok] at hN
        cases e : deeps ns i with
        | none =>
          have hz : deeps ns (i + 1) = none := by rw [deeps, e]
          have e2 : specL ns (i + 1) = specL ns i ++ [0] := by rw [specL, hz]
          rw [e2] at ih
          obtain ⟨j, rfl⟩ : ∃ j, i = j + 1 := ⟨i - 1, by cases i with | zero => rw [deeps] at e; cases e | succ j => omega⟩
          have z := specL_zero ns j e
          have w1 : wrap64 (((j + 1 : Nat) : Int) - 1) = (j : Int) := by rw [b_w64 (by omega) (by omega)]; omega
          refine ev_s2 hN (spec_deeps_zero ns a _ (j + 1) (by omega) hl _ ih 1) fun k h1 h2 => ?_
          rw [spec_l04Deeps.j1, if_pos rfl, h1, Option.bind_some, if_pos rfl, if_pos (by omega), w1, if_pos (by omega), if_pos (by rw [hl]; omega), z]
          exact h2
        | some ds =>
          obtain ⟨hdl, hdb⟩ := deeps_is ns i ds e
          have es := specL_some ns i ds e
          rw [es]
          have hkk := nodeOkV_kids ns i ok
          have hkl : (rd_T62 ns (i : Int)).f3.length ≤ 1048576 := by rw [rdNT_nat ns i hi]; exact (hk _ (List.getElem_mem hi)).2
          have hL : Ev (fun k => spec_l04Deeps.l1 k ns (a : Int) ds (i : Int) 1 ((0 : Nat) : Int)) (specL ns (a + 1)) := by
            refine spec_deeps_l1 ns a ds i hi hdl hdb _ rfl hkl hkk _ (rd_T62 ns (i : Int)).f3.length 0 1 rfl (by omega) (by omega) ?_
            by_cases c : nodeDeep ns ds i > 10
            · have hz : deeps ns (i + 1) = none := by rw [deeps, e]; simp [ok, c]
              have e2 : specL ns (i + 1) = ds ++ [0] := by rw [specL, hz, es]
              rw [e2] at ih
              refine ev_a1 ih fun k h1 => ?_
              unfold nodeDeep at c
              rw [if_pos c, if_pos (by omega), w_succ (by omega)]
              exact h1
            · have hz : deeps ns (i + 1) = some (ds ++ [nodeDeep ns ds i]) := by rw [deeps, e]; simp [ok, c]
              have e2 : specL ns (i + 1) = ds ++ [nodeDeep ns ds i] := by rw [specL, hz]
              rw [e2] at ih
              refine ev_a1 ih fun k h1 => ?_
              unfold nodeDeep at c h1
              rw [if_neg c, if_pos (by omega), w_succ (by omega)]
              exact h1
          have h3 : Ev (fun k => spec_l04Deeps.j3 k ns (a : Int) ds (i : Int) 1) (specL ns (a + 1)) := ev_s1 hL fun k h => by rw [spec_l04Deeps.j3]; exact h
          have h2 : Ev (fun k => spec_l04Deeps.j2 k ns (a : Int) ds (i : Int) 1 false) (specL ns (a + 1)) := ev_s1 h3 fun k h => by rw [spec_l04Deeps.j2, if_neg (by decide)]; exact h
          by_cases c : i = 0
          · refine ev_s2 hN h2 fun k h1 h2 => ?_
            rw [spec_l04Deeps.j1, if_pos rfl, h1, Option.bind_some, if_pos rfl, if_neg (by omega)]
            exact h2
          · have hb := hdb (i - 1) (by omega)
            have w1 : wrap64 ((i : Int) - 1) = ((i - 1 : Nat) : Int) := by rw [b_w64 (by omega) (by omega)]; omega
            refine ev_s2 hN h2 fun k h1 h2 => ?_
            rw [spec_l04Deeps.j1, if_pos rfl, h1, Option.bind_some, if_pos rfl, if_pos (by omega), w1, if_pos (by omega), if_pos (by rw [hdl]; omega), beq_eq_false_iff_ne.mpr (by omega)]
            exact h2
    refine ev_s1 H1 fun k h => ?_
    rw [spec_l04Deeps.l0, if_pos q1, decide_eq_true q3]
    exact h

theorem spec_DeepOf_ev (ns : List NodeT) (hn : ns.length ≤ 1048576) (hk : ∀ x ∈ ns, nodeSm x) (a : Int) : Ev (fun k => spec_DeepOf.f k ns a) (deepV ns a) := by
  have w1 : wrap64 ((ns.length : Int) - 1) = (ns.length : Int) - 1 := b_w64 (by omega) (by omega)
  by_cases ha : 0 ≤ a ∧ a ≤ (ns.length : Int) - 1
  · obtain ⟨i, rfl⟩ := Int.eq_ofNat_of_zero_le ha.1
    refine ev_a1 (spec_deeps_l0 ns hn hk i (by omega) (i + 1) 0 (by omega)) fun k h => ?_
    have h' : spec_l04Deeps.l0 k ns (i : Int) [] 0 = some (specL ns (i + 1)) := h
    have q1 : (0 : Int) ≤ (i : Int) := by omega
    have hl := specL_len ns (i + 1)
    rw [spec_DeepOf.f, w1, spec_in_is, Option.bind_some, decide_eq_true ha, if_pos rfl, spec_l04Deeps.f, h', Option.bind_some, if_pos q1, if_pos (by rw [hl]; omega), deepV, inB, decide_eq_true ha, if_pos rfl, Int.toNat_natCast]
    cases e : deeps ns (i + 1) with
    | none => rw [specL_zero ns i e]
    | some l => rw [specL_some ns _ l e]
  · refine ev_a0 fun k => ?_
    rw [spec_DeepOf.f, w1, spec_in_is, Option.bind_some, decide_eq_false ha, if_neg (by decide), deepV, inB, decide_eq_false ha]
    simp

def kdOf (ns : List NodeT) (j : Nat) : List Int := (rd_T62 ns (j : Int)).f3
theorem deeps_all (ns : List NodeT) : ∀ (i : Nat) (ds : List Int), deeps ns i = some ds → ∀ j, j < i → nodeOkV ns (j : Int) = true
  | 0, _, _, j, hj => by omega
  | i + 1, ds, h, j, hj => by
    obtain ⟨h1, es, h2, _⟩ := deeps_ok ns i ds h
    by_cases e : j = i
    · subst e; exact h1
    · exact deeps_all ns i es h2 j (by omega)
theorem deepV_ok (ns : List NodeT) (a : Int) (h : deepV ns a ≠ 0) : ∃ i : Nat, a = (i : Int) ∧ i < ns.length ∧ ∀ x, x ≤ i → ∀ c ∈ kdOf ns x, 0 ≤ c ∧ c < (x : Int) := by
  unfold deepV inB at h
  by_cases c : 0 ≤ a ∧ a ≤ (ns.length : Int) - 1
  · rw [decide_eq_true c, if_pos rfl] at h
    obtain ⟨i, rfl⟩ := Int.eq_ofNat_of_zero_le c.1
    rw [Int.toNat_natCast] at h
    cases e : deeps ns (i + 1) with
    | none => rw [e] at h; exact absurd rfl h
    | some ds =>
      refine ⟨i, rfl, by omega, fun x hx c hc => ?_⟩
      have h1 := nodeOkV_kids ns x (deeps_all ns _ ds e x (by omega))
      obtain ⟨q, hq, rfl⟩ := List.getElem_of_mem hc
      have h2 : 0 ≤ rd (kdOf ns x) (q : Int) ∧ rd (kdOf ns x) (q : Int) ≤ (x : Int) - 1 := h1 q hq
      rw [rd_nat (kdOf ns x) q hq] at h2
      omega
  · rw [decide_eq_false c] at h
    exact absurd rfl h
theorem kdOf_len (ns : List NodeT) (hk : ∀ x ∈ ns, nodeSm x) (i : Nat) (hi : i < ns.length) : (kdOf ns i).length ≤ 1048576 := by
  unfold kdOf
  rw [rdNT_nat ns i hi]
  exact (hk _ (List.getElem_mem hi)).2
theorem rdB_nat (s : List Bool) (i : Nat) : rdOf false s (i : Int) = s.getD i false := by unfold rdOf; rw [Int.toNat_natCast]
theorem kid_at (ns : List NodeT) (a q : Nat) (h : q < (kdOf ns a).length) (hkd : ∀ c ∈ kdOf ns a, 0 ≤ c ∧ c < (a : Int)) : ∃ c : Nat, c < a ∧ (kdOf ns a)[q]? = some (c : Int) ∧ rd (kdOf ns a) (q : Int) = (c : Int) := by
  have h1 := hkd _ (List.getElem_mem h)
  obtain ⟨c, hc⟩ := Int.eq_ofNat_of_zero_le h1.1
  exact ⟨c, by omega, by rw [List.getElem?_eq_getElem h, hc], by rw [rd_nat _ q h, hc]⟩
theorem spec_mark_l0 (ns : List NodeT) (hn : ns.length ≤ 1048576) (hk : ∀ x ∈ ns, nodeSm x) (a : Nat) (ha : a < ns.length) (hkd : ∀ x, x ≤ a → ∀ c ∈ kdOf ns x, 0 ≤ c ∧ c < (x : Int))
    (IH : ∀ (c : Nat) (s : List Bool), c < a → s.length = ns.length → (∀ j, j ≤ c → on s j → ∀ d : Nat, (d : Int) ∈ kdOf ns j → on s d) → ∃ s', Ev (fun k => spec_l04Mark.f k ns (c : Int) s) s' ∧ dfsPost (kdOf ns) c s s') (s0 : List Bool) (h0 : s0.length = ns.length) :
    ∀ (d q : Nat) (s : List Bool), q + d = (kdOf ns a).length → dfsMid (kdOf ns) a q s0 s → ∃ s', Ev (fun k => spec_l04Mark.l0 k ns (a : Int) s (q : Int)) s' ∧ dfsMid (kdOf ns) a (kdOf ns a).length s0 s'
  | 0, q, s, h, hm => by
    have h' : q = (kdOf ns a).length := by omega
    subst h'
    have q1 : (0 : Int) ≤ (a : Int) := by omega
    have q2 : (a : Int) < (ns.length : Int) := by omega
    refine ⟨s, ev_s0 fun k => ?_, hm⟩
    rw [spec_l04Mark.l0, if_pos q1, if_pos q2, if_neg (show ¬ (((kdOf ns a).length : Nat) : Int) < (((rd_T62 ns (a : Int)).f3).length : Int) from Int.lt_irrefl _)]
  | d + 1, q, s, h, hm => by
    have q1 : (0 : Int) ≤ (a : Int) := by omega
    have q2 : (a : Int) < (ns.length : Int) := by omega
    have hq : q < (kdOf ns a).length := by omega
    have hl := kdOf_len ns hk a ha
    obtain ⟨c, hca, hc, hr⟩ := kid_at ns a q hq (hkd a (Nat.le_refl _))
    have q3 : (q : Int) < (((rd_T62 ns (a : Int)).f3).length : Int) := by
      have : (kdOf ns a).length = ((rd_T62 ns (a : Int)).f3).length := rfl
      omega
    obtain ⟨s1, E1, p1⟩ := IH c s hca (hm.1.trans h0) (dfs_pre hm hca)
    obtain ⟨s2, E2, p2⟩ := spec_mark_l0 ns hn hk a ha hkd IH s0 h0 d (q + 1) s1 (by omega) (dfs_next hm hc hkd p1)
    refine ⟨s2, ev_s2 E1 E2 fun k e1 e2 => ?_, p2⟩
    have hr' : rd ((rd_T62 ns (a : Int)).f3) (q : Int) = (c : Int) := hr
    rw [spec_l04Mark.l0, if_pos q1, if_pos q2, if_pos q3, if_pos (by omega), hr', e1, Option.bind_some, w_succ (by omega)]
    exact e2
theorem spec_mark (ns : List NodeT) (hn : ns.length ≤ 1048576) (hk : ∀ x ∈ ns, nodeSm x) : ∀ (n a : Nat) (s : List Bool), a < n → a < ns.length → (∀ x, x ≤ a → ∀ c ∈ kdOf ns x, 0 ≤ c ∧ c < (x : Int)) → s.length = ns.length →
    (∀ j, j ≤ a → on s j → ∀ d : Nat, (d : Int) ∈ kdOf ns j → on s d) → ∃ s', Ev (fun k => spec_l04Mark.f k ns (a : Int) s) s' ∧ dfsPost (kdOf ns) a s s'
  | 0, a, s, h, _, _, _, _ => by omega
  | n + 1, a, s, h, ha, hkd, hs, hp => by
    have q1 : (0 : Int) ≤ (a : Int) := by omega
    have q2 : (a : Int) < (s.length : Int) := by omega
    by_cases c : on s a
    · refine ⟨s, ev_s0 fun k => ?_, dfs_seen c hp⟩
      rw [spec_l04Mark.f, if_pos q1, if_pos q2, rdB_nat, if_pos (show s.getD a false = true from c)]
    · have hl := kdOf_len ns hk a ha
      obtain ⟨s', E, p⟩ := spec_mark_l0 ns hn hk a ha hkd (fun b t hb ht hpt => spec_mark ns hn hk n b t (by omega) (by omega) (fun x hx => hkd x (by omega)) ht hpt) s hs (kdOf ns a).length 0 (s.set a true) (by omega) (dfs_start (by omega) (fun j hj => hp j (by omega)) hkd)
      refine ⟨s', ev_s1 E fun k e => ?_, dfs_end p⟩
      rw [spec_l04Mark.f, if_pos q1, if_pos q2, rdB_nat, if_neg (show ¬ s.getD a false = true from c), Int.toNat_natCast]
      exact e
def pickB (s : List Bool) : Nat → Nat → List Int
  | 0, _ => []
  | d + 1, i => if s.getD i false = true then (i : Int) :: pickB s d (i + 1) else pickB s d (i + 1)
theorem pickB_mem (s : List Bool) : ∀ (d i : Nat) (x : Int), x ∈ pickB s d i ↔ (i : Int) ≤ x ∧ x < (i : Int) + d ∧ on s x.toNat
  | 0, i, x => by
    rw [pickB]
    constructor
    · intro h; cases h
    · rintro ⟨h1, h2, _⟩; omega
  | d + 1, i, x => by
    have ih := pickB_mem s d (i + 1) x
    rw [pickB]
    by_cases c : s.getD i false = true
    · rw [if_pos c, List.mem_cons, ih]
      constructor
      · rintro (h | h)
        · subst h; exact ⟨by omega, by omega, by rw [Int.toNat_natCast]; exact c⟩
        · exact ⟨by omega, by omega, h.2.2⟩
      · rintro ⟨h1, h2, h3⟩
        by_cases e : x = (i : Int)
        · exact .inl e
        · exact .inr ⟨by omega, by omega, h3⟩
    · rw [if_neg c, ih]
      constructor
      · rintro ⟨h1, h2, h3⟩; exact ⟨by omega, by omega, h3⟩
      · rintro ⟨h1, h2, h3⟩
        by_cases e : x = (i : Int)
        · subst e; rw [Int.toNat_natCast] at h3; exact absurd h3 c
        · exact ⟨by omega, by omega, h3⟩
theorem pickB_asc (s : List Bool) : ∀ (d i : Nat), Asc (pickB s d i)
  | 0, i => List.Pairwise.nil
  | d + 1, i => by
    rw [pickB]
    by_cases c : s.getD i false = true
    · rw [if_pos c]
      refine List.pairwise_cons.2 ⟨fun x hx => ?_, pickB_asc s d (i + 1)⟩
      have := ((pickB_mem s d (i + 1) x).1 hx).1
      omega
    · rw [if_neg c]; exact pickB_asc s d (i + 1)
theorem pickB_len (s : List Bool) : ∀ (d i : Nat), (pickB s d i).length ≤ d
  | 0, i => by rw [pickB]; simp
  | d + 1, i => by
    have := pickB_len s d (i + 1)
    rw [pickB]
    split
    · rw [List.length_cons]; omega
    · omega
theorem spec_Under_l0 (s : List Bool) (hs : s.length ≤ 1048576) : ∀ (d i : Nat) (out : List Int), i + d = s.length → out.length ≤ i → Ev (fun k => spec_Under.l0 k out s (i : Int)) (out ++ pickB s d i)
  | 0, i, out, h, ho => ev_s0 fun k => by rw [spec_Under.l0, if_neg (by omega), pickB, List.append_nil]
  | d + 1, i, out, h, ho => by
    have q1 : (i : Int) < (s.length : Int) := by omega
    have q2 : (0 : Int) ≤ (i : Int) := by omega
    by_cases c : s.getD i false = true
    · refine ev_s1 (spec_Under_l0 s hs d (i + 1) (out ++ [(i : Int)]) (by omega) (by rw [List.length_append, List.length_singleton]; omega)) fun k e => ?_
      rw [spec_Under.l0, if_pos q1, if_pos q2, rdB_nat, if_pos c, if_pos (by omega), w_succ (by omega), e, pickB, if_pos c, List.append_assoc]; rfl
    · refine ev_s1 (spec_Under_l0 s hs d (i + 1) out (by omega) (by omega)) fun k e => ?_
      rw [spec_Under.l0, if_pos q1, if_pos q2, rdB_nat, if_neg c, w_succ (by omega), e, pickB, if_neg c]
theorem hasInt_l0 (v : Int) (l : List Int) (hl : l.length ≤ 2097152) : ∀ (d i : Nat), i + d = l.length → Ev (fun k => impl_hasInt.l0 k v l (l.length : Int) (i : Int)) (decide (v ∈ l.drop i))
  | 0, i, h => ev_s0 fun k => by rw [impl_hasInt.l0, if_neg (by omega), List.drop_eq_nil_of_le (by omega)]; simp
  | d + 1, i, h => by
    have hi : i < l.length := by omega
    refine ev_s1 (hasInt_l0 v l hl d (i + 1) (by omega)) fun k e => ?_
    rw [impl_hasInt.l0, if_pos (by omega), if_pos (by omega), if_pos (by omega), rd_nat l i hi]
    have hm : v ∈ l.drop i ↔ v = l[i] ∨ v ∈ l.drop (i + 1) := by rw [List.drop_eq_getElem_cons hi, List.mem_cons]
    by_cases c : l[i] = v
    · rw [if_pos c, decide_eq_true (hm.2 (.inl c.symm))]
    · rw [if_neg c, w_succ (by omega), e]
      have : (v ∈ l.drop (i + 1)) = (v ∈ l.drop i) := propext ⟨fun h => hm.2 (.inr h), fun h => (hm.1 h).elim (fun h => absurd h.symm c) id⟩
      simp only [this]
theorem hasInt_ev (v : Int) (l : List Int) (hl : l.length ≤ 2097152) : Ev (fun k => impl_hasInt.f k l v) (decide (v ∈ l)) := by
  have := hasInt_l0 v l hl l.length 0 (by omega)
  rw [List.drop_zero] at this
  exact ev_a1 this fun k e => e
theorem impl_under_l1 (ns : List NodeT) (kids : List Int) (hkl : kids.length ≤ 1048576) (i : Int) (R : List Int) : ∀ (d p : Nat) (out : List Int), p + d = kids.length → out.length + d ≤ 2097152 →
    Ev (fun k => impl_under.l0 k ns (addKids out (kids.drop p)) (wrap64 (i + 1))) R → Ev (fun k => impl_under.l1 k ns out i kids (kids.length : Int) (p : Int)) R
  | 0, p, out, h, ho, H => by
    rw [List.drop_eq_nil_of_le (by omega), addKids] at H
    refine ev_s1 H fun k e => ?_
    rw [impl_under.l1, if_neg (by omega)]; exact e
  | d + 1, p, out, h, ho, H => by
    have hp : p < kids.length := by omega
    have E := hasInt_ev (rd kids (p : Int)) out (by omega)
    rw [List.drop_eq_getElem_cons hp, addKids] at H
    by_cases c : kids[p] ∈ out
    · rw [if_pos c] at H
      refine ev_s2 E (impl_under_l1 ns kids hkl i R d (p + 1) out (by omega) (by omega) H) fun k e e2 => ?_
      rw [impl_under.l1, if_pos (by omega), if_pos (by omega), if_pos (by omega), e, Option.bind_some, rd_nat kids p hp, if_pos (decide_eq_true c), w_succ (by omega)]; exact e2
    · rw [if_neg c] at H
      refine ev_s2 E (impl_under_l1 ns kids hkl i R d (p + 1) (out ++ [kids[p]]) (by omega) (by rw [List.length_append, List.length_singleton]; omega) H) fun k e e2 => ?_
      rw [impl_under.l1, if_pos (by omega), if_pos (by omega), if_pos (by omega), e, Option.bind_some, rd_nat kids p hp, if_neg (by rw [decide_eq_true_eq]; exact c), if_pos (by omega), w_succ (by omega)]; exact e2
theorem impl_under_l0 (ns : List NodeT) (hn : ns.length ≤ 1048576) (hk : ∀ x ∈ ns, nodeSm x) (a : Nat) (ha : a < ns.length) (hkd : ∀ x, x ≤ a → ∀ c ∈ kdOf ns x, 0 ≤ c ∧ c < (x : Int)) :
    ∀ (d i : Nat) (out : List Int), i + d = a + 1 → i ≤ out.length → bfsIn (kdOf ns) a i out → ∃ o, bfsIn (kdOf ns) a o.length o ∧ Ev (fun k => impl_under.l0 k ns out (i : Int)) (o.mergeSort fun x y => decide (x ≤ y))
  | d, i, out, h, hi, hb => by
    have hl := bfs_len hb hkd
    by_cases c : i < out.length
    · match d, h with
      | 0, h => omega
      | d + 1, h =>
        have hx : out[i]? = some out[i] := List.getElem?_eq_getElem c
        have hm := hb.2.2.1 _ (List.getElem_mem c)
        have hle := reach_le hkd hm.2
        obtain ⟨x, ex⟩ := Int.eq_ofNat_of_zero_le hm.1
        rw [ex, Int.toNat_natCast] at hle
        have hn2 := bfs_next hb hx hkd
        rw [ex, Int.toNat_natCast] at hn2
        have hl2 := bfs_len hn2 hkd
        obtain ⟨t, et, _⟩ := addKids_sub out (kdOf ns x)
        have hkl := kdOf_len ns hk x (by omega)
        obtain ⟨o, ho, E⟩ := impl_under_l0 ns hn hk a ha hkd d (i + 1) (addKids out (kdOf ns x)) (by omega) (by rw [et, List.length_append]; omega) hn2
        refine ⟨o, ho, ?_⟩
        have E1 : Ev (fun k => impl_under.l1 k ns out (i : Int) (kdOf ns x) ((kdOf ns x).length : Int) ((0 : Nat) : Int)) _ :=
          impl_under_l1 ns (kdOf ns x) hkl (i : Int) _ (kdOf ns x).length 0 out (by omega) (by omega) (by rw [List.drop_zero, w_succ (by omega)]; exact E)
        refine ev_s1 E1 fun k e => ?_
        have er : rd out (i : Int) = (x : Int) := by rw [rd_nat out i c, ex]
        rw [impl_under.l0, if_pos (by omega), if_pos (by omega), er, if_pos (by omega), if_pos (by omega)]
        exact e
    · have hio : i = out.length := by omega
      subst hio
      refine ⟨out, hb, ev_s0 fun k => ?_⟩
      rw [impl_under.l0, if_neg (by omega), sort_Ints.f, if_pos (by omega)]; rfl
theorem under_ev (ns : List NodeT) (hn : ns.length ≤ 1048576) (hk : ∀ x ∈ ns, nodeSm x) (a : Int) : ∃ l : List Int, Asc l ∧ l.length ≤ 1048576 ∧ (∀ x ∈ l, 0 ≤ x ∧ x < (ns.length : Int)) ∧ (∀ F : List S56, Ev (fun k => spec_Under.f k ns F a) l) ∧ (∀ F : List S56, Ev (fun k => impl_Under.f k ns F a) l) ∧ (a < 0 → l = []) := by
  have E1 := spec_DeepOf_ev ns hn hk a
  have E2 := impl_DeepOf_ev ns hn hk a
  by_cases c : deepV ns a = 0
  · refine ⟨[], List.Pairwise.nil, by simp, by simp, fun F => ev_a1 E1 fun k e => ?_, fun F => ev_a1 E2 fun k e => ?_, fun _ => rfl⟩
    · rw [spec_Under.f, Option.bind_some, e, Option.bind_some, if_pos c]
    · rw [impl_Under.f, e, Option.bind_some, if_pos c]
  · obtain ⟨i, rfl, hi, hkd⟩ := deepV_ok ns a c
    have h0 : ∀ j, ¬ on (List.replicate ns.length false) j := by
      intro j
      unfold on
      rw [List.getD_eq_getElem?_getD, List.getElem?_replicate]
      split <;> simp
    obtain ⟨s, Em, hp⟩ := spec_mark ns hn hk (i + 1) i (List.replicate ns.length false) (by omega) hi hkd (by simp) (fun j _ h => absurd h (h0 j))
    obtain ⟨o, ho, Eb⟩ := impl_under_l0 ns hn hk i hi hkd (i + 1) 0 [(i : Int)] (by omega) (by simp) (bfs_start (kdOf ns) i)
    have hsl : s.length = ns.length := by rw [hp.1]; simp
    have Ep := spec_Under_l0 s (by omega) s.length 0 [] (by omega) (by simp)
    have hmem : ∀ x, x ∈ pickB s s.length 0 ↔ 0 ≤ x ∧ Reach (kdOf ns) i x.toNat := by
      intro x
      rw [pickB_mem, ← dfs_all hp h0 hkd]
      constructor
      · rintro ⟨h1, h2, h3⟩; exact ⟨by omega, h3⟩
      · rintro ⟨h1, h3⟩
        have := reach_le hkd ((dfs_all hp h0 hkd _).1 h3)
        exact ⟨by omega, by omega, h3⟩
    have hEq : o.mergeSort (fun x y => decide (x ≤ y)) = pickB s s.length 0 := by
      refine asc_ext _ _ (asc_sort o ho.1) (pickB_asc s _ _) fun x => ?_
      rw [mem_sort, hmem, bfs_end ho hkd]
    refine ⟨pickB s s.length 0, pickB_asc s _ _, by have := pickB_len s s.length 0; omega, fun x hx => ?_, fun F => ev_a3 E1 Em Ep fun k e1 e2 e3 => ?_, fun F => ev_a2 E2 Eb fun k e1 e2 => ?_, fun h => by omega⟩
    · have h1 := (pickB_mem s _ _ x).1 hx
      omega
    · rw [List.nil_append] at e3
      rw [spec_Under.f, Option.bind_some, e1, Option.bind_some, if_neg c, if_pos (by omega), if_pos (by omega), Int.toNat_natCast, e2, Option.bind_some]
      exact e3
    · have e2' : impl_under.f k ns (i : Int) = some (pickB s s.length 0) := by rw [← hEq]; exact e2
      rw [impl_Under.f, e1, Option.bind_some, if_neg c, e2', Option.bind_some]

abbrev VrT := S60
theorem rdV_nat (xs : List VrT) (i : Nat) (h : i < xs.length) : rd_T60 xs (i : Int) = xs[i] := by
  unfold rd_T60
  exact getD_nat xs _ i h
theorem laws_eqVarS_l0 (a : List VrT) (hl : a.length < 4611686018427387904) : ∀ (d i : Nat), i + d = a.length → Ev (fun k => laws_eqVarS.l0 k a a (i : Int)) true
  | 0, i, h => by
    refine ev_s0 (fun k => ?_)
    simp only [laws_eqVarS.l0]
    rw [if_neg (by omega)]
  | d + 1, i, h => by
    refine ev_s1 (laws_eqVarS_l0 a hl d (i + 1) (by omega)) (fun k e => ?_)
    simp only [laws_eqVarS.l0, laws_eqVar.f]
    rw [if_pos (by omega), if_pos (by omega), if_pos (by omega), w_succ (by omega)]
    simpa using e
theorem laws_eqVarS_ev (a : List VrT) (hl : a.length < 4611686018427387904) : Ev (fun k => laws_eqVarS.f k a a) true := by
  refine ev_a1 (laws_eqVarS_l0 a hl a.length 0 (by omega)) (fun k e => ?_)
  simp only [laws_eqVarS.f, if_true]
  exact e

theorem laws_markText_l0 : ∀ (d : Nat) (n : Nat) (s : ByteArray), n < 10 ^ d → n < 9223372036854775808 → s.size + d ≤ 1000 → ∃ r, Ev (fun k => laws_markText.l0 k (n : Int) s) r
  | 0, n, s, h, hb, hs => by
    have : n = 0 := by omega
    subst this
    refine ⟨(⟨#[109]⟩ : ByteArray) ++ s, ev_s0 (fun k => ?_)⟩
    simp only [laws_markText.l0]
    rw [if_neg (by omega), if_pos (by omega)]
  | d + 1, n, s, h, hb, hs => by
    by_cases c : n = 0
    · subst c
      refine ⟨(⟨#[109]⟩ : ByteArray) ++ s, ev_s0 (fun k => ?_)⟩
      simp only [laws_markText.l0]
      rw [if_neg (by omega), if_pos (by omega)]
    · have hd : n / 10 < 10 ^ d := by rw [Nat.div_lt_iff_lt_mul (by decide), ← Nat.pow_succ]; exact h
      obtain ⟨r, hr⟩ := laws_markText_l0 d (n / 10) (strOfNums [((48 + n % 10 : Nat) : Int)] ++ s) hd (by omega) (by rw [ByteArray.size_append, strOfNums_size]; simp; omega)
      refine ⟨r, ev_s1 hr (fun k e => ?_)⟩
      have e1 : wrap64 (48 + Int.tmod (n : Int) 10) % 256 = ((48 + n % 10 : Nat) : Int) := by rw [b_tmod (by omega)]; unfold wrap64; omega
      have e2 : wrap64 (Int.tdiv (n : Int) 10) = ((n / 10 : Nat) : Int) := by rw [b_tdiv (by omega)]; unfold wrap64; omega
      simp only [laws_markText.l0]
      rw [if_pos (by omega), e1, Option.bind_some, if_pos (by rw [strOfNums_size]; simp; omega), e2]
      exact e
theorem laws_markText_tot (n : Int) (h0 : 0 ≤ n) (h1 : n < 9223372036854775808) : ∃ r, Ev (fun k => laws_markText.f k n) r := by
  obtain ⟨m, rfl⟩ := Int.eq_ofNat_of_zero_le h0
  by_cases c : (m : Int) ≤ 0
  · exact ⟨_, ev_a0 (fun k => by simp only [laws_markText.f]; rw [if_pos c])⟩
  · obtain ⟨r, hr⟩ := laws_markText_l0 20 m (⟨#[]⟩ : ByteArray) (by omega) (by omega) (by decide)
    exact ⟨r, ev_a1 hr (fun k e => by simp only [laws_markText.f]; rw [if_neg c]; exact e)⟩
open Classical in
noncomputable def mt (n : Int) : ByteArray := if h : ∃ r, Ev (fun k => laws_markText.f k n) r then h.choose else ByteArray.empty
theorem mt_ev (n : Int) (h0 : 0 ≤ n) (h1 : n < 9223372036854775808) : Ev (fun k => laws_markText.f k n) (mt n) := by
  have h := laws_markText_tot n h0 h1
  unfold mt
  rw [dif_pos h]
  exact h.choose_spec

noncomputable def mkV (m n : Nat) : List VrT := (List.range n).map fun j => ⟨mt ((m + 3 * j : Nat) : Int), ((m + 3 * j + 1 : Nat) : Int), ((m + 3 * j + 2 : Nat) : Int)⟩
theorem mkV_succ (m n : Nat) : mkV m (n + 1) = mkV m n ++ [⟨mt ((m + 3 * n : Nat) : Int), ((m + 3 * n + 1 : Nat) : Int), ((m + 3 * n + 2 : Nat) : Int)⟩] := by simp [mkV, List.range_succ]
theorem mkV_length (m n : Nat) : (mkV m n).length = n := by simp [mkV]
theorem rdV_at (m i : Nat) (v : VrT) (r : List VrT) : rd_T60 (mkV m i ++ v :: r) (i : Int) = v := by
  have hl : i < (mkV m i ++ v :: r).length := by simp [mkV_length]
  rw [rdV_nat _ _ hl, List.getElem_append_right (by rw [mkV_length]; omega)]
  simp [mkV_length]
theorem laws_markVarS_l0 (m : Nat) : ∀ (rest : List VrT) (i : Nat), m + 3 * i + 3 * rest.length < 4611686018427387904 →
    Ev (fun k => laws_markVarS.l0 k (mkV m i ++ rest) ((m + 3 * i : Nat) : Int) (i : Int)) (((m + 3 * (i + rest.length) : Nat) : Int), mkV m (i + rest.length))
  | [], i, h => by
    refine ev_s0 (fun k => ?_)
    simp only [laws_markVarS.l0, List.append_nil, mkV_length]
    rw [if_neg (by omega)]; rfl
  | b :: rest, i, h => by
    simp only [List.length_cons] at h
    have ih := laws_markVarS_l0 m rest (i + 1) (by omega)
    refine ev_s2 ih (mt_ev ((m + 3 * i : Nat) : Int) (by omega) (by omega)) (fun k e e2 => ?_)
    have hl : i < (mkV m i ++ b :: rest).length := by simp [mkV_length]
    have w1 : wrap64 (((m + 3 * i : Nat) : Int) + 1) = ((m + 3 * i + 1 : Nat) : Int) := by unfold wrap64; omega
    have w2 : wrap64 (((m + 3 * i + 1 : Nat) : Int) + 1) = ((m + 3 * i + 2 : Nat) : Int) := by unfold wrap64; omega
    have w3 : wrap64 (((m + 3 * i + 2 : Nat) : Int) + 1) = ((m + 3 * (i + 1) : Nat) : Int) := by unfold wrap64; omega
    have w4 : wrap64 ((i : Int) + 1) = ((i + 1 : Nat) : Int) := by unfold wrap64; omega
    simp only [laws_markVarS.l0]
    rw [if_pos (by omega), e2, Option.bind_some, if_pos (by omega), w1, w2, w3, w4]
    simp only [Option.bind_some, Int.toNat_natCast, List.set_set, set_at _ _ _ _ i (mkV_length m i), rdV_at]
    have e3 : mkV m i ++ (⟨mt ((m + 3 * i : Nat) : Int), ((m + 3 * i + 1 : Nat) : Int), ((m + 3 * i + 2 : Nat) : Int)⟩ : VrT) :: rest = mkV m (i + 1) ++ rest := by
      rw [mkV_succ, List.append_assoc]
      rfl
    rw [e3, e]
    simp only [List.length_cons]
    rw [show i + 1 + rest.length = i + (rest.length + 1) by omega]
theorem laws_markVarS_ev (xs : List VrT) (m : Nat) (h : m + 3 * xs.length < 4611686018427387904) :
    Ev (fun k => laws_markVarS.f k xs (m : Int)) (((m + 3 * xs.length : Nat) : Int), mkV m xs.length) := by
  have := laws_markVarS_l0 m xs 0 (by omega)
  simpa [mkV, laws_markVarS.f] using this
theorem laws_heldVarS_l0 (m n : Nat) (h : m + 3 * n < 4611686018427387904) : ∀ (d i : Nat), i + d = n →
    Ev (fun k => laws_heldVarS.l0 k (mkV m n) ((m + 3 * i : Nat) : Int) (i : Int)) ((m + 3 * n : Nat) : Int)
  | 0, i, hi => by
    refine ev_s0 (fun k => ?_)
    simp only [laws_heldVarS.l0, mkV_length]
    rw [if_neg (by omega), show m + 3 * i = m + 3 * n by omega]
  | d + 1, i, hi => by
    have ih := laws_heldVarS_l0 m n h d (i + 1) (by omega)
    refine ev_s2 ih (mt_ev ((m + 3 * i : Nat) : Int) (by omega) (by omega)) (fun k e e2 => ?_)
    simp only [laws_heldVarS.l0, mkV_length]
    have e3 : rd_T60 (mkV m n) (i : Int) = ⟨mt ((m + 3 * i : Nat) : Int), ((m + 3 * i + 1 : Nat) : Int), ((m + 3 * i + 2 : Nat) : Int)⟩ := by
      rw [rdV_nat _ _ (by rw [mkV_length]; omega)]
      simp [mkV]
    have w1 : wrap64 (((m + 3 * i : Nat) : Int) + 1) = ((m + 3 * i + 1 : Nat) : Int) := by unfold wrap64; omega
    have w2 : wrap64 (((m + 3 * i + 1 : Nat) : Int) + 1) = ((m + 3 * i + 2 : Nat) : Int) := by unfold wrap64; omega
    have w3 : wrap64 (((m + 3 * i + 2 : Nat) : Int) + 1) = ((m + 3 * (i + 1) : Nat) : Int) := by unfold wrap64; omega
    have w4 : wrap64 ((i : Int) + 1) = ((i + 1 : Nat) : Int) := by unfold wrap64; omega
    rw [if_pos (by omega), if_pos (by omega), e2, Option.bind_some, e3, w1, w2, w3, w4]
    simp only [if_true]
    exact e
theorem laws_heldVarS_ev (m n : Nat) (h : m + 3 * n < 4611686018427387904) : Ev (fun k => laws_heldVarS.f k (mkV m n) (m : Int)) ((m + 3 * n : Nat) : Int) := by
  have := laws_heldVarS_l0 m n h n 0 (by omega)
  simpa [laws_heldVarS.f] using this

abbrev ParL := S124
abbrev ParT := S58
def parOf (x : ParL) : ParT := ⟨x.f0, x.f1⟩
theorem rdPL_nat (xs : List ParL) (i : Nat) (h : i < xs.length) : rd_T124 xs (i : Int) = xs[i] := by
  unfold rd_T124
  exact getD_nat xs _ i h
theorem rdPT_nat (xs : List ParT) (i : Nat) (h : i < xs.length) : rd_T58 xs (i : Int) = xs[i] := by
  unfold rd_T58
  exact getD_nat xs _ i h
theorem laws_szParam_or (x : ParL) (a : Int) (h0 : 0 ≤ a) (h1 : a ≤ 1048576) (w : x.f0.size ≤ maxLen) : ∃ r, laws_szParam.f x.f0 x.f1 a = some r ∧ (r < 0 ∨ (0 ≤ r ∧ r ≤ a)) := by
  rw [laws_szParam.f, sz_sub a _ h0 h1 w]
  by_cases c : a - (x.f0.size : Int) < 0
  · rw [if_pos c]; exact ⟨_, rfl, .inl (by omega)⟩
  · rw [if_neg c]; exact ⟨_, rfl, .inr ⟨by omega, by omega⟩⟩
theorem laws_szParamS_l0 (l : List ParL) (hl : l.length ≤ maxLen) (hw : ∀ x ∈ l, x.f0.size ≤ maxLen) : ∀ (d i : Nat) (a : Int), i + d = l.length → 0 ≤ a → a ≤ 1048576 →
    ∃ r, Ev (fun k => laws_szParamS.l0 k l a (i : Int)) r ∧ (r < 0 ∨ (0 ≤ r ∧ r ≤ a))
  | 0, i, a, h, h0, h1 => ⟨a, ev_s0 (fun k => by simp only [laws_szParamS.l0]; rw [if_neg (by omega)]), .inr ⟨h0, by omega⟩⟩
  | d + 1, i, a, h, h0, h1 => by
    have hi : i < l.length := by omega
    have hl' := hl
    unfold maxLen at hl'
    obtain ⟨r, e, hr⟩ := laws_szParam_or l[i] a h0 h1 (hw _ (List.getElem_mem hi))
    have q1 : (i : Int) < (l.length : Int) := by omega
    have q2 : (0 : Int) ≤ (i : Int) := by omega
    by_cases c : r < 0
    · exact ⟨-1, ev_s0 (fun k => by simp only [laws_szParamS.l0]; rw [if_pos q1, if_pos q2, rdPL_nat l i hi, e, Option.bind_some, if_pos c]), .inl (by omega)⟩
    · rcases hr with hr | hr
      · exact absurd hr c
      · obtain ⟨r2, E, h2⟩ := laws_szParamS_l0 l hl hw d (i + 1) r (by omega) hr.1 (by omega)
        refine ⟨r2, ev_s1 E (fun k e' => ?_), ?_⟩
        · simp only [laws_szParamS.l0]; rw [if_pos q1, if_pos q2, rdPL_nat l i hi, e, Option.bind_some, if_neg c, w_succ2 (by omega)]; exact e'
        · rcases h2 with h2 | h2
          · exact .inl h2
          · exact .inr ⟨h2.1, by omega⟩
theorem laws_szParamS_or (l : List ParL) (a : Int) (h0 : 0 ≤ a) (h1 : a ≤ 1048576) (hl : l.length ≤ maxLen) (hw : ∀ x ∈ l, x.f0.size ≤ maxLen) :
    ∃ r, Ev (fun k => laws_szParamS.f k l a) r ∧ (r < 0 ∨ (0 ≤ r ∧ r ≤ a ∧ l.length ≤ 1048576)) := by
  have e := sz_sub a _ h0 h1 hl
  by_cases c : a - (l.length : Int) < 0
  · exact ⟨-1, ev_a0 (fun k => by simp only [laws_szParamS.f]; rw [e, if_pos c]), .inl (by omega)⟩
  · obtain ⟨r, E, h⟩ := laws_szParamS_l0 l hl hw l.length 0 (a - (l.length : Int)) (by omega) (by omega) (by omega)
    refine ⟨r, ev_a1 E (fun k e' => by simp only [laws_szParamS.f]; rw [e, if_neg c]; exact e'), ?_⟩
    rcases h with h | h
    · exact .inl h
    · exact .inr ⟨h.1, by omega, by omega⟩
theorem laws_toParamS_l0 (l : List ParL) (hl : l.length ≤ 1048576) : ∀ (d i : Nat), i + d = l.length →
    Ev (fun k => laws_toParamS.l0 k l ((l.take i).map parOf ++ List.replicate (l.length - i) z58) (i : Int)) (l.map parOf)
  | 0, i, h => by
    refine ev_s0 (fun k => ?_)
    simp only [laws_toParamS.l0]
    rw [if_neg (by omega), show l.length - i = 0 by omega, show i = l.length by omega]; simp
  | d + 1, i, h => by
    have hi : i < l.length := by omega
    refine ev_s1 (laws_toParamS_l0 l hl d (i + 1) (by omega)) (fun k e => ?_)
    simp only [laws_toParamS.l0, laws_toParam.f, Option.bind_some]
    rw [if_pos (by omega), if_pos (by omega), if_pos (by simp; omega), Int.toNat_natCast, rdPL_nat l i hi, show (⟨l[i].f0, l[i].f1⟩ : ParT) = parOf l[i] from rfl, copy_step parOf l z58 i hi, w_succ (by omega)]
    exact e
theorem laws_toParamS_ev (l : List ParL) (hl : l.length ≤ 1048576) : Ev (fun k => laws_toParamS.f k l) (l.map parOf) := by
  refine ev_a1 (laws_toParamS_l0 l hl l.length 0 (by omega)) (fun k e => ?_)
  simp only [laws_toParamS.f]
  rw [if_pos (by omega), Int.toNat_natCast, if_pos (by omega)]
  simpa using e
theorem laws_eqParamS_l0 (a : List ParT) (hl : a.length ≤ 1048576) : ∀ (d i : Nat), i + d = a.length → Ev (fun k => laws_eqParamS.l0 k a a (i : Int)) true
  | 0, i, h => by
    refine ev_s0 (fun k => ?_)
    simp only [laws_eqParamS.l0]
    rw [if_neg (by omega)]
  | d + 1, i, h => by
    refine ev_s1 (laws_eqParamS_l0 a hl d (i + 1) (by omega)) (fun k e => ?_)
    simp only [laws_eqParamS.l0, laws_eqParam.f]
    rw [if_pos (by omega), if_pos (by omega), if_pos (by omega), w_succ (by omega)]
    simpa using e
theorem laws_eqParamS_ev (a : List ParT) (hl : a.length ≤ 1048576) : Ev (fun k => laws_eqParamS.f k a a) true := by
  refine ev_a1 (laws_eqParamS_l0 a hl a.length 0 (by omega)) (fun k e => ?_)
  simp only [laws_eqParamS.f, if_true]
  exact e
abbrev FnL := S84
abbrev FnT := S56
def fnOf (x : FnL) : FnT := ⟨x.f0, x.f1.map parOf, x.f2, x.f3, x.f4⟩
def fnWf (x : FnL) : Prop := x.f0.size ≤ maxLen ∧ x.f1.length ≤ maxLen ∧ ∀ y ∈ x.f1, y.f0.size ≤ maxLen
def fnSm (x : FnT) : Prop := x.f0.size ≤ 1048576 ∧ x.f1.length ≤ 1048576
theorem rdFL_nat (xs : List FnL) (i : Nat) (h : i < xs.length) : rd_T84 xs (i : Int) = xs[i] := by
  unfold rd_T84
  exact getD_nat xs _ i h
theorem rdFT_nat (xs : List FnT) (i : Nat) (h : i < xs.length) : rd_T56 xs (i : Int) = xs[i] := by
  unfold rd_T56
  exact getD_nat xs _ i h
theorem laws_szFn_or (x : FnL) (a : Int) (h0 : 0 ≤ a) (h1 : a ≤ 1048576) (w : fnWf x) : ∃ r, Ev (fun k => laws_szFn.f k x.f0 x.f1 x.f2 x.f3 x.f4 a) r ∧ (r < 0 ∨ (0 ≤ r ∧ r ≤ a ∧ fnSm (fnOf x))) := by
  have e := sz_sub a _ h0 h1 w.1
  by_cases c : a - (x.f0.size : Int) < 0
  · exact ⟨-1, ev_a0 (fun k => by simp only [laws_szFn.f]; rw [e, if_pos c]), .inl (by omega)⟩
  · obtain ⟨r, E, h⟩ := laws_szParamS_or x.f1 (a - (x.f0.size : Int)) (by omega) (by omega) w.2.1 w.2.2
    by_cases d : r < 0
    · exact ⟨-1, ev_a1 E (fun k e' => by simp only [laws_szFn.f]; rw [e, if_neg c, e', Option.bind_some, if_pos d]), .inl (by omega)⟩
    · rcases h with h | h
      · exact absurd h d
      · exact ⟨r, ev_a1 E (fun k e' => by simp only [laws_szFn.f]; rw [e, if_neg c, e', Option.bind_some, if_neg d]), .inr ⟨h.1, by omega, ⟨by show x.f0.size ≤ 1048576; omega, by show (x.f1.map parOf).length ≤ 1048576; rw [List.length_map]; exact h.2.2⟩⟩⟩
theorem laws_szFnS_l0 (l : List FnL) (hl : l.length ≤ maxLen) (hw : ∀ x ∈ l, fnWf x) : ∀ (d i : Nat) (a : Int), i + d = l.length → 0 ≤ a → a ≤ 1048576 →
    ∃ r, Ev (fun k => laws_szFnS.l0 k l a (i : Int)) r ∧ (r < 0 ∨ (0 ≤ r ∧ r ≤ a ∧ ∀ x ∈ l.drop i, fnSm (fnOf x)))
  | 0, i, a, h, h0, h1 => ⟨a, ev_s0 (fun k => by simp only [laws_szFnS.l0]; rw [if_neg (by omega)]), .inr ⟨h0, by omega, by rw [List.drop_eq_nil_of_le (by omega)]; simp⟩⟩
  | d + 1, i, a, h, h0, h1 => by
    have hi : i < l.length := by omega
    have hl' := hl
    unfold maxLen at hl'
    obtain ⟨r, e, hr⟩ := laws_szFn_or l[i] a h0 h1 (hw _ (List.getElem_mem hi))
    have q1 : (i : Int) < (l.length : Int) := by omega
    have q2 : (0 : Int) ≤ (i : Int) := by omega
    by_cases c : r < 0
    · exact ⟨-1, ev_s1 e (fun k e => by simp only [laws_szFnS.l0]; rw [if_pos q1, if_pos q2, rdFL_nat l i hi, e, Option.bind_some, if_pos c]), .inl (by omega)⟩
    · rcases hr with hr | hr
      · exact absurd hr c
      · obtain ⟨r2, E, h2⟩ := laws_szFnS_l0 l hl hw d (i + 1) r (by omega) hr.1 (by omega)
        refine ⟨r2, ev_s2 E e (fun k e' e => ?_), ?_⟩
        · simp only [laws_szFnS.l0]; rw [if_pos q1, if_pos q2, rdFL_nat l i hi, e, Option.bind_some, if_neg c, w_succ2 (by omega)]; exact e'
        · rcases h2 with h2 | h2
          · exact .inl h2
          · refine .inr ⟨h2.1, by omega, ?_⟩
            rw [List.drop_eq_getElem_cons hi]
            intro x hx
            rcases List.mem_cons.mp hx with hx | hx
            · rw [hx]; exact hr.2.2
            · exact h2.2.2 x hx
theorem laws_szFnS_or (l : List FnL) (a : Int) (h0 : 0 ≤ a) (h1 : a ≤ 1048576) (hl : l.length ≤ maxLen) (hw : ∀ x ∈ l, fnWf x) :
    ∃ r, Ev (fun k => laws_szFnS.f k l a) r ∧ (r < 0 ∨ (0 ≤ r ∧ r ≤ a ∧ l.length ≤ 1048576 ∧ ∀ x ∈ l, fnSm (fnOf x))) := by
  have e := sz_sub a _ h0 h1 hl
  by_cases c : a - (l.length : Int) < 0
  · exact ⟨-1, ev_a0 (fun k => by simp only [laws_szFnS.f]; rw [e, if_pos c]), .inl (by omega)⟩
  · obtain ⟨r, E, h⟩ := laws_szFnS_l0 l hl hw l.length 0 (a - (l.length : Int)) (by omega) (by omega) (by omega)
    refine ⟨r, ev_a1 E (fun k e' => by simp only [laws_szFnS.f]; rw [e, if_neg c]; exact e'), ?_⟩
    rcases h with h | h
    · exact .inl h
    · exact .inr ⟨h.1, by omega, by omega, fun x hx => h.2.2 x (by simpa using hx)⟩
theorem laws_toFnS_l0 (l : List FnL) (hl : l.length ≤ 1048576) (hk : ∀ x ∈ l, fnSm (fnOf x)) : ∀ (d i : Nat), i + d = l.length →
    Ev (fun k => laws_toFnS.l0 k l ((l.take i).map fnOf ++ List.replicate (l.length - i) z56) (i : Int)) (l.map fnOf)
  | 0, i, h => by
    refine ev_s0 (fun k => ?_)
    simp only [laws_toFnS.l0]
    rw [if_neg (by omega), show l.length - i = 0 by omega, show i = l.length by omega]; simp
  | d + 1, i, h => by
    have hi : i < l.length := by omega
    have hp : l[i].f1.length ≤ 1048576 := by
      have := (hk _ (List.getElem_mem hi)).2
      have e : (fnOf l[i]).f1.length = l[i].f1.length := by simp [fnOf]
      omega
    refine ev_s2 (laws_toFnS_l0 l hl hk d (i + 1) (by omega)) (laws_toParamS_ev l[i].f1 hp) (fun k e e2 => ?_)
    simp only [laws_toFnS.l0, laws_toFn.f]
    rw [if_pos (by omega), if_pos (by omega), rdFL_nat l i hi, e2]
    simp only [Option.bind_some]
    rw [if_pos (by simp; omega), Int.toNat_natCast, show (⟨l[i].f0, l[i].f1.map parOf, l[i].f2, l[i].f3, l[i].f4⟩ : FnT) = fnOf l[i] from rfl, copy_step fnOf l z56 i hi, w_succ (by omega)]
    exact e
theorem laws_toFnS_ev (l : List FnL) (hl : l.length ≤ 1048576) (hk : ∀ x ∈ l, fnSm (fnOf x)) : Ev (fun k => laws_toFnS.f k l) (l.map fnOf) := by
  refine ev_a1 (laws_toFnS_l0 l hl hk l.length 0 (by omega)) (fun k e => ?_)
  simp only [laws_toFnS.f]
  rw [if_pos (by omega), Int.toNat_natCast, if_pos (by omega)]
  simpa using e
theorem laws_eqFnS_l0 (a : List FnT) (hl : a.length ≤ 1048576) (hk : ∀ x ∈ a, fnSm x) : ∀ (d i : Nat), i + d = a.length → Ev (fun k => laws_eqFnS.l0 k a a (i : Int)) true
  | 0, i, h => by
    refine ev_s0 (fun k => ?_)
    simp only [laws_eqFnS.l0]
    rw [if_neg (by omega)]
  | d + 1, i, h => by
    have hi : i < a.length := by omega
    refine ev_s2 (laws_eqFnS_l0 a hl hk d (i + 1) (by omega)) (laws_eqParamS_ev a[i].f1 (hk _ (List.getElem_mem hi)).2) (fun k e e2 => ?_)
    simp only [laws_eqFnS.l0, laws_eqFn.f, if_true]
    rw [if_pos (by omega), if_pos (by omega), if_pos (by omega), rdFT_nat a i hi, e2]
    simp only [Option.bind_some, if_true]
    rw [w_succ (by omega)]
    exact e
theorem laws_eqFnS_ev (a : List FnT) (hl : a.length ≤ 1048576) (hk : ∀ x ∈ a, fnSm x) : Ev (fun k => laws_eqFnS.f k a a) true := by
  refine ev_a1 (laws_eqFnS_l0 a hl hk a.length 0 (by omega)) (fun k e => ?_)
  simp only [laws_eqFnS.f, if_true]
  exact e

def progSm (P : List NodeT) (F : List FnT) : Prop := (P.length ≤ 1048576 ∧ ∀ x ∈ P, nodeSm x) ∧ (F.length ≤ 1048576 ∧ ∀ x ∈ F, fnSm x)
theorem laws_szProgram_or (ns : List NodeL) (fs : List FnL) (a : Int) (h0 : 0 ≤ a) (h1 : a ≤ 1048576) (hn : ns.length ≤ maxLen) (hw : ∀ x ∈ ns, nodeWf x) (hf : fs.length ≤ maxLen) (hv : ∀ x ∈ fs, fnWf x) :
    ∃ r, Ev (fun k => laws_szProgram.f k ns fs a) r ∧ (r < 0 ∨ (0 ≤ r ∧ r ≤ a ∧ progSm (ns.map nodeOf) (fs.map fnOf))) := by
  obtain ⟨r, E1, h1'⟩ := laws_szNodeS_or ns a h0 h1 hn hw
  by_cases c : r < 0
  · exact ⟨-1, ev_a1 E1 fun k e => by rw [laws_szProgram.f, e, Option.bind_some, if_pos c], .inl (by decide)⟩
  rcases h1' with h1' | h1'
  · exact absurd h1' c
  obtain ⟨r2, E2, h2⟩ := laws_szFnS_or fs r h1'.1 (by omega) hf hv
  by_cases d : r2 < 0
  · exact ⟨-1, ev_a2 E1 E2 fun k e1 e2 => by rw [laws_szProgram.f, e1, Option.bind_some, if_neg c, e2, Option.bind_some, if_pos d], .inl (by decide)⟩
  rcases h2 with h2 | h2
  · exact absurd h2 d
  refine ⟨r2, ev_a2 E1 E2 fun k e1 e2 => by rw [laws_szProgram.f, e1, Option.bind_some, if_neg c, e2, Option.bind_some, if_neg d], .inr ⟨h2.1, by omega, ⟨by rw [List.length_map]; exact h1'.2.2.1, fun x hx => ?_⟩, ⟨by rw [List.length_map]; exact h2.2.2.1, fun x hx => ?_⟩⟩⟩
  · obtain ⟨y, hy, rfl⟩ := List.mem_map.mp hx
    exact h1'.2.2.2 y hy
  · obtain ⟨y, hy, rfl⟩ := List.mem_map.mp hx
    exact h2.2.2.2 y hy
theorem laws_toProgram_ev (ns : List NodeL) (fs : List FnL) (h : progSm (ns.map nodeOf) (fs.map fnOf)) : Ev (fun k => laws_toProgram.f k ns fs) (ns.map nodeOf, fs.map fnOf) := by
  have l1 : ns.length ≤ 1048576 := by have := h.1.1; rwa [List.length_map] at this
  have l2 : fs.length ≤ 1048576 := by have := h.2.1; rwa [List.length_map] at this
  refine ev_a2 (laws_toNodeS_ev ns l1 fun x hx => h.1.2 _ (List.mem_map.mpr ⟨x, hx, rfl⟩)) (laws_toFnS_ev fs l2 fun x hx => h.2.2 _ (List.mem_map.mpr ⟨x, hx, rfl⟩)) fun k e1 e2 => ?_
  rw [laws_toProgram.f, e1, Option.bind_some, e2, Option.bind_some]
theorem laws_eqProgram_ev (P : List NodeT) (F : List FnT) (h : progSm P F) : Ev (fun k => laws_eqProgram.f k P F P F) true := by
  refine ev_a2 (laws_eqNodeS_ev P h.1.1 h.1.2) (laws_eqFnS_ev F h.2.1 h.2.2) fun k e1 e2 => ?_
  rw [laws_eqProgram.f, e1, Option.bind_some, if_pos rfl, e2, Option.bind_some, if_pos rfl]

def parV (x : ParT) : VrT := ⟨x.f0, x.f1, -1⟩
def letV (ns : List NodeT) (x : Int) : VrT := ⟨(rd_T62 ns x).f2, 0, x⟩
def letP (ns : List NodeT) (x : Int) : Bool := decide ((rd_T62 ns x).f0 = 13)
def varsV (ns : List NodeT) (ps : List ParT) (U : List Int) : List VrT := ps.map parV ++ (U.filter (letP ns)).map (letV ns)
theorem spec_VarsOf_l1 (ns : List NodeT) (F : List FnT) (L : List Int) (hL : L.length ≤ 1048576) (hm : ∀ x ∈ L, 0 ≤ x ∧ x < (ns.length : Int)) : ∀ (d i : Nat) (out : List VrT), i + d = L.length → out.length ≤ i + 1048576 →
    Ev (fun k => spec_VarsOf.l1 k out L (i : Int) ns F) (out ++ ((L.drop i).filter (letP ns)).map (letV ns))
  | 0, i, out, h, ho => ev_s0 fun k => by rw [spec_VarsOf.l1, if_neg (by omega), List.drop_eq_nil_of_le (by omega)]; simp
  | d + 1, i, out, h, ho => by
    have hi : i < L.length := by omega
    obtain ⟨m0, m1⟩ := hm _ (List.getElem_mem hi)
    have ih := fun out ho => spec_VarsOf_l1 ns F L hL hm d (i + 1) out (by omega) ho
    have er := rd_nat L i hi
    rw [List.drop_eq_getElem_cons hi]
    by_cases c : (rd_T62 ns L[i]).f0 = 13
    · have hp : letP ns L[i] = true := decide_eq_true c
      refine ev_s1 (ih (out ++ [letV ns L[i]]) (by rw [List.length_append, List.length_singleton]; omega)) fun k e => ?_
      rw [spec_VarsOf.l1, if_pos (by omega), if_pos (by omega), er, if_pos m0, if_pos m1, if_pos c, if_pos (by omega), w_succ (by omega), show (⟨(rd_T62 ns L[i]).f2, 0, L[i]⟩ : VrT) = letV ns L[i] from rfl, e, List.filter_cons_of_pos hp, List.map_cons, List.append_assoc]; rfl
    · have hp : ¬ letP ns L[i] = true := by unfold letP; rw [decide_eq_false c]; simp
      refine ev_s1 (ih out (by omega)) fun k e => ?_
      rw [spec_VarsOf.l1, if_pos (by omega), if_pos (by omega), er, if_pos m0, if_pos m1, if_neg c, w_succ (by omega), e, List.filter_cons_of_neg hp]
theorem impl_VarsOf_l1 (ns : List NodeT) (F : List FnT) (L : List Int) (hL : L.length ≤ 1048576) (hm : ∀ x ∈ L, 0 ≤ x ∧ x < (ns.length : Int)) : ∀ (d i : Nat) (out : List VrT), i + d = L.length → out.length ≤ i + 1048576 →
    Ev (fun k => impl_VarsOf.l1 k out L (L.length : Int) (i : Int) ns F) (out ++ ((L.drop i).filter (letP ns)).map (letV ns))
  | 0, i, out, h, ho => ev_s0 fun k => by rw [impl_VarsOf.l1, if_neg (by omega), List.drop_eq_nil_of_le (by omega)]; simp
  | d + 1, i, out, h, ho => by
    have hi : i < L.length := by omega
    obtain ⟨m0, m1⟩ := hm _ (List.getElem_mem hi)
    have ih := fun out ho => impl_VarsOf_l1 ns F L hL hm d (i + 1) out (by omega) ho
    have er := rd_nat L i hi
    rw [List.drop_eq_getElem_cons hi]
    by_cases c : (rd_T62 ns L[i]).f0 = 13
    · have hp : letP ns L[i] = true := decide_eq_true c
      refine ev_s1 (ih (out ++ [letV ns L[i]]) (by rw [List.length_append, List.length_singleton]; omega)) fun k e => ?_
      rw [impl_VarsOf.l1, if_pos (by omega), if_pos (by omega), if_pos (by omega), er, if_pos m0, if_pos m1, if_pos c, if_pos (by omega), w_succ (by omega), show (⟨(rd_T62 ns L[i]).f2, 0, L[i]⟩ : VrT) = letV ns L[i] from rfl, e, List.filter_cons_of_pos hp, List.map_cons, List.append_assoc]; rfl
    · have hp : ¬ letP ns L[i] = true := by unfold letP; rw [decide_eq_false c]; simp
      refine ev_s1 (ih out (by omega)) fun k e => ?_
      rw [impl_VarsOf.l1, if_pos (by omega), if_pos (by omega), if_pos (by omega), er, if_pos m0, if_pos m1, if_neg c, w_succ (by omega), e, List.filter_cons_of_neg hp]
theorem spec_VarsOf_l0 (ns : List NodeT) (F : List FnT) (ps : List ParT) (hp : ps.length ≤ 1048576) (n0 : ByteArray) (n2 n3 n4 : Int) (U : List Int) (hU : U.length ≤ 1048576) (hm : ∀ x ∈ U, 0 ≤ x ∧ x < (ns.length : Int)) (E : Ev (fun k => spec_Under.f k ns F n3) U) : ∀ (d i : Nat), i + d = ps.length →
    Ev (fun k => spec_VarsOf.l0 k ((ps.take i).map parV) (i : Int) ns F n0 ps n2 n3 n4) (varsV ns ps U)
  | 0, i, h => by
    have hi : i = ps.length := by omega
    subst hi
    have E1 := spec_VarsOf_l1 ns F U hU hm U.length 0 (ps.map parV) (by omega) (by rw [List.length_map]; omega)
    rw [List.drop_zero] at E1
    refine ev_s2 E E1 fun k e e1 => ?_
    rw [spec_VarsOf.l0, if_neg (by omega), e, Option.bind_some, List.take_length]
    exact e1
  | d + 1, i, h => by
    have hi : i < ps.length := by omega
    refine ev_s1 (spec_VarsOf_l0 ns F ps hp n0 n2 n3 n4 U hU hm E d (i + 1) (by omega)) fun k e => ?_
    rw [spec_VarsOf.l0, if_pos (by omega), if_pos (by omega), rdPT_nat ps i hi, if_pos (by rw [List.length_map, List.length_take]; omega), w_succ (by omega)]
    rw [List.take_succ_eq_append_getElem hi, List.map_append] at e
    exact e
theorem impl_VarsOf_l0 (ns : List NodeT) (F : List FnT) (a : Nat) (ha : a < F.length) (ps : List ParT) (hp : ps.length ≤ 1048576) (U : List Int) (hU : U.length ≤ 1048576) (hm : ∀ x ∈ U, 0 ≤ x ∧ x < (ns.length : Int)) (E : Ev (fun k => impl_Under.f k ns F (rd_T56 F (a : Int)).f3) U) : ∀ (d i : Nat), i + d = ps.length →
    Ev (fun k => impl_VarsOf.l0 k (a : Int) ((ps.take i).map parV) ps (ps.length : Int) (i : Int) ns F) (varsV ns ps U)
  | 0, i, h => by
    have hi : i = ps.length := by omega
    subst hi
    have E1 := impl_VarsOf_l1 ns F U hU hm U.length 0 (ps.map parV) (by omega) (by rw [List.length_map]; omega)
    rw [List.drop_zero] at E1
    refine ev_s2 E E1 fun k e e1 => ?_
    rw [impl_VarsOf.l0, if_neg (by omega), if_pos (by omega), if_pos (by omega), e, Option.bind_some, List.take_length]
    exact e1
  | d + 1, i, h => by
    have hi : i < ps.length := by omega
    refine ev_s1 (impl_VarsOf_l0 ns F a ha ps hp U hU hm E d (i + 1) (by omega)) fun k e => ?_
    rw [impl_VarsOf.l0, if_pos (by omega), if_pos (by omega), if_pos (by omega), rdPT_nat ps i hi, if_pos (by rw [List.length_map, List.length_take]; omega), w_succ (by omega)]
    rw [List.take_succ_eq_append_getElem hi, List.map_append] at e
    exact e
theorem VarsOf_ev (ns : List NodeT) (F : List FnT) (h : progSm ns F) (a : Int) : ∃ l : List VrT, l.length ≤ 2097152 ∧ Ev (fun k => spec_VarsOf.f k ns F a) l ∧ Ev (fun k => impl_VarsOf.f k ns F a) l := by
  have w1 : wrap64 ((F.length : Int) - 1) = (F.length : Int) - 1 := by have := h.2.1; exact b_w64 (by omega) (by omega)
  by_cases ha : 0 ≤ a ∧ a ≤ (F.length : Int) - 1
  · obtain ⟨i, rfl⟩ := Int.eq_ofNat_of_zero_le ha.1
    have hi : i < F.length := by omega
    have q1 : (0 : Int) ≤ (i : Int) := by omega
    have q2 : (i : Int) < (F.length : Int) := by omega
    obtain ⟨U, _, hUl, hUm, SU, IU, _⟩ := under_ev ns h.1.1 h.1.2 (rd_T56 F (i : Int)).f3
    have hps : (rd_T56 F (i : Int)).f1.length ≤ 1048576 := by rw [rdFT_nat F i hi]; exact (h.2.2 _ (List.getElem_mem hi)).2
    have E1 := spec_VarsOf_l0 ns F (rd_T56 F (i : Int)).f1 hps (rd_T56 F (i : Int)).f0 (rd_T56 F (i : Int)).f2 (rd_T56 F (i : Int)).f3 (rd_T56 F (i : Int)).f4 U hUl hUm (SU F) (rd_T56 F (i : Int)).f1.length 0 (by omega)
    have E2 := impl_VarsOf_l0 ns F i hi (rd_T56 F (i : Int)).f1 hps U hUl hUm (IU F) (rd_T56 F (i : Int)).f1.length 0 (by omega)
    have hl := List.length_filter_le (letP ns) U
    refine ⟨varsV ns (rd_T56 F (i : Int)).f1 U, by unfold varsV; rw [List.length_append, List.length_map, List.length_map]; omega, ev_a1 E1 fun k e => ?_, ev_a1 E2 fun k e => ?_⟩
    · rw [spec_VarsOf.f, Option.bind_some, w1, spec_in_is, Option.bind_some, decide_eq_true ha, if_pos rfl, if_pos q1, if_pos q2]
      exact e
    · rw [impl_VarsOf.f, w1, impl_in_is, Option.bind_some, decide_eq_true ha, if_pos rfl, if_pos q1, if_pos q2]
      exact e
  · refine ⟨[], by simp, ev_a0 fun k => ?_, ev_a0 fun k => ?_⟩
    · rw [spec_VarsOf.f, Option.bind_some, w1, spec_in_is, Option.bind_some, decide_eq_false ha, if_neg (by decide)]
    · rw [impl_VarsOf.f, w1, impl_in_is, Option.bind_some, decide_eq_false ha, if_neg (by decide)]

theorem nodesSum_le (l : List NodeT) (h : ∀ x ∈ l, nodeSm x) : mkk_nodesSum l ≤ 1048579 * l.length := by
  induction l with
  | nil => simp [mkk_nodesSum]
  | cons x r ih =>
    have h1 := (h x (List.mem_cons_self ..)).2
    have h2 := ih fun y hy => h y (List.mem_cons_of_mem _ hy)
    rw [mkk_nodesSum, List.length_cons]
    omega
theorem fnsSum_le (l : List FnT) (h : ∀ x ∈ l, fnSm x) : mkk_fnsSum l ≤ 2097156 * l.length := by
  induction l with
  | nil => simp [mkk_fnsSum]
  | cons x r ih =>
    have h1 := (h x (List.mem_cons_self ..)).2
    have h2 := ih fun y hy => h y (List.mem_cons_of_mem _ hy)
    rw [mkk_fnsSum, List.length_cons]
    omega
theorem markProgram_is (P : List NodeT) (F : List FnT) (h : progSm P F) : ∃ r : Int, laws_markProgram.f P F 1 = some r ∧ 0 ≤ r := by
  have h1 := nodesSum_le P h.1.2
  have h2 := fnsSum_le F h.2.2
  have h3 := h.1.1
  have h4 := h.2.1
  have c : 0 ≤ (1 : Int) ∧ 1 + ((mkk_nodesSum P + mkk_fnsSum F : Nat) : Int) < 4611686018427387904 := by omega
  exact ⟨_, by rw [laws_markProgram.f, if_pos c], by omega⟩

theorem FnExactVarsOf : ∀ (l0_0 : List S80) (l0_1 : List S84) (a1 : Int), (l0_0.length ≤ maxLen ∧ ∀ a ∈ l0_0, G80 a) → (l0_1.length ≤ maxLen ∧ ∀ a ∈ l0_1, G84 a) → (Lit.int .i64 a1).wf = true → ∃ k, laws_FnExactVarsOf.f k l0_0 l0_1 a1 = some true := by
  intro ns fs a hn hf hw
  obtain ⟨r, E1, h1⟩ := laws_szProgram_or ns fs 1048576 (by decide) (by decide) hn.1 (fun x hx => ⟨(hn.2 x hx).2.2.1, (hn.2 x hx).2.2.2.1⟩) hf.1 (fun x hx => ⟨(hf.2 x hx).1, (hf.2 x hx).2.1.1, fun y hy => ((hf.2 x hx).2.1.2 y hy).1⟩)
  by_cases c : r < 0
  · obtain ⟨k, e⟩ := E1.rounds
    have e' : laws_szProgram.f k ns fs 1048576 = some r := e
    exact ⟨k, by rw [laws_FnExactVarsOf.f, e', Option.bind_some, if_pos c]⟩
  rcases h1 with h1 | h1
  · exact absurd h1 c
  have hP := h1.2.2
  obtain ⟨l, hll, S, I⟩ := VarsOf_ev _ _ hP a
  obtain ⟨m, hm, hm0⟩ := markProgram_is _ _ hP
  have hml : ((1 : Nat) : Int) = 1 := rfl
  obtain ⟨K1, e1⟩ := E1
  obtain ⟨K2, e2⟩ := laws_toProgram_ev ns fs hP
  obtain ⟨K3, e3⟩ := laws_eqProgram_ev _ _ hP
  obtain ⟨K4, e4⟩ := S
  obtain ⟨K5, e5⟩ := I
  obtain ⟨K6, e6⟩ := laws_eqVarS_ev l (by omega)
  obtain ⟨K7, e7⟩ := laws_markVarS_ev l 1 (by omega)
  obtain ⟨K8, e8⟩ := laws_heldVarS_ev 1 l.length (by omega)
  rw [hml] at e7 e8
  have n1 : ¬ ((1 + 3 * l.length : Nat) : Int) < 0 := by omega
  have n2 : ¬ m < 0 := by omega
  refine ⟨K1 + K2 + K3 + K4 + K5 + K6 + K7 + K8 + 1, ?_⟩
  have f1 := e1 (K1 + K2 + K3 + K4 + K5 + K6 + K7 + K8 + 1) (by omega)
  have f2 := e2 (K1 + K2 + K3 + K4 + K5 + K6 + K7 + K8 + 1) (by omega)
  have f3 := e3 (K1 + K2 + K3 + K4 + K5 + K6 + K7 + K8 + 1) (by omega)
  have f4 := e4 (K1 + K2 + K3 + K4 + K5 + K6 + K7 + K8 + 1) (by omega)
  have f5 := e5 (K1 + K2 + K3 + K4 + K5 + K6 + K7 + K8 + 1) (by omega)
  have f6 := e6 (K1 + K2 + K3 + K4 + K5 + K6 + K7 + K8 + 1) (by omega)
  have g2 := e2 (K1 + K2 + K3 + K4 + K5 + K6 + K7 + K8) (by omega)
  have g5 := e5 (K1 + K2 + K3 + K4 + K5 + K6 + K7 + K8) (by omega)
  have g6 := e6 (K1 + K2 + K3 + K4 + K5 + K6 + K7 + K8) (by omega)
  have g7 := e7 (K1 + K2 + K3 + K4 + K5 + K6 + K7 + K8) (by omega)
  have g8 := e8 (K1 + K2 + K3 + K4 + K5 + K6 + K7 + K8) (by omega)
  simp only [laws_FnExactVarsOf.f]
  simp only [f1, f2, f3, f4, f5, f6, hm, Option.bind_some, if_neg c, if_neg n2, if_true, Bool.not_true]
  rw [laws_FnExactVarsOf.j0, if_neg (by decide)]
  simp only [g2, g5, g6, g7, g8, Option.bind_some, if_neg n1, if_true]
end Go.Proofs.YtcoapbnbakmkoaaGreatDoor.Pure
