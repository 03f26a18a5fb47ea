/- The program's Moved returns what the reference's returns, for every memory and value, and leaves its argument as it is. No condition beside what the statement itself asks. -/
import Derived.Test.YtnlhjblfemgggaaPFnExactMovedx7
import Derived.Test.YtnlhjblfemgggaaRdFnExactMoved
set_option linter.unusedVariables false
set_option linter.unusedSimpArgs false
namespace Go.Proofs.Ytnlhjblfemgggaa.Pure
open Go.RowKit Go.Proofs.Ytnlhjblfemgggaa.PFnExactMoved Go.Proofs.Ytnlhjblfemgggaa.RdFnExactMoved Go.Proofs.YtnlhjblfemgggaaW.PrintWords Go.Proofs.YtnlhjblfemgggaaW.PrintLast

theorem b_w64 {x : Int} (h0 : -9223372036854775808 ≤ x) (h1 : x ≤ 9223372036854775807) : wrap64 x = x := by unfold wrap64; omega
theorem b_tmod {x y : Int} (h : 0 ≤ x) : Int.tmod x y = x % y := Int.tmod_eq_emod_of_nonneg h
theorem ev_s0 {α : Type} {F : Nat → Option α} {r : α} (H : ∀ k, F (k + 1) = some r) : Ev F r := by
  refine ⟨1, fun k hk => ?_⟩
  obtain ⟨m, rfl⟩ : ∃ m, k = m + 1 := ⟨k - 1, by omega⟩
  exact H m
theorem ev_a1 {α β : Type} {F : Nat → Option α} {r : α} {g : Nat → Option β} {a : β} (ha : Ev g a) (H : ∀ k, g k = some a → F k = some r) : Ev F r := by
  obtain ⟨K, ha⟩ := ha
  exact ⟨K, fun k hk => H k (ha k hk)⟩
theorem ev_s1 {α β : Type} {F : Nat → Option α} {r : α} {g : Nat → Option β} {a : β} (ha : Ev g a) (H : ∀ k, g k = some a → F (k + 1) = some r) : Ev F r := by
  obtain ⟨K, ha⟩ := ha
  refine ⟨K + 1, fun k hk => ?_⟩
  obtain ⟨m, rfl⟩ : ∃ m, k = m + 1 := ⟨k - 1, by omega⟩
  exact H m (ha m (by omega))
theorem ev_and {α β : Type} {g : Nat → Option α} {f : Nat → Option β} {a : α} {b : β} (ha : Ev g a) (hb : Ev f b) : ∃ K, ∀ k, K ≤ k → g k = some a ∧ f k = some b := by
  obtain ⟨K, ha⟩ := ha
  obtain ⟨K', hb⟩ := hb
  exact ⟨max K K', fun k hk => ⟨ha k (by omega), hb k (by omega)⟩⟩
theorem ev_a3 {α β γ δ : Type} {F : Nat → Option α} {r : α} {g : Nat → Option β} {a : β} {f : Nat → Option γ} {b : γ} {e : Nat → Option δ} {c : δ} (ha : Ev g a) (hb : Ev f b) (hc : Ev e c) (H : ∀ k, g k = some a → f k = some b → e k = some c → F k = some r) : Ev F r := by
  obtain ⟨K, h⟩ := ev_and ha hb
  obtain ⟨K', h'⟩ := hc
  exact ⟨max K K', fun k hk => H k (h k (by omega)).1 (h k (by omega)).2 (h' k (by omega))⟩
theorem set_at {α : Type} : ∀ (a : List α) (b : α) (r : List α) (v : α) (i : Nat), a.length = i → (a ++ b :: r).set i v = a ++ v :: r
  | [], b, r, v, i, h => by subst h; rfl
  | x :: a, b, r, v, i, h => by
    subst h
    simp only [List.cons_append, List.length_cons, List.set_cons_succ, set_at a b r v a.length rfl]
theorem copy_step {α β : Type} (f : α → β) (xs : List α) (z : β) (i : Nat) (h : i < xs.length) :
    ((xs.take i).map f ++ List.replicate (xs.length - i) z).set i (f xs[i]) = (xs.take (i + 1)).map f ++ List.replicate (xs.length - (i + 1)) z := by
  rw [show xs.length - i = (xs.length - (i + 1)) + 1 by omega, List.replicate_succ, set_at _ _ _ _ i (by simp; omega), List.take_succ_eq_append_getElem h, List.map_append, List.append_assoc]
  rfl
theorem rd_nat (xs : List Int) (i : Nat) (h : i < xs.length) : rd xs (i : Int) = xs[i] := by
  unfold rd
  rw [Int.toNat_natCast, List.getD_eq_getElem?_getD, List.getElem?_eq_getElem h]; rfl
theorem getD_nat {α : Type} (xs : List α) (z : α) (i : Nat) (h : i < xs.length) : xs.getD ((i : Int)).toNat z = xs[i] := by
  rw [Int.toNat_natCast, List.getD_eq_getElem?_getD, List.getElem?_eq_getElem h]; rfl
theorem w_succ {i : Nat} (h : i < 4611686018427387904) : wrap64 ((i : Int) + 1) = ((i + 1 : Nat) : Int) := by unfold wrap64; omega
theorem laws_toIntS_l0 (l : List Int) (hl : l.length ≤ 1048576) : ∀ (d i : Nat), i + d = l.length →
    Ev (fun k => laws_toIntS.l0 k l ((l.take i).map id ++ List.replicate (l.length - i) 0) (i : Int)) l
  | 0, i, h => by
    refine ev_s0 (fun k => ?_)
    simp only [laws_toIntS.l0]
    rw [if_neg (by omega), show l.length - i = 0 by omega, show i = l.length by omega]; simp
  | d + 1, i, h => by
    refine ev_s1 (laws_toIntS_l0 l hl d (i + 1) (by omega)) (fun k e => ?_)
    have hi : i < l.length := by omega
    simp only [laws_toIntS.l0]
    rw [if_pos (by omega), if_pos (by omega), if_pos (by simp; omega), Int.toNat_natCast, rd_nat l i hi, show l[i] = id l[i] from rfl, copy_step id l 0 i hi, w_succ (by omega)]
    exact e
theorem laws_toIntS_ev (l : List Int) (hl : l.length ≤ 1048576) : Ev (fun k => laws_toIntS.f k l) l := by
  refine ev_a1 (laws_toIntS_l0 l hl l.length 0 (by omega)) (fun k e => ?_)
  simp only [laws_toIntS.f]
  rw [if_pos (by omega), Int.toNat_natCast, if_pos (by omega)]
  simpa using e
theorem laws_szIntS_is (l : List Int) (a : Int) (h0 : 0 ≤ a) (h1 : a ≤ 1048576) (hl : l.length ≤ maxLen) : laws_szIntS.f l a = some (if a < l.length then -1 else a - l.length) := by
  unfold maxLen at hl
  have e : wrap64 (a - (l.length : Int)) = a - l.length := b_w64 (by omega) (by omega)
  simp only [laws_szIntS.f]
  rw [e]
  by_cases c : a < l.length
  · rw [if_pos (by omega), if_pos c]
  · rw [if_neg (by omega), if_neg c]

def mkI (m n : Nat) : List Int := (List.range n).map fun j => ((m + j : Nat) : Int)
theorem mkI_succ (m n : Nat) : mkI m (n + 1) = mkI m n ++ [((m + n : Nat) : Int)] := by simp [mkI, List.range_succ]
theorem mkI_length (m n : Nat) : (mkI m n).length = n := by simp [mkI]
theorem laws_markIntS_l0 (m : Nat) : ∀ (rest : List Int) (i : Nat), m + i + rest.length < 4611686018427387904 →
    Ev (fun k => laws_markIntS.l0 k (mkI m i ++ rest) ((m + i : Nat) : Int) (i : Int)) (((m + i + rest.length : Nat) : Int), mkI m (i + rest.length))
  | [], i, h => by
    refine ev_s0 (fun k => ?_)
    simp only [laws_markIntS.l0, List.append_nil, mkI_length]
    rw [if_neg (by omega)]; rfl
  | b :: rest, i, h => by
    simp only [List.length_cons] at h
    have ih := laws_markIntS_l0 m rest (i + 1) (by omega)
    refine ev_s1 ih (fun k e => ?_)
    simp only [laws_markIntS.l0]
    rw [if_pos (by simp [mkI_length]; omega), if_pos (by omega)]
    have e3 : (mkI m i ++ b :: rest).set ((i : Int)).toNat ((m + i : Nat) : Int) = mkI m (i + 1) ++ rest := by
      rw [Int.toNat_natCast, mkI_succ, List.append_assoc, set_at _ _ _ _ i (mkI_length m i)]
      rfl
    rw [e3, show wrap64 (((m + i : Nat) : Int) + 1) = ((m + (i + 1) : Nat) : Int) by unfold wrap64; omega, show wrap64 ((i : Int) + 1) = ((i + 1 : Nat) : Int) by unfold wrap64; omega, e]
    simp only [List.length_cons]
    rw [show m + (i + 1) + rest.length = m + i + (rest.length + 1) by omega, show i + 1 + rest.length = i + (rest.length + 1) by omega]
theorem laws_markIntS_ev (xs : List Int) (m : Nat) (h : m + xs.length < 4611686018427387904) :
    Ev (fun k => laws_markIntS.f k xs (m : Int)) (((m + xs.length : Nat) : Int), mkI m xs.length) := by
  have := laws_markIntS_l0 m xs 0 (by omega)
  simpa [mkI, laws_markIntS.f] using this
theorem laws_heldIntS_l0 (m n : Nat) (h : m + n < 4611686018427387904) : ∀ (d i : Nat), i + d = n →
    Ev (fun k => laws_heldIntS.l0 k (mkI m n) ((m + i : Nat) : Int) (i : Int)) ((m + n : Nat) : Int)
  | 0, i, hi => by
    refine ev_s0 (fun k => ?_)
    simp only [laws_heldIntS.l0, mkI_length]
    rw [if_neg (by omega), show m + i = m + n by omega]
  | d + 1, i, hi => by
    have ih := laws_heldIntS_l0 m n h d (i + 1) (by omega)
    refine ev_s1 ih (fun k e => ?_)
    simp only [laws_heldIntS.l0, mkI_length]
    have e3 : rd (mkI m n) (i : Int) = ((m + i : Nat) : Int) := by
      rw [rd_nat _ _ (by rw [mkI_length]; omega)]
      simp [mkI]
    rw [if_pos (by omega), if_pos (by omega), e3, if_pos rfl, show wrap64 (((m + i : Nat) : Int) + 1) = ((m + (i + 1) : Nat) : Int) by unfold wrap64; omega, show wrap64 ((i : Int) + 1) = ((i + 1 : Nat) : Int) by unfold wrap64; omega]
    exact e
theorem laws_heldIntS_ev (m n : Nat) (h : m + n < 4611686018427387904) : Ev (fun k => laws_heldIntS.f k (mkI m n) (m : Int)) ((m + n : Nat) : Int) := by
  have := laws_heldIntS_l0 m n h n 0 (by omega)
  simpa [laws_heldIntS.f] using this

abbrev CellT := S93
theorem rdC_nat (xs : List CellT) (i : Nat) (h : i < xs.length) : rd_T93 xs (i : Int) = xs[i] := by
  unfold rd_T93
  exact getD_nat xs _ i h
theorem laws_eqCellS_l0 (a : List CellT) (hl : a.length < 4611686018427387904) : ∀ (d i : Nat), i + d = a.length → Ev (fun k => laws_eqCellS.l0 k a a (i : Int)) true
  | 0, i, h => by
    refine ev_s0 (fun k => ?_)
    simp only [laws_eqCellS.l0]
    rw [if_neg (by omega)]
  | d + 1, i, h => by
    refine ev_s1 (laws_eqCellS_l0 a hl d (i + 1) (by omega)) (fun k e => ?_)
    simp only [laws_eqCellS.l0, laws_eqCell.f]
    rw [if_pos (by omega), if_pos (by omega), if_pos (by omega), w_succ (by omega)]
    simpa using e
theorem laws_eqCellS_ev (a : List CellT) (hl : a.length < 4611686018427387904) : Ev (fun k => laws_eqCellS.f k a a) true := by
  refine ev_a1 (laws_eqCellS_l0 a hl a.length 0 (by omega)) (fun k e => ?_)
  simp only [laws_eqCellS.f, if_true]
  exact e
theorem laws_eqIntS_ev' (a : List Int) (hl : a.length < 4611686018427387904) : Ev (fun k => laws_eqIntS.f k a a) true := by
  have : ∀ (d i : Nat), i + d = a.length → Ev (fun k => laws_eqIntS.l0 k a a (i : Int)) true := by
    intro d
    induction d with
    | zero => 
      intro i h
      refine ev_s0 (fun k => ?_)
      simp only [laws_eqIntS.l0]
      rw [if_neg (by omega)]
    | succ d ih =>
      intro i h
      refine ev_s1 (ih (i + 1) (by omega)) (fun k e => ?_)
      simp only [laws_eqIntS.l0, if_true]
      rw [if_pos (by omega), if_pos (by omega), if_pos (by omega), w_succ (by omega)]
      exact e
  refine ev_a1 (this a.length 0 (by omega)) (fun k e => ?_)
  simp only [laws_eqIntS.f, if_true]
  exact e
theorem laws_eqMemory_ev (c : List CellT) (x y : List Int) (f u : Int) (hc : c.length < 4611686018427387904) (hx : x.length < 4611686018427387904) (hy : y.length < 4611686018427387904) :
    Ev (fun k => laws_eqMemory.f k c x y f u c x y f u) true := by
  refine ev_a3 (laws_eqCellS_ev c hc) (laws_eqIntS_ev' x hx) (laws_eqIntS_ev' y hy) (fun k e1 e2 e3 => ?_)
  simp only [laws_eqMemory.f, e1, e2, e3, Option.bind_some, if_true]
def mkC (m n : Nat) : List CellT := (List.range n).map fun j => ⟨(((m + 2 * j : Nat) : Int) % 3 == 0), ((m + 2 * j + 1 : Nat) : Int)⟩
theorem mkC_succ (m n : Nat) : mkC m (n + 1) = mkC m n ++ [⟨(((m + 2 * n : Nat) : Int) % 3 == 0), ((m + 2 * n + 1 : Nat) : Int)⟩] := by simp [mkC, List.range_succ]
theorem mkC_length (m n : Nat) : (mkC m n).length = n := by simp [mkC]
theorem rdC_set (xs : List CellT) (i : Nat) (v : CellT) (h : i < xs.length) : rd_T93 (xs.set i v) (i : Int) = v := by
  rw [rdC_nat _ _ (by simp; omega)]; simp
theorem laws_markCellS_l0 (m : Nat) : ∀ (rest : List CellT) (i : Nat), m + 2 * i + 2 * rest.length < 4611686018427387904 →
    Ev (fun k => laws_markCellS.l0 k (mkC m i ++ rest) ((m + 2 * i : Nat) : Int) (i : Int)) (((m + 2 * (i + rest.length) : Nat) : Int), mkC m (i + rest.length))
  | [], i, h => by
    refine ev_s0 (fun k => ?_)
    simp only [laws_markCellS.l0, List.append_nil, mkC_length]
    rw [if_neg (by omega)]; rfl
  | b :: rest, i, h => by
    simp only [List.length_cons] at h
    have ih := laws_markCellS_l0 m rest (i + 1) (by omega)
    refine ev_s1 ih (fun k e => ?_)
    simp only [laws_markCellS.l0]
    rw [if_pos (by simp [mkC_length]; omega), if_pos (by omega)]
    simp only [Option.bind_some, Int.toNat_natCast]
    rw [rdC_set _ _ _ (by simp [mkC_length])]
    rw [show wrap64 (((m + 2 * i : Nat) : Int) + 1) = ((m + 2 * i + 1 : Nat) : Int) by unfold wrap64; omega,
      show wrap64 (((m + 2 * i + 1 : Nat) : Int) + 1) = ((m + 2 * (i + 1) : Nat) : Int) by unfold wrap64; omega,
      show wrap64 ((i : Int) + 1) = ((i + 1 : Nat) : Int) by unfold wrap64; omega, List.set_set, set_at _ _ _ _ i (mkC_length m i)]
    have e3 : mkC m i ++ (⟨(Int.tmod ((m + 2 * i : Nat) : Int) 3) == 0, ((m + 2 * i + 1 : Nat) : Int)⟩ : CellT) :: rest = mkC m (i + 1) ++ rest := by
      rw [mkC_succ, List.append_assoc, b_tmod (by omega)]
      rfl
    rw [e3, e]
    simp only [List.length_cons]
    rw [show i + 1 + rest.length = i + (rest.length + 1) by omega]
theorem laws_markCellS_ev (xs : List CellT) (m : Nat) (h : m + 2 * xs.length < 4611686018427387904) :
    Ev (fun k => laws_markCellS.f k xs (m : Int)) (((m + 2 * xs.length : Nat) : Int), mkC m xs.length) := by
  have := laws_markCellS_l0 m xs 0 (by omega)
  simpa [mkC, laws_markCellS.f] using this
theorem laws_heldCellS_l0 (m n : Nat) (h : m + 2 * n < 4611686018427387904) : ∀ (d i : Nat), i + d = n →
    Ev (fun k => laws_heldCellS.l0 k (mkC m n) ((m + 2 * i : Nat) : Int) (i : Int)) ((m + 2 * n : Nat) : Int)
  | 0, i, hi => by
    refine ev_s0 (fun k => ?_)
    simp only [laws_heldCellS.l0, mkC_length]
    rw [if_neg (by omega), show m + 2 * i = m + 2 * n by omega]
  | d + 1, i, hi => by
    have ih := laws_heldCellS_l0 m n h d (i + 1) (by omega)
    refine ev_s1 ih (fun k e => ?_)
    simp only [laws_heldCellS.l0, mkC_length]
    have e3 : rd_T93 (mkC m n) (i : Int) = ⟨(((m + 2 * i : Nat) : Int) % 3 == 0), ((m + 2 * i + 1 : Nat) : Int)⟩ := by
      rw [rdC_nat _ _ (by rw [mkC_length]; omega)]
      simp [mkC]
    have e4 : wrap64 (((m + 2 * i : Nat) : Int) + 1) = ((m + 2 * i + 1 : Nat) : Int) := by unfold wrap64; omega
    have e5 : wrap64 (((m + 2 * i + 1 : Nat) : Int) + 1) = ((m + 2 * (i + 1) : Nat) : Int) := by unfold wrap64; omega
    have e6 : wrap64 ((i : Int) + 1) = ((i + 1 : Nat) : Int) := by unfold wrap64; omega
    rw [if_pos (by omega), if_pos (by omega), e3, b_tmod (by omega), e4, e5, e6]
    simpa using e
theorem laws_heldCellS_ev (m n : Nat) (h : m + 2 * n < 4611686018427387904) : Ev (fun k => laws_heldCellS.f k (mkC m n) (m : Int)) ((m + 2 * n : Nat) : Int) := by
  have := laws_heldCellS_l0 m n h n 0 (by omega)
  simpa [laws_heldCellS.f] using this
theorem laws_markMemory_ev (c : List CellT) (x y : List Int) (f u : Int) (h : 1 + 2 * c.length + x.length + y.length < 4611686018427387904) :
    Ev (fun k => laws_markMemory.f k c x y f u 1) (((1 + 2 * c.length + x.length + y.length : Nat) : Int), mkC 1 c.length, mkI (1 + 2 * c.length) x.length, mkI (1 + 2 * c.length + x.length) y.length) := by
  refine ev_a3 (laws_markCellS_ev c 1 (by omega)) (laws_markIntS_ev x (1 + 2 * c.length) (by omega)) (laws_markIntS_ev y (1 + 2 * c.length + x.length) (by omega)) (fun k e1 e2 e3 => ?_)
  simp only [laws_markMemory.f]
  rw [show ((1 : Nat) : Int) = 1 from rfl] at e1
  rw [e1]; simp only [Option.bind_some]; rw [e2]; simp only [Option.bind_some]; rw [e3]; rfl
theorem laws_heldMemory_ev (c x y : Nat) (f u : Int) (h : 1 + 2 * c + x + y < 4611686018427387904) :
    Ev (fun k => laws_heldMemory.f k (mkC 1 c) (mkI (1 + 2 * c) x) (mkI (1 + 2 * c + x) y) f u 1) ((1 + 2 * c + x + y : Nat) : Int) := by
  refine ev_a3 (laws_heldCellS_ev 1 c (by omega)) (laws_heldIntS_ev (1 + 2 * c) x (by omega)) (laws_heldIntS_ev (1 + 2 * c + x) y (by omega)) (fun k e1 e2 e3 => ?_)
  simp only [laws_heldMemory.f]
  rw [show ((1 : Nat) : Int) = 1 from rfl] at e1
  rw [e1]; simp only [Option.bind_some]; rw [if_neg (by omega), e2]; simp only [Option.bind_some]; rw [if_neg (by omega), e3]; simp only [Option.bind_some]; rw [if_neg (by omega)]

abbrev CellL := S98
def cellOf (c : CellL) : CellT := ⟨c.f0, c.f1⟩
theorem rdCL_nat (xs : List CellL) (i : Nat) (h : i < xs.length) : rd_T98 xs (i : Int) = xs[i] := by
  unfold rd_T98
  exact getD_nat xs _ i h
theorem laws_szCellS_is (l : List CellL) (a : Int) (h0 : 0 ≤ a) (h1 : a ≤ 1048576) (hl : l.length ≤ maxLen) : laws_szCellS.f l a = some (if a < l.length then -1 else a - l.length) := by
  unfold maxLen at hl
  have e : wrap64 (a - (l.length : Int)) = a - l.length := b_w64 (by omega) (by omega)
  simp only [laws_szCellS.f]
  rw [e]
  by_cases c : a < l.length
  · rw [if_pos (by omega), if_pos c]
  · rw [if_neg (by omega), if_neg c]
theorem laws_szMemory_is (c : List CellL) (x y : List Int) (f b : Int) (hc : c.length ≤ maxLen) (hx : x.length ≤ maxLen) (hy : y.length ≤ maxLen) :
    laws_szMemory.f c x y f b 1048576 = some (if (1048576 : Int) < c.length + x.length + y.length then (-1 : Int) else (1048576 : Int) - c.length - x.length - y.length) := by
  simp only [laws_szMemory.f]
  rw [laws_szCellS_is c _ (by omega) (by omega) hc, Option.bind_some]
  by_cases q1 : (1048576 : Int) < c.length
  · rw [if_pos q1, if_pos (show (-1 : Int) < 0 by omega), if_pos (by omega)]
  · rw [if_neg q1, if_neg (show ¬((1048576 : Int) - c.length < 0) by omega), laws_szIntS_is x _ (by omega) (by omega) hx, Option.bind_some]
    by_cases q2 : (1048576 : Int) - c.length < x.length
    · rw [if_pos q2, if_pos (show (-1 : Int) < 0 by omega), if_pos (by omega)]
    · rw [if_neg q2, if_neg (show ¬((1048576 : Int) - c.length - x.length < 0) by omega), laws_szIntS_is y _ (by omega) (by omega) hy, Option.bind_some]
      by_cases q3 : (1048576 : Int) - c.length - x.length < y.length
      · rw [if_pos q3, if_pos (show (-1 : Int) < 0 by omega), if_pos (by omega)]
      · rw [if_neg q3, if_neg (show ¬((1048576 : Int) - c.length - x.length - y.length < 0) by omega), if_neg (by omega)]
theorem laws_toCellS_l0 (l : List CellL) (hl : l.length ≤ 1048576) : ∀ (d i : Nat), i + d = l.length →
    Ev (fun k => laws_toCellS.l0 k l ((l.take i).map cellOf ++ List.replicate (l.length - i) z93) (i : Int)) (l.map cellOf)
  | 0, i, h => by
    refine ev_s0 (fun k => ?_)
    simp only [laws_toCellS.l0]
    rw [if_neg (by omega), show l.length - i = 0 by omega, show i = l.length by omega]; simp
  | d + 1, i, h => by
    refine ev_s1 (laws_toCellS_l0 l hl d (i + 1) (by omega)) (fun k e => ?_)
    have hi : i < l.length := by omega
    simp only [laws_toCellS.l0, laws_toCell.f, Option.bind_some]
    rw [if_pos (by omega), if_pos (by omega), if_pos (by simp; omega), Int.toNat_natCast, rdCL_nat l i hi, show (⟨l[i].f0, l[i].f1⟩ : CellT) = cellOf l[i] from rfl, copy_step cellOf l z93 i hi, w_succ (by omega)]
    exact e
theorem laws_toCellS_ev (l : List CellL) (hl : l.length ≤ 1048576) : Ev (fun k => laws_toCellS.f k l) (l.map cellOf) := by
  refine ev_a1 (laws_toCellS_l0 l hl l.length 0 (by omega)) (fun k e => ?_)
  simp only [laws_toCellS.f]
  rw [if_pos (by omega), Int.toNat_natCast, if_pos (by omega)]
  simpa using e
theorem laws_toMemory_ev (c : List CellL) (x y : List Int) (f b : Int) (hc : c.length ≤ 1048576) (hx : x.length ≤ 1048576) (hy : y.length ≤ 1048576) :
    Ev (fun k => laws_toMemory.f k c x y f b) (c.map cellOf, x, y, f, b) := by
  refine ev_a3 (laws_toCellS_ev c hc) (laws_toIntS_ev x hx) (laws_toIntS_ev y hy) (fun k e1 e2 e3 => ?_)
  simp only [laws_toMemory.f, e1, e2, e3, Option.bind_some]
theorem copyS_is (c : List CellT) (x y : List Int) (f b : Int) (hc : c.length ≤ 1048576) (hx : x.length ≤ 1048576) (hy : y.length ≤ 1048576) : spec_l09Copy.f c x y f b = some (c, x, y, f, b) := by
  simp only [spec_l09Copy.f, Option.bind_some]
  rw [if_pos (by simp; omega), if_pos (by simp; omega), if_pos (by simp; omega)]; rfl
theorem copyN_is (l : List Int) (hl : l.length ≤ 1048576) : impl_copyInts.f l = some l := by
  simp only [impl_copyInts.f]
  rw [if_pos (by simp; omega)]; rfl
theorem copyI_is (c : List CellT) (x y : List Int) (f b : Int) (hc : c.length ≤ 1048576) (hx : x.length ≤ 1048576) (hy : y.length ≤ 1048576) : impl_copyMemory.f c x y f b = some (c, x, y, f, b) := by
  simp only [impl_copyMemory.f, copyN_is x hx, copyN_is y hy, Option.bind_some]
  rw [if_pos (by simp; omega)]; rfl
theorem nat_neg (n : Nat) : ((n : Int) < 0) = False := by simp only [eq_iff_iff, iff_false]; omega
/-- What a law over a memory asks of the memory M that it takes and the memory R that it hands back, at every number of rounds from K on. -/
def MemFacts (c : List CellL) (x y : List Int) (f b : Int) (c' : List CellT) (x' y' : List Int) (f' b' : Int) (k : Nat) : Prop :=
  laws_toMemory.f k c x y f b = some (c.map cellOf, x, y, f, b) ∧
  laws_eqMemory.f k (c.map cellOf) x y f b (c.map cellOf) x y f b = some true ∧
  laws_eqMemory.f k c' x' y' f' b' c' x' y' f' b' = some true ∧
  laws_markMemory.f k (c.map cellOf) x y f b 1 = some (((1 + 2 * (c.map cellOf).length + x.length + y.length : Nat) : Int), mkC 1 (c.map cellOf).length, mkI (1 + 2 * (c.map cellOf).length) x.length, mkI (1 + 2 * (c.map cellOf).length + x.length) y.length) ∧
  laws_markMemory.f k c' x' y' f' b' 1 = some (((1 + 2 * c'.length + x'.length + y'.length : Nat) : Int), mkC 1 c'.length, mkI (1 + 2 * c'.length) x'.length, mkI (1 + 2 * c'.length + x'.length) y'.length) ∧
  laws_heldMemory.f k (mkC 1 c'.length) (mkI (1 + 2 * c'.length) x'.length) (mkI (1 + 2 * c'.length + x'.length) y'.length) f' b' 1 = some ((1 + 2 * c'.length + x'.length + y'.length : Nat) : Int)
theorem memFacts (c : List CellL) (x y : List Int) (f b : Int) (c' : List CellT) (x' y' : List Int) (f' b' : Int) (hc : c.length ≤ 1048576) (hx : x.length ≤ 1048576) (hy : y.length ≤ 1048576)
    (hc' : c'.length ≤ 1048577) (hx' : x'.length ≤ 1048577) (hy' : y'.length ≤ 1048577) : ∃ K, ∀ k, K ≤ k → MemFacts c x y f b c' x' y' f' b' k := by
  have hm : (c.map cellOf).length = c.length := by simp
  obtain ⟨K1, h1⟩ := laws_toMemory_ev c x y f b hc hx hy
  obtain ⟨K2, h2⟩ := laws_eqMemory_ev (c.map cellOf) x y f b (by omega) (by omega) (by omega)
  obtain ⟨K3, h3⟩ := laws_eqMemory_ev c' x' y' f' b' (by omega) (by omega) (by omega)
  obtain ⟨K4, h4⟩ := laws_markMemory_ev (c.map cellOf) x y f b (by omega)
  obtain ⟨K5, h5⟩ := laws_markMemory_ev c' x' y' f' b' (by omega)
  obtain ⟨K6, h6⟩ := laws_heldMemory_ev c'.length x'.length y'.length f' b' (by omega)
  exact ⟨K1 + K2 + K3 + K4 + K5 + K6, fun k hk => ⟨h1 k (by omega), h2 k (by omega), h3 k (by omega), h4 k (by omega), h5 k (by omega), h6 k (by omega)⟩⟩

theorem inS_is (a lo hi : Int) : spec_l01In.f a lo hi = some (decide (lo ≤ a ∧ a ≤ hi)) := by
  unfold spec_l01In.f
  by_cases h : a ≥ lo
  · rw [if_pos h]; simp; omega
  · rw [if_neg h]; simp; omega
theorem inI_is (a lo hi : Int) : impl_in.f a lo hi = some (decide (lo ≤ a ∧ a ≤ hi)) := by
  unfold impl_in.f
  by_cases h : a ≥ lo
  · rw [if_pos h]; simp; omega
  · rw [if_neg h]; simp; omega

theorem FnExactMoved : ∀ (l0_0 : List S98) (l0_1 : List Int) (l0_2 : List Int) (a0_3 : Int) (a0_4 : Int) (a1_0 : Int) (a1_1 : Int), (l0_0.length ≤ maxLen ∧ ∀ a ∈ l0_0, G98 a) → (l0_1.length ≤ maxLen ∧ ∀ a ∈ l0_1, (Lit.int .i64 a).wf = true) → (l0_2.length ≤ maxLen ∧ ∀ a ∈ l0_2, (Lit.int .i64 a).wf = true) → (Lit.int .i64 a0_3).wf = true → (Lit.int .i64 a0_4).wf = true → (Lit.int .i64 a1_0).wf = true → (Lit.int .i64 a1_1).wf = true → ∃ k, laws_FnExactMoved.f k l0_0 l0_1 l0_2 a0_3 a0_4 a1_0 a1_1 = some true := by
  intro c x y f b t v hc hx hy hf hb ht hv
  have S := laws_szMemory_is c x y f b hc.1 hx.1 hy.1
  by_cases q : (1048576 : Int) < c.length + x.length + y.length
  · refine ⟨0, ?_⟩
    simp only [laws_FnExactMoved.f]
    rw [S, Option.bind_some, if_pos q, if_pos (by omega)]
  · obtain ⟨c', b', n, m, hl, hs, hi⟩ : ∃ (c' : List CellT) (b' n m : Int), c'.length ≤ 1048577 ∧ spec_Moved.f (c.map cellOf) x y f b t v = some (c', x, y, f, b', n, m) ∧ impl_Moved.f (c.map cellOf) x y f b t v = some (c', x, y, f, b', n, m) := by
      simp only [spec_Moved.f, impl_Moved.f]
      rw [copyS_is _ _ _ _ _ (by simp; omega) (by omega) (by omega), copyI_is _ _ _ _ _ (by simp; omega) (by omega) (by omega)]
      simp only [Option.bind_some]
      simp only [spec_l09Live.f, inS_is, inI_is, Option.bind_some]
      rw [show wrap64 (((c.map cellOf).length : Int) - 1) = ((c.map cellOf).length : Int) - 1 from b_w64 (by simp; omega) (by simp; omega)]
      have hlen : (c.map cellOf).length = c.length := by simp
      by_cases q1 : b = 0
      · rw [if_pos q1, if_pos q1]
        by_cases q2 : t = 2
        · rw [if_pos q2, if_pos q2, if_pos (decide_eq_true (show 2 ≤ t ∧ t ≤ 4 by omega))]
          by_cases q3 : 0 ≤ v ∧ v ≤ ((c.map cellOf).length : Int) - 1
          · obtain ⟨i, rfl⟩ := Int.eq_ofNat_of_zero_le q3.1
            have q4 : ((i : Nat) : Int) < ((c.map cellOf).length : Int) := by omega
            have q4' : i < (c.map cellOf).length := by omega
            simp only [if_pos (decide_eq_true q3), if_pos q3.1, if_pos q4, Option.bind_some, Int.toNat_natCast, rdC_set _ _ _ q4']
            by_cases q5 : (rd_T93 (c.map cellOf) (i : Int)).f0 = true
            · simp only [if_pos q5]
              rw [if_pos (by simp; omega)]
              exact ⟨_, _, _, _, by simp; omega, rfl, rfl⟩
            · simp only [if_neg q5]
              exact ⟨_, _, _, _, by simp; omega, rfl, rfl⟩
          · have q6 : ¬decide (0 ≤ v ∧ v ≤ ((c.map cellOf).length : Int) - 1) = true := by simpa using q3
            rw [if_neg q6, if_neg q6, Option.bind_some, if_neg (by decide)]
            exact ⟨_, _, _, _, by simp; omega, rfl, rfl⟩
        · rw [if_neg q2, if_neg q2]
          exact ⟨_, _, _, _, by simp; omega, rfl, rfl⟩
      · rw [if_neg q1, if_neg q1]
        exact ⟨_, _, _, _, by simp; omega, rfl, rfl⟩
    obtain ⟨K, H⟩ := memFacts c x y f b c' x y f b' (by omega) (by omega) (by omega) (by first | omega | (simp; omega)) (by omega) (by omega)
    have h1 := fun k hk => (H k hk).1
    have h2 := fun k hk => (H k hk).2.1
    have h3 := fun k hk => (H k hk).2.2.1
    have h4 := fun k hk => (H k hk).2.2.2.1
    have h5 := fun k hk => (H k hk).2.2.2.2.1
    have h6 := fun k hk => (H k hk).2.2.2.2.2
    refine ⟨K + 16, ?_⟩
    simp only [laws_FnExactMoved.f]
    rw [S, Option.bind_some, if_neg q, if_neg (by omega)]
    simp [laws_FnExactMoved.j0, laws_FnExactMoved.j1, laws_FnExactMoved.j2, laws_toValue.f, laws_eqValue.f, h1, h2, h3, h4, h5, h6, hs, hi, nat_neg, -List.length_map, -Int.natCast_add]
end Go.Proofs.Ytnlhjblfemgggaa.Pure
