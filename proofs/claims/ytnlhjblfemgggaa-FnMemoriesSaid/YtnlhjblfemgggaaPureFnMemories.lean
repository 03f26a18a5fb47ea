/- What is fresh in a drawn memory is there; what was given away or freed is gone, and who looks at it is told. No condition beside what the statement itself asks. -/
import Derived.Test.YtnlhjblfemgggaaPFnMemoriesx6
import Derived.Laws.BitsLemmas
set_option linter.unusedVariables false
set_option linter.unusedSimpArgs false
namespace Go.Proofs.Ytnlhjblfemgggaa.Pure
open Go.RowKit Go.Proofs.Ytnlhjblfemgggaa.PFnMemories Go.Proofs.YtnlhjblfemgggaaW.PrintWords Go.Proofs.YtnlhjblfemgggaaW.PrintLast

theorem b_w64 {x : Int} (h0 : -9223372036854775808 ≤ x) (h1 : x ≤ 9223372036854775807) : wrap64 x = x := by unfold wrap64; omega
theorem b_tmod {x y : Int} (h : 0 ≤ x) : Int.tmod x y = x % y := Int.tmod_eq_emod_of_nonneg h
theorem ev_s0 {α : Type} {F : Nat → Option α} {r : α} (H : ∀ k, F (k + 1) = some r) : Ev F r := by
  refine ⟨1, fun k hk => ?_⟩
  obtain ⟨m, rfl⟩ : ∃ m, k = m + 1 := ⟨k - 1, by omega⟩
  exact H m
theorem ev_s1 {α β : Type} {F : Nat → Option α} {r : α} {g : Nat → Option β} {a : β} (ha : Ev g a) (H : ∀ k, g k = some a → F (k + 1) = some r) : Ev F r := by
  obtain ⟨K, ha⟩ := ha
  refine ⟨K + 1, fun k hk => ?_⟩
  obtain ⟨m, rfl⟩ : ∃ m, k = m + 1 := ⟨k - 1, by omega⟩
  exact H m (ha m (by omega))
theorem ev_and {α β : Type} {g : Nat → Option α} {f : Nat → Option β} {a : α} {b : β} (ha : Ev g a) (hb : Ev f b) : ∃ K, ∀ k, K ≤ k → g k = some a ∧ f k = some b := by
  obtain ⟨K, ha⟩ := ha
  obtain ⟨K', hb⟩ := hb
  exact ⟨max K K', fun k hk => ⟨ha k (by omega), hb k (by omega)⟩⟩
theorem ev_a2 {α β γ : Type} {F : Nat → Option α} {r : α} {g : Nat → Option β} {a : β} {f : Nat → Option γ} {b : γ} (ha : Ev g a) (hb : Ev f b) (H : ∀ k, g k = some a → f k = some b → F k = some r) : Ev F r := by
  obtain ⟨K, h⟩ := ev_and ha hb
  exact ⟨K, fun k hk => H k (h k hk).1 (h k hk).2⟩
theorem i64_and255 (n : Int) : Go.bits .and .i64 n 255 = n % 256 := by
  have h255 : (BitVec.ofInt 64 255).toNat = 2 ^ 8 - 1 := by decide
  have key : (BitVec.ofInt 64 n &&& BitVec.ofInt 64 255).toNat = (n % ((2 ^ 64 : Nat) : Int)).toNat % 2 ^ 8 := by
    rw [BitVec.toNat_and, BitVec.toNat_ofInt, h255, Nat.and_two_pow_sub_one_eq_mod]
  show IntKind.i64.wrap ((BitVec.ofInt 64 n &&& BitVec.ofInt 64 255).toNat : Nat) = n % 256
  rw [key, IntKind.wrap_i64]
  omega
/-- a tape is read at a place within it -/
def OkAt (s : List Int) (i : Int) : Prop := 0 ≤ i ∧ i ≤ (s.length : Int)
theorem byte_is (s : List Int) (hs : s.length ≤ 140737488355328) (i g : Int) (h : OkAt s i) :
    ∃ v i' g', spec_l01Byte.f s i g = some (v, i', g') ∧ 0 ≤ v ∧ v ≤ 255 ∧ OkAt s i' := by
  unfold OkAt at *
  rw [spec_l01Byte.f]
  by_cases c : i < (s.length : Int)
  · have q : 0 ≤ i := h.1
    rw [if_pos c, if_pos q]
    refine ⟨_, _, _, rfl, ?_, ?_, ?_⟩
    · rw [i64_and255]; exact Int.emod_nonneg _ (by decide)
    · rw [i64_and255]; have := Int.emod_lt_of_pos (wrap64 (Go.bits .and .i64 (Go.bits .xor .i64 ((wrap64 ((wrap64 (g * 6364136223846793005)) + 1442695040888963407)) / 8589934592) ((wrap64 ((wrap64 (g * 6364136223846793005)) + 1442695040888963407)) / 35184372088832)) 255 + (wrap64 (rd s i)))) (show (0 : Int) < 256 by decide); clear c q h; generalize (_ % 256 : Int) = z at this ⊢; omega
    · have e : wrap64 (i + 1) = i + 1 := b_w64 (by omega) (by omega)
      rw [e]; omega
  · rw [if_neg c]
    refine ⟨_, _, _, rfl, ?_, ?_, h⟩
    · rw [i64_and255]; exact Int.emod_nonneg _ (by decide)
    · rw [i64_and255]; exact Int.le_of_lt_add_one (Int.emod_lt_of_pos _ (by decide))
theorem below_is (s : List Int) (hs : s.length ≤ 140737488355328) (i g n : Int) (hn : 0 < n) (h : OkAt s i) :
    ∃ v i' g', spec_l01Below.f s i g n = some (v, i', g') ∧ 0 ≤ v ∧ v < n ∧ OkAt s i' := by
  rw [spec_l01Below.f, if_neg (by omega)]
  by_cases c : n ≤ 256
  · obtain ⟨v, i1, g1, e, v0, v1, h1⟩ := byte_is s hs i g h
    rw [if_pos c, e, Option.bind_some, if_neg (by omega)]
    refine ⟨_, _, _, rfl, ?_, ?_, h1⟩
    · rw [b_tmod v0]; exact Int.emod_nonneg _ (by omega)
    · rw [b_tmod v0]; exact Int.emod_lt_of_pos _ hn
  · obtain ⟨v, i1, g1, e, v0, v1, h1⟩ := byte_is s hs i g h
    obtain ⟨u, i2, g2, e2, u0, u1, h2⟩ := byte_is s hs i1 g1 h1
    obtain ⟨x, i3, g3, e3, x0, x1, h3⟩ := byte_is s hs i2 g2 h2
    obtain ⟨y, i4, g4, e4, y0, y1, h4⟩ := byte_is s hs i3 g3 h3
    rw [if_neg c, e, Option.bind_some, e2, Option.bind_some, e3, Option.bind_some, e4, Option.bind_some, if_neg (by omega)]
    have w0 : 0 ≤ wrap64 ((wrap64 ((wrap64 ((wrap64 (v * 16777216)) + (wrap64 (u * 65536)))) + (wrap64 (x * 256)))) + y) := by
      clear e e2 e3 e4 h h1 h2 h3 h4 hn c
      unfold wrap64; omega
    refine ⟨_, _, _, rfl, ?_, ?_, h4⟩
    · simp only; rw [b_tmod w0]; exact Int.emod_nonneg _ (by omega)
    · simp only; rw [b_tmod w0]; exact Int.emod_lt_of_pos _ hn
theorem new_l0 (l : List Int) (hs : l.length ≤ 140737488355328) : ∀ (d i : Nat) (x : Int), 4000 ≤ i + d → ∃ g, Ev (fun k => spec_l01New.l0 k l x (i : Int)) (l, 0, g)
  | 0, i, x, h => by
    refine ⟨x, ev_s0 fun k => ?_⟩
    rw [spec_l01New.l0]
    by_cases c : (i : Int) < (l.length : Int)
    · rw [if_pos c, if_neg (by omega)]
    · rw [if_neg c]
  | d + 1, i, x, h => by
    by_cases c : (i : Int) < (l.length : Int)
    · by_cases c2 : (i : Int) < 4000
      · obtain ⟨g, e⟩ := new_l0 l hs d (i + 1) (Go.bits .and .i64 (wrap64 ((wrap64 ((wrap64 (x * 131)) + (wrap64 (rd l (i : Int))))) + 7)) 1073741823) (by omega)
        refine ⟨g, ev_s1 e fun k ek => ?_⟩
        have q : (0 : Int) ≤ (i : Int) := by omega
        have w : wrap64 ((i : Int) + 1) = ((i + 1 : Nat) : Int) := by unfold wrap64; omega
        rw [spec_l01New.l0, if_pos c, if_pos c2, if_pos q, w]
        exact ek
      · refine ⟨x, ev_s0 fun k => ?_⟩
        rw [spec_l01New.l0, if_pos c, if_neg c2]
    · refine ⟨x, ev_s0 fun k => ?_⟩
      rw [spec_l01New.l0, if_neg c]
theorem new_is (l : List Int) (hs : l.length ≤ 140737488355328) : ∃ g, Ev (fun k => spec_l01New.f k l) (l, 0, g) := new_l0 l hs 4000 0 _ (by omega)

abbrev MCell := S93
theorem mrd (xs : List MCell) (i : Nat) (h : i < xs.length) : rd_T93 xs (i : Int) = xs[i] := by
  unfold rd_T93
  simp [List.getD_eq_getElem?_getD, h]
theorem min_is (a lo hi : Int) : impl_in.f a lo hi = some (decide (lo ≤ a ∧ a ≤ hi)) := by
  unfold impl_in.f
  by_cases h : a ≥ lo
  · rw [if_pos h]; simp; omega
  · rw [if_neg h]; simp; omega
theorem msin_is (a lo hi : Int) : spec_l01In.f a lo hi = some (decide (lo ≤ a ∧ a ≤ hi)) := by
  unfold spec_l01In.f
  by_cases h : a ≥ lo
  · rw [if_pos h]; simp; omega
  · rw [if_neg h]; simp; omega
theorem mcopyN (l : List Int) (hl : l.length ≤ 100) : impl_copyInts.f l = some l := by
  simp only [impl_copyInts.f]
  rw [if_pos (by simp; omega)]; rfl
theorem mcopy (c : List MCell) (x y : List Int) (f b : Int) (hc : c.length ≤ 100) (hx : x.length ≤ 100) (hy : y.length ≤ 100) : impl_copyMemory.f c x y f b = some (c, x, y, f, b) := by
  simp only [impl_copyMemory.f, mcopyN x hx, mcopyN y hy, Option.bind_some]
  rw [if_pos (by simp; omega)]; rfl
theorem mlast (n : Nat) (h : n ≤ 100) : wrap64 (((n + 1 : Nat) : Int) - 1) = (n : Int) := by unfold wrap64; omega
theorem mtop (n : Nat) (h : n ≤ 100) : wrap64 ((n : Int) - 1) = (n : Int) - 1 := by unfold wrap64; omega
section
variable (c : List MCell) (x y : List Int) (f : Int) (hc : c.length ≤ 90) (hx : x.length ≤ 100) (hy : y.length ≤ 100)
include hc hx hy
theorem mfresh (n : Int) : impl_Fresh.f c x y f 0 n = some (c ++ [⟨true, n⟩], x, y, f, 0, 2, (c.length : Int)) := by
  rw [impl_Fresh.f, mcopy c x y f 0 (by omega) hx hy, Option.bind_some, if_pos rfl, if_pos (show c.length < 8796093022208 by omega)]
  simp only [Option.bind_some]
  rw [show (c ++ [(⟨true, n⟩ : MCell)]).length = c.length + 1 by simp, mlast _ (by omega)]
theorem mlooked (t : Int) (v : Nat) (ht : 2 ≤ t ∧ t ≤ 4) (hv : v < c.length) (b : Bool) (n : Int) (e : rd_T93 c (v : Int) = ⟨b, n⟩) :
    impl_Looked.f c x y f 0 t (v : Int) = some (if b = true then (c, x, y, f, 0, n) else (c, x, y, f, 5, 0)) := by
  rw [impl_Looked.f, mcopy c x y f 0 (by omega) hx hy, Option.bind_some, if_pos rfl, min_is, Option.bind_some, if_pos (decide_eq_true ht)]
  simp only
  rw [mtop _ (by omega), min_is, Option.bind_some, if_pos (decide_eq_true (by omega)), if_pos (by omega), if_pos (by omega), e]
  by_cases q : b = true
  · rw [if_pos q, if_pos q]
  · rw [if_neg q, if_neg q]
theorem mmoved (v : Nat) (hv : v < c.length) (n : Int) (e : rd_T93 c (v : Int) = ⟨true, n⟩) :
    impl_Moved.f c x y f 0 2 (v : Int) = some (c.set v ⟨false, n⟩ ++ [⟨true, n⟩], x, y, f, 0, 2, (c.length : Int)) := by
  rw [impl_Moved.f, mcopy c x y f 0 (by omega) hx hy, Option.bind_some, if_pos rfl, if_pos rfl]
  simp only
  rw [mtop _ (by omega), min_is, Option.bind_some, if_pos (decide_eq_true (by omega)), if_pos (by omega), if_pos (by omega), e, if_pos rfl]
  simp only [Option.bind_some, Int.toNat_natCast]
  rw [if_pos (by simp; omega), show rd_T93 (c.set v (⟨false, n⟩ : MCell)) (v : Int) = ⟨false, n⟩ from by rw [mrd _ _ (by simp; omega), List.getElem_set_self]]
  rw [show (c.set v (⟨false, n⟩ : MCell) ++ [(⟨true, n⟩ : MCell)]).length = c.length + 1 by simp, mlast _ (by omega)]
theorem mwritten (t : Int) (v : Nat) (ht : 2 ≤ t ∧ t ≤ 4) (hv : v < c.length) (n m : Int) (e : rd_T93 c (v : Int) = ⟨true, n⟩) :
    impl_Written.f c x y f 0 t (v : Int) m = some (c.set v ⟨true, m⟩, x, y, f, 0) := by
  rw [impl_Written.f, mcopy c x y f 0 (by omega) hx hy, Option.bind_some, if_pos rfl, min_is, Option.bind_some, if_pos (decide_eq_true ht)]
  simp only
  rw [mtop _ (by omega), min_is, Option.bind_some, if_pos (decide_eq_true (by omega)), if_pos (by omega), if_pos (by omega), e, if_pos rfl, Int.toNat_natCast]
theorem mfreed (v : Nat) (hv : v < c.length) (b : Bool) (n : Int) (e : rd_T93 c (v : Int) = ⟨b, n⟩) :
    impl_Freed.f c x y f 0 2 (v : Int) = some (c.set v ⟨false, n⟩, x, y, f, 0) := by
  rw [impl_Freed.f, mcopy c x y f 0 (by omega) hx hy, Option.bind_some, if_pos rfl, if_pos rfl]
  simp only
  rw [mtop _ (by omega), min_is, Option.bind_some, if_pos (decide_eq_true (by omega)), if_pos (by omega), if_pos (by omega), e, Int.toNat_natCast]
end
theorem mem_l0 (s : List Int) (hs : s.length ≤ 140737488355328) (x y : List Int) (f : Int) : ∀ (d i : Nat) (p g : Int) (c : List MCell), 6 ≤ i + d → c.length ≤ i → i ≤ 6 → OkAt s p →
    ∃ c' i' g', Ev (fun k => spec_l09Memory.l0 k (i : Int) s p g c x y f 0) (c', x, y, f, 0, i', g') ∧ c'.length ≤ 6
  | 0, i, p, g, c, h, hc, hi, hp => by
    obtain ⟨v, i1, g1, e, v0, v1, h1⟩ := below_is s hs p g 6 (by omega) hp
    refine ⟨c, i1, g1, ev_s0 fun k => ?_, by omega⟩
    rw [spec_l09Memory.l0, e, Option.bind_some, if_neg (by simp only; omega)]
  | d + 1, i, p, g, c, h, hc, hi, hp => by
    obtain ⟨v, i1, g1, e, v0, v1, h1⟩ := below_is s hs p g 6 (by omega) hp
    by_cases q : (i : Int) < v
    · obtain ⟨u, i2, g2, e2, u0, u1, h2⟩ := below_is s hs i1 g1 3 (by omega) h1
      have e3 : spec_l01Once.f s i1 g1 3 = some (u == 0, i2, g2) := by rw [spec_l01Once.f, e2, Option.bind_some]
      have w : wrap64 ((i : Int) + 1) = ((i + 1 : Nat) : Int) := by unfold wrap64; omega
      have hl : (c ++ [(⟨true, (i : Int)⟩ : MCell)]).length = c.length + 1 := by simp
      by_cases q2 : (u == 0) = true
      · obtain ⟨c', i', g', r, rl⟩ := mem_l0 s hs x y f d (i + 1) i2 g2 ((c ++ [(⟨true, (i : Int)⟩ : MCell)]).set c.length ⟨false, (rd_T93 (c ++ [(⟨true, (i : Int)⟩ : MCell)]) (c.length : Int)).f1⟩) (by omega) (by simp; omega) (by omega) h2
        refine ⟨c', i', g', ev_s1 r fun k ek => ?_, rl⟩
        rw [spec_l09Memory.l0, e, Option.bind_some, if_pos (by simpa using q), if_pos rfl, if_pos (show c.length < 8796093022208 by omega)]
        simp only [Option.bind_some]
        rw [e3, Option.bind_some, if_pos q2, if_pos trivial, hl, mlast _ (by omega), msin_is, Option.bind_some, if_pos (decide_eq_true (by omega)), if_pos (by omega), if_pos (by omega), w, Int.toNat_natCast]
        exact ek
      · obtain ⟨c', i', g', r, rl⟩ := mem_l0 s hs x y f d (i + 1) i2 g2 (c ++ [(⟨true, (i : Int)⟩ : MCell)]) (by omega) (by simp; omega) (by omega) h2
        refine ⟨c', i', g', ev_s1 r fun k ek => ?_, rl⟩
        rw [spec_l09Memory.l0, e, Option.bind_some, if_pos (by simpa using q), if_pos rfl, if_pos (show c.length < 8796093022208 by omega)]
        simp only [Option.bind_some]
        rw [e3, Option.bind_some, if_neg q2, w]
        exact ek
    · refine ⟨c, i1, g1, ev_s0 fun k => ?_, by omega⟩
      rw [spec_l09Memory.l0, e, Option.bind_some, if_neg (by simpa using q)]
theorem mem_is (l : List Int) (hs : l.length ≤ 140737488355328) : ∃ (c : List MCell) (x y : List Int), Ev (fun k => spec_DrawMemory.f k l) (c, x, y, 9, 0) ∧ c.length ≤ 6 ∧ x.length ≤ 100 ∧ y.length ≤ 100 := by
  obtain ⟨g, e⟩ := new_is l hs
  obtain ⟨v, i1, g1, e1, v0, v1, h1⟩ := below_is l hs 0 g 4 (by omega) ⟨by omega, by omega⟩
  obtain ⟨c, i2, g2, r, rl⟩ := mem_l0 l hs [5, 6] [] v 6 0 i1 g1 [] (by omega) (by simp) (by omega) h1
  have hn : spec_MemoryNew.f [5, 6] v = some (([] : List MCell), [5, 6], [], v, 0) := by
    rw [spec_MemoryNew.f, Option.bind_some, if_pos (by decide)]; rfl
  refine ⟨c, [5, 6], [], ev_a2 e r fun k ek rk => ?_, rl, by decide, by decide⟩
  rw [spec_DrawMemory.f, ek, Option.bind_some]
  simp only
  rw [spec_l09Memory.f, e1, Option.bind_some]
  simp only
  rw [hn, Option.bind_some]
  simp only
  have rk' : spec_l09Memory.l0 k 0 l i1 g1 [] [5, 6] [] v 0 = some (c, [5, 6], [], v, 0, i2, g2) := rk
  rw [rk', Option.bind_some]
theorem places_l0 (s : List Int) (hs : s.length ≤ 140737488355328) : ∀ (d i : Nat) (p g : Int) (out : List Int), i + d = 12 → out.length = i → OkAt s p → ∃ t : List Int, Ev (fun k => spec_DrawPlaces.l0 k out (i : Int) s p g) t ∧ t.length = 12
  | 0, i, p, g, out, h, ho, hp => by
    refine ⟨out, ev_s0 fun k => ?_, by omega⟩
    rw [spec_DrawPlaces.l0, if_neg (by omega)]
  | d + 1, i, p, g, out, h, ho, hp => by
    obtain ⟨v, i1, g1, e, v0, v1, h1⟩ := below_is s hs p g 10000 (by omega) hp
    obtain ⟨t, r, rl⟩ := places_l0 s hs d (i + 1) i1 g1 (out ++ [v]) (by omega) (by simp; omega) h1
    have w : wrap64 ((i : Int) + 1) = ((i + 1 : Nat) : Int) := by unfold wrap64; omega
    refine ⟨t, ev_s1 r fun k ek => ?_, rl⟩
    rw [spec_DrawPlaces.l0, if_pos (by omega), e, Option.bind_some, if_pos (by omega), w]
    exact ek
theorem places_is (l : List Int) (hs : l.length ≤ 140737488355328) : ∃ t : List Int, Ev (fun k => spec_DrawPlaces.f k l) t ∧ t.length = 12 := by
  obtain ⟨g, e⟩ := new_is l hs
  obtain ⟨v, i1, g1, e1, v0, v1, h1⟩ := byte_is l hs 0 g ⟨by omega, by omega⟩
  obtain ⟨t, r, rl⟩ := places_l0 l hs 12 0 i1 g1 [] (by omega) (by simp) h1
  refine ⟨t, ev_a2 e r fun k ek rk => ?_, rl⟩
  rw [spec_DrawPlaces.f, ek, Option.bind_some]
  simp only
  rw [e1, Option.bind_some]
  exact rk
theorem FnMemories : laws_FnMemories.Pure := by
  intro l hl hb hw
  by_cases q : (l.length : Int) > 1048576
  · refine ⟨0, ?_⟩
    rw [laws_FnMemories.f, laws_big.f, Option.bind_some, if_pos (decide_eq_true q)]
  · obtain ⟨c, x, y, e, hc, hx, hy⟩ := mem_is l (by omega)
    obtain ⟨t, e2, ht⟩ := places_is l (by omega)
    obtain ⟨K, hK⟩ := ev_and e e2
    obtain ⟨ek, e2k⟩ := hK K (Nat.le_refl _)
    refine ⟨K, ?_⟩
    rw [laws_FnMemories.f, laws_big.f, Option.bind_some, if_neg (by simpa using q), ek, Option.bind_some, e2k, Option.bind_some, if_pos (by omega)]
    simp only
    generalize rd t 0 = n
    have l1 : (c ++ [(⟨true, n⟩ : MCell)]).length = c.length + 1 := by simp
    have l2 : ((c ++ [(⟨true, n⟩ : MCell)]).set c.length ⟨false, n⟩ ++ [(⟨true, n⟩ : MCell)]).length = c.length + 2 := by simp
    have l3 : (((c ++ [(⟨true, n⟩ : MCell)]).set c.length ⟨false, n⟩ ++ [(⟨true, n⟩ : MCell)]).set (c.length + 1) ⟨true, wrap64 (n + 1)⟩).length = c.length + 2 := by simp
    have l4 : ((((c ++ [(⟨true, n⟩ : MCell)]).set c.length ⟨false, n⟩ ++ [(⟨true, n⟩ : MCell)]).set (c.length + 1) ⟨true, wrap64 (n + 1)⟩).set (c.length + 1) ⟨false, wrap64 (n + 1)⟩).length = c.length + 2 := by simp
    have r1 : rd_T93 (c ++ [(⟨true, n⟩ : MCell)]) (c.length : Int) = ⟨true, n⟩ := by rw [mrd _ _ (by omega)]; simp
    have c1 : ((c.length + 1 : Nat) : Int) = ((c ++ [(⟨true, n⟩ : MCell)]).length : Int) := by rw [l1]
    have r2 : rd_T93 ((c ++ [(⟨true, n⟩ : MCell)]).set c.length ⟨false, n⟩ ++ [(⟨true, n⟩ : MCell)]) ((c.length + 1 : Nat) : Int) = ⟨true, n⟩ := by
      rw [mrd _ _ (by omega), List.getElem_append_right (by simp)]; simp
    have r3 : rd_T93 ((c ++ [(⟨true, n⟩ : MCell)]).set c.length ⟨false, n⟩ ++ [(⟨true, n⟩ : MCell)]) (c.length : Int) = ⟨false, n⟩ := by
      rw [mrd _ _ (by omega), List.getElem_append_left (by simp)]; simp
    have r4 : rd_T93 (((c ++ [(⟨true, n⟩ : MCell)]).set c.length ⟨false, n⟩ ++ [(⟨true, n⟩ : MCell)]).set (c.length + 1) ⟨true, wrap64 (n + 1)⟩) ((c.length + 1 : Nat) : Int) = ⟨true, wrap64 (n + 1)⟩ := by
      rw [mrd _ _ (by omega), List.getElem_set_self]
    have r5 : rd_T93 ((((c ++ [(⟨true, n⟩ : MCell)]).set c.length ⟨false, n⟩ ++ [(⟨true, n⟩ : MCell)]).set (c.length + 1) ⟨true, wrap64 (n + 1)⟩).set (c.length + 1) ⟨false, wrap64 (n + 1)⟩) ((c.length + 1 : Nat) : Int) = ⟨false, wrap64 (n + 1)⟩ := by
      rw [mrd _ _ (by omega), List.getElem_set_self]
    rw [mfresh c x y 9 (by omega) hx hy n, Option.bind_some]
    simp only
    rw [mlooked _ x y 9 (by omega) hx hy 2 c.length (by omega) (by omega) true n r1, Option.bind_some, if_pos (rfl : true = true)]
    simp only
    rw [mmoved _ x y 9 (by omega) hx hy c.length (by omega) n r1, Option.bind_some, ← c1]
    simp only
    rw [mlooked _ x y 9 (by omega) hx hy 2 (c.length + 1) (by omega) (by omega) true n r2, Option.bind_some, if_pos (rfl : true = true)]
    simp only
    rw [mlooked _ x y 9 (by omega) hx hy 2 c.length (by omega) (by omega) false n r3, Option.bind_some, if_neg (show ¬ (false = true) by decide), Option.bind_some]
    rw [mwritten _ x y 9 (by omega) hx hy 4 (c.length + 1) (by omega) (by omega) n (wrap64 (n + 1)) r2, Option.bind_some]
    simp only
    rw [mlooked _ x y 9 (by omega) hx hy 3 (c.length + 1) (by omega) (by omega) true (wrap64 (n + 1)) r4, Option.bind_some, if_pos (rfl : true = true)]
    simp only
    rw [mfreed _ x y 9 (by omega) hx hy (c.length + 1) (by omega) true (wrap64 (n + 1)) r4, Option.bind_some]
    simp only
    rw [mlooked _ x y 9 (by omega) hx hy 2 (c.length + 1) (by omega) (by omega) false (wrap64 (n + 1)) r5, Option.bind_some, if_neg (show ¬ (false = true) by decide)]
    simp only [if_true]
    rw [l2, show wrap64 ((c.length : Int) + 2) = ((c.length + 2 : Nat) : Int) by unfold wrap64; omega]
    simp
end Go.Proofs.Ytnlhjblfemgggaa.Pure
