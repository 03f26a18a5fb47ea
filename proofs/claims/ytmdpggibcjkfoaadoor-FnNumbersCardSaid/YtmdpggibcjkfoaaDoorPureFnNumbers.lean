/- A drawn number comes back from VarText and from Decimal, a drawn text from ShortText and Hex. No condition beside what the statement itself asks. -/
import Derived.Test.YtmdpggibcjkfoaaDoorPFnNumbersx3
import Derived.Laws.BitsLemmas
import Derived.Lib.LazyBuf
import Derived.Lib.Bytes
import Derived.Lib.ItoaNum
import Derived.Lib.Atoi
set_option linter.unusedVariables false
set_option linter.unusedSimpArgs false
namespace Go.Proofs.YtmdpggibcjkfoaaDoor.Pure
open Go.RowKit Go.Proofs.YtmdpggibcjkfoaaDoor.PFnNumbers Go.Proofs.YtmdpggibcjkfoaaDoorW.PrintWords Go.Proofs.YtmdpggibcjkfoaaDoorW.PrintLast

theorem b_w64 {x : Int} (h0 : -9223372036854775808 ≤ x) (h1 : x ≤ 9223372036854775807) : wrap64 x = x := by unfold wrap64; omega
theorem b_i64 {x : Int} (h : (Lit.int .i64 x).wf = true) : -9223372036854775808 ≤ x ∧ x ≤ 9223372036854775807 := by
  simp only [Lit.wf, Bool.and_eq_true, decide_eq_true_eq] at h
  have h1 : IntKind.i64.min = -9223372036854775808 := by decide
  have h2 : IntKind.i64.max = 9223372036854775807 := by decide
  omega
theorem b_u32 {x : Int} (h : (Lit.int .u32 x).wf = true) : 0 ≤ x ∧ x < 4294967296 := by
  simp only [Lit.wf, Bool.and_eq_true, decide_eq_true_eq] at h
  have h1 : IntKind.u32.min = 0 := by decide
  have h2 : IntKind.u32.max = 4294967295 := by decide
  omega
theorem b_tmod {x y : Int} (h : 0 ≤ x) : Int.tmod x y = x % y := Int.tmod_eq_emod_of_nonneg h
theorem b_tdiv {x y : Int} (h : 0 ≤ x) : Int.tdiv x y = x / y := Int.tdiv_eq_ediv_of_nonneg h
theorem b_ev_eq {α : Type} {g : Nat → Option α} {r r' : α} (h : Ev g r) (e : r = r') : Ev g r' := e ▸ h
theorem b_two {α β : Type} {g : Nat → Option α} {f : Nat → Option β} {a : α} {b : β} (h : Ev g a) (h' : Ev f b) : ∃ k, g k = some a ∧ f k = some b := by
  obtain ⟨K, h⟩ := h
  obtain ⟨K', h'⟩ := h'
  exact ⟨max K K', h _ (by omega), h' _ (by omega)⟩
theorem b_list_take_succ {α : Type} (l : List α) (i : Nat) (h : i < l.length) : l.take (i + 1) = l.take i ++ [l[i]] := by
  rw [List.take_succ_eq_append_getElem h]
theorem ev_a0 {α : Type} {F : Nat → Option α} {r : α} (H : ∀ k, F k = some r) : Ev F r := ⟨0, fun k _ => H k⟩
theorem ev_s0 {α : Type} {F : Nat → Option α} {r : α} (H : ∀ k, F (k + 1) = some r) : Ev F r := by
  refine ⟨1, fun k hk => ?_⟩
  obtain ⟨m, rfl⟩ : ∃ m, k = m + 1 := ⟨k - 1, by omega⟩
  exact H m
theorem ev_a1 {α β : Type} {F : Nat → Option α} {r : α} {g : Nat → Option β} {a : β} (ha : Ev g a) (H : ∀ k, g k = some a → F k = some r) : Ev F r := by
  obtain ⟨K, ha⟩ := ha
  exact ⟨K, fun k hk => H k (ha k hk)⟩
theorem ev_s1 {α β : Type} {F : Nat → Option α} {r : α} {g : Nat → Option β} {a : β} (ha : Ev g a) (H : ∀ k, g k = some a → F (k + 1) = some r) : Ev F r := by
  obtain ⟨K, ha⟩ := ha
  refine ⟨K + 1, fun k hk => ?_⟩
  obtain ⟨m, rfl⟩ : ∃ m, k = m + 1 := ⟨k - 1, by omega⟩
  exact H m (ha m (by omega))
theorem ev_and {α β : Type} {g : Nat → Option α} {f : Nat → Option β} {a : α} {b : β} (ha : Ev g a) (hb : Ev f b) : ∃ K, ∀ k, K ≤ k → g k = some a ∧ f k = some b := by
  obtain ⟨K, ha⟩ := ha
  obtain ⟨K', hb⟩ := hb
  exact ⟨max K K', fun k hk => ⟨ha k (by omega), hb k (by omega)⟩⟩
theorem ev_a2 {α β γ : Type} {F : Nat → Option α} {r : α} {g : Nat → Option β} {a : β} {f : Nat → Option γ} {b : γ} (ha : Ev g a) (hb : Ev f b) (H : ∀ k, g k = some a → f k = some b → F k = some r) : Ev F r := by
  obtain ⟨K, h⟩ := ev_and ha hb
  exact ⟨K, fun k hk => H k (h k hk).1 (h k hk).2⟩
theorem ev_s2 {α β γ : Type} {F : Nat → Option α} {r : α} {g : Nat → Option β} {a : β} {f : Nat → Option γ} {b : γ} (ha : Ev g a) (hb : Ev f b) (H : ∀ k, g k = some a → f k = some b → F (k + 1) = some r) : Ev F r := by
  obtain ⟨K, h⟩ := ev_and ha hb
  refine ⟨K + 1, fun k hk => ?_⟩
  obtain ⟨m, rfl⟩ : ∃ m, k = m + 1 := ⟨k - 1, by omega⟩
  exact H m (h m (by omega)).1 (h m (by omega)).2
theorem ev_a3 {α β γ δ : Type} {F : Nat → Option α} {r : α} {g : Nat → Option β} {a : β} {f : Nat → Option γ} {b : γ} {e : Nat → Option δ} {c : δ} (ha : Ev g a) (hb : Ev f b) (hc : Ev e c) (H : ∀ k, g k = some a → f k = some b → e k = some c → F k = some r) : Ev F r := by
  obtain ⟨K, h⟩ := ev_and ha hb
  obtain ⟨K', h'⟩ := hc
  exact ⟨max K K', fun k hk => H k (h k (by omega)).1 (h k (by omega)).2 (h' k (by omega))⟩
theorem ev_s3 {α β γ δ : Type} {F : Nat → Option α} {r : α} {g : Nat → Option β} {a : β} {f : Nat → Option γ} {b : γ} {e : Nat → Option δ} {c : δ} (ha : Ev g a) (hb : Ev f b) (hc : Ev e c) (H : ∀ k, g k = some a → f k = some b → e k = some c → F (k + 1) = some r) : Ev F r := by
  obtain ⟨K, h⟩ := ev_and ha hb
  obtain ⟨K', h'⟩ := hc
  refine ⟨max K K' + 1, fun k hk => ?_⟩
  obtain ⟨m, rfl⟩ : ∃ m, k = m + 1 := ⟨k - 1, by omega⟩
  exact H m (h m (by omega)).1 (h m (by omega)).2 (h' m (by omega))
def evp {α β : Type} (x : Option α) (y : Option β) : Option (α × β) := x.bind fun a => y.bind fun b => some (a, b)
theorem ev_pair {α β : Type} {g : Nat → Option α} {f : Nat → Option β} {a : α} {b : β} (ha : Ev g a) (hb : Ev f b) : Ev (fun k => evp (g k) (f k)) (a, b) :=
  ev_a2 ha hb (fun k e e2 => by simp [evp, e, e2])
theorem ev_pair_l {α β : Type} {x : Option α} {y : Option β} {a : α} {b : β} (h : evp x y = some (a, b)) : x = some a := by
  unfold evp at h
  cases x with
  | none => simp at h
  | some x => cases y with
    | none => simp at h
    | some y => simp at h; simp [h.1]
theorem ev_pair_r {α β : Type} {x : Option α} {y : Option β} {a : α} {b : β} (h : evp x y = some (a, b)) : y = some b := by
  unfold evp at h
  cases x with
  | none => simp at h
  | some x => cases y with
    | none => simp at h
    | some y => simp at h; simp [h.2]

theorem impl_in_is (x y z : Int) : impl_in.f x y z = some (decide (y ≤ x ∧ x ≤ z)) := by
  unfold impl_in.f
  by_cases c : x ≥ y
  · rw [if_pos c]; by_cases d : x ≤ z <;> simp [d, c]
  · rw [if_neg c]; simp; intro h; omega

theorem i64_and255 (n : Int) : Go.bits .and .i64 n 255 = n % 256 := by
  have h255 : (BitVec.ofInt 64 255).toNat = 2 ^ 8 - 1 := by decide
  have key : (BitVec.ofInt 64 n &&& BitVec.ofInt 64 255).toNat = (n % ((2 ^ 64 : Nat) : Int)).toNat % 2 ^ 8 := by
    rw [BitVec.toNat_and, BitVec.toNat_ofInt, h255, Nat.and_two_pow_sub_one_eq_mod]
  show IntKind.i64.wrap ((BitVec.ofInt 64 n &&& BitVec.ofInt 64 255).toNat : Nat) = n % 256
  rw [key, IntKind.wrap_i64]
  omega
/-- a tape is read at a place within it -/
def OkAt (s : List Int) (i : Int) : Prop := 0 ≤ i ∧ i ≤ (s.length : Int)
theorem byte_is (s : List Int) (hs : s.length ≤ 140737488355328) (i g : Int) (h : OkAt s i) :
    ∃ v i' g', spec_l01Byte.f s i g = some (v, i', g') ∧ 0 ≤ v ∧ v ≤ 255 ∧ OkAt s i' := by
  unfold OkAt at *
  rw [spec_l01Byte.f]
  by_cases c : i < (s.length : Int)
  · have q : 0 ≤ i := h.1
    rw [if_pos c, if_pos q]
    refine ⟨_, _, _, rfl, ?_, ?_, ?_⟩
    · rw [i64_and255]; exact Int.emod_nonneg _ (by decide)
    · rw [i64_and255]; have := Int.emod_lt_of_pos (wrap64 (Go.bits .and .i64 (Go.bits .xor .i64 ((wrap64 ((wrap64 (g * 6364136223846793005)) + 1442695040888963407)) / 8589934592) ((wrap64 ((wrap64 (g * 6364136223846793005)) + 1442695040888963407)) / 35184372088832)) 255 + (wrap64 (rd s i)))) (show (0 : Int) < 256 by decide); clear c q h; generalize (_ % 256 : Int) = z at this ⊢; omega
    · have e : wrap64 (i + 1) = i + 1 := b_w64 (by omega) (by omega)
      rw [e]; omega
  · rw [if_neg c]
    refine ⟨_, _, _, rfl, ?_, ?_, h⟩
    · rw [i64_and255]; exact Int.emod_nonneg _ (by decide)
    · rw [i64_and255]; exact Int.le_of_lt_add_one (Int.emod_lt_of_pos _ (by decide))
theorem below_is (s : List Int) (hs : s.length ≤ 140737488355328) (i g n : Int) (hn : 0 < n) (h : OkAt s i) :
    ∃ v i' g', spec_l01Below.f s i g n = some (v, i', g') ∧ 0 ≤ v ∧ v < n ∧ OkAt s i' := by
  rw [spec_l01Below.f, if_neg (by omega)]
  by_cases c : n ≤ 256
  · obtain ⟨v, i1, g1, e, v0, v1, h1⟩ := byte_is s hs i g h
    rw [if_pos c, e, Option.bind_some, if_neg (by omega)]
    refine ⟨_, _, _, rfl, ?_, ?_, h1⟩
    · rw [b_tmod v0]; exact Int.emod_nonneg _ (by omega)
    · rw [b_tmod v0]; exact Int.emod_lt_of_pos _ hn
  · obtain ⟨v, i1, g1, e, v0, v1, h1⟩ := byte_is s hs i g h
    obtain ⟨u, i2, g2, e2, u0, u1, h2⟩ := byte_is s hs i1 g1 h1
    obtain ⟨x, i3, g3, e3, x0, x1, h3⟩ := byte_is s hs i2 g2 h2
    obtain ⟨y, i4, g4, e4, y0, y1, h4⟩ := byte_is s hs i3 g3 h3
    rw [if_neg c, e, Option.bind_some, e2, Option.bind_some, e3, Option.bind_some, e4, Option.bind_some, if_neg (by omega)]
    have w0 : 0 ≤ wrap64 ((wrap64 ((wrap64 ((wrap64 (v * 16777216)) + (wrap64 (u * 65536)))) + (wrap64 (x * 256)))) + y) := by
      clear e e2 e3 e4 h h1 h2 h3 h4 hn c
      unfold wrap64; omega
    refine ⟨_, _, _, rfl, ?_, ?_, h4⟩
    · simp only; rw [b_tmod w0]; exact Int.emod_nonneg _ (by omega)
    · simp only; rw [b_tmod w0]; exact Int.emod_lt_of_pos _ hn
theorem new_l0 (l : List Int) (hs : l.length ≤ 140737488355328) : ∀ (d i : Nat) (x : Int), 4000 ≤ i + d → ∃ g, Ev (fun k => spec_l01New.l0 k l x (i : Int)) (l, 0, g)
  | 0, i, x, h => by
    refine ⟨x, ev_s0 fun k => ?_⟩
    rw [spec_l01New.l0]
    by_cases c : (i : Int) < (l.length : Int)
    · rw [if_pos c, if_neg (by omega)]
    · rw [if_neg c]
  | d + 1, i, x, h => by
    by_cases c : (i : Int) < (l.length : Int)
    · by_cases c2 : (i : Int) < 4000
      · obtain ⟨g, e⟩ := new_l0 l hs d (i + 1) (Go.bits .and .i64 (wrap64 ((wrap64 ((wrap64 (x * 131)) + (wrap64 (rd l (i : Int))))) + 7)) 1073741823) (by omega)
        refine ⟨g, ev_s1 e fun k ek => ?_⟩
        have q : (0 : Int) ≤ (i : Int) := by omega
        have w : wrap64 ((i : Int) + 1) = ((i + 1 : Nat) : Int) := by unfold wrap64; omega
        rw [spec_l01New.l0, if_pos c, if_pos c2, if_pos q, w]
        exact ek
      · refine ⟨x, ev_s0 fun k => ?_⟩
        rw [spec_l01New.l0, if_pos c, if_neg c2]
    · refine ⟨x, ev_s0 fun k => ?_⟩
      rw [spec_l01New.l0, if_neg c]
theorem new_is (l : List Int) (hs : l.length ≤ 140737488355328) : ∃ g, Ev (fun k => spec_l01New.f k l) (l, 0, g) := new_l0 l hs 4000 0 _ (by omega)

theorem pickint_is (s : List Int) (hs : s.length ≤ 140737488355328) (i g : Int) (l : List Int) (h0 : 0 < l.length) (h : OkAt s i) :
    ∃ v i' g', spec_l01PickInt.f s i g l = some (v, i', g') ∧ OkAt s i' := by
  obtain ⟨v, i1, g1, e, v0, v1, h1⟩ := below_is s hs i g (l.length : Int) (by omega) h
  rw [spec_l01PickInt.f, e, Option.bind_some, if_pos v0, if_pos v1]
  exact ⟨_, _, _, rfl, h1⟩
theorem number_is (s : List Int) (hs : s.length ≤ 140737488355328) (i g : Int) (h : OkAt s i) :
    ∃ v i' g', spec_l01Number.f s i g = some (v, i', g') ∧ OkAt s i' := by
  obtain ⟨v, i1, g1, e, v0, v1, h1⟩ := below_is s hs i g 4 (by omega) h
  rw [spec_l01Number.f, e, Option.bind_some]
  by_cases c : v = 0
  · obtain ⟨u, i2, g2, e2, h2⟩ := pickint_is s hs i1 g1 [(-1), 0, 127, 128, 16383, 16384, 1000000000, 1000000001, 9223372036854775807, (-9223372036854775808)] (by decide) h1
    rw [if_pos c, e2, Option.bind_some]
    exact ⟨_, _, _, rfl, h2⟩
  · by_cases c2 : v = 1
    · obtain ⟨u, i2, g2, e2, _, _, h2⟩ := below_is s hs i1 g1 1000000000 (by omega) h1
      rw [if_neg c, if_pos c2, e2, Option.bind_some]
      exact ⟨_, _, _, rfl, h2⟩
    · obtain ⟨u, i2, g2, e2, _, _, h2⟩ := below_is s hs i1 g1 400 (by omega) h1
      rw [if_neg c, if_neg c2, e2, Option.bind_some]
      exact ⟨_, _, _, rfl, h2⟩
theorem drawvartext_is (l : List Int) (hs : l.length ≤ 140737488355328) : ∃ n, Ev (fun k => spec_DrawVarText.f k l) n := by
  obtain ⟨g, e⟩ := new_is l hs
  obtain ⟨v, i1, g1, e1, _⟩ := number_is l hs 0 g ⟨by omega, by omega⟩
  exact ⟨v, ev_a1 e fun k ek => by rw [spec_DrawVarText.f, ek, Option.bind_some, e1, Option.bind_some]⟩

theorem long_l0 (a c : Int) (ha : a ≤ 100000) : ∀ (d i : Nat) (x : List Int), (i + d : Int) = a → (x.length : Int) = a → ∃ r, Ev (fun k => spec_l01Long.l0 k a c x (i : Int)) r
  | 0, i, x, h, hx => ⟨strOfNums x, ev_s0 fun k => by rw [spec_l01Long.l0, if_neg (by omega)]⟩
  | d + 1, i, x, h, hx => by
    obtain ⟨r, e⟩ := long_l0 a c ha d (i + 1) (x.set i c) (by omega) (by rw [List.length_set]; exact hx)
    refine ⟨r, ev_s1 e fun k ek => ?_⟩
    have q : (i : Int) < a := by omega
    have q2 : (0 : Int) ≤ (i : Int) := by omega
    have q3 : (i : Int) < (x.length : Int) := by omega
    have w : wrap64 ((i : Int) + 1) = ((i + 1 : Nat) : Int) := by clear ek e; unfold wrap64; omega
    rw [spec_l01Long.l0, if_pos q, if_pos q2, if_pos q3, w, Int.toNat_natCast]
    exact ek
theorem long_is (a c : Int) (h0 : 0 ≤ a) (ha : a ≤ 100000) : ∃ r, Ev (fun k => spec_l01Long.f k a c) r := by
  have w : (((a : Int).toNat : Nat) : Int) = a := Int.toNat_of_nonneg h0
  obtain ⟨r, e⟩ := long_l0 a c ha a.toNat 0 (List.replicate a.toNat 0) (by omega) (by rw [List.length_replicate]; exact w)
  exact ⟨r, ev_a1 e fun k ek => by rw [spec_l01Long.f, if_pos h0, if_pos (by omega)]; exact ek⟩
theorem text_l0 (s : List Int) (hs : s.length ≤ 140737488355328) (a : Int) (ha : a ≤ 5000) : ∀ (d n : Nat) (x : List Int) (i g : Int), a ≤ (n + d : Int) → x.length = n → OkAt s i → ∃ r, Ev (fun k => spec_l01Text.l0 k a x (n : Int) s i g) r
  | 0, n, x, i, g, h, hx, ho => ⟨(strOfNums x, i, g), ev_s0 fun k => by rw [spec_l01Text.l0, if_neg (by omega)]⟩
  | d + 1, n, x, i, g, h, hx, ho => by
    by_cases c : (n : Int) < a
    · obtain ⟨v, i1, g1, e1, _, _, h1⟩ := byte_is s hs i g ho
      obtain ⟨r, e⟩ := text_l0 s hs a ha d (n + 1) (x ++ [v % 256]) i1 g1 (by omega) (by rw [List.length_append, hx]; rfl) h1
      refine ⟨r, ev_s1 e fun k ek => ?_⟩
      have q : x.length < 140737488355328 := by omega
      have w : wrap64 ((n : Int) + 1) = ((n + 1 : Nat) : Int) := by clear ek e e1; unfold wrap64; omega
      rw [spec_l01Text.l0, if_pos c, e1, Option.bind_some, if_pos q, w]
      exact ek
    · exact ⟨(strOfNums x, i, g), ev_s0 fun k => by rw [spec_l01Text.l0, if_neg c]⟩
theorem text_is (s : List Int) (hs : s.length ≤ 140737488355328) (a i g : Int) (ho : OkAt s i) : ∃ r, Ev (fun k => spec_l01Text.f k s i g a) r := by
  by_cases c : a > 5000
  · obtain ⟨r, e⟩ := text_l0 s hs 5000 (by omega) 5000 0 [] i g (by omega) rfl ho
    exact ⟨r, ev_s1 e fun k ek => by rw [spec_l01Text.f, if_pos c, spec_l01Text.j0]; exact ek⟩
  · obtain ⟨r, e⟩ := text_l0 s hs a (by omega) 5000 0 [] i g (by omega) rfl ho
    exact ⟨r, ev_s1 e fun k ek => by rw [spec_l01Text.f, if_neg c, spec_l01Text.j0]; exact ek⟩
theorem once_is (s : List Int) (hs : s.length ≤ 140737488355328) (i g n : Int) (hn : 0 < n) (h : OkAt s i) : ∃ b i' g', spec_l01Once.f s i g n = some (b, i', g') ∧ OkAt s i' := by
  obtain ⟨v, i1, g1, e, _, _, h1⟩ := below_is s hs i g n hn h
  exact ⟨_, _, _, by rw [spec_l01Once.f, e, Option.bind_some], h1⟩
theorem drawhex_is (l : List Int) (hs : l.length ≤ 140737488355328) : ∃ n, Ev (fun k => spec_DrawHex.f k l) n := by
  obtain ⟨g, e⟩ := new_is l hs
  obtain ⟨b, i1, g1, e1, h1⟩ := once_is l hs 0 g 60 (by omega) ⟨by omega, by omega⟩
  cases b with
  | true =>
    obtain ⟨v, i2, g2, e2, v0, v1, h2⟩ := below_is l hs i1 g1 2 (by omega) h1
    have w : wrap64 (20000 + v) = 20000 + v := b_w64 (by omega) (by omega)
    obtain ⟨r, er⟩ := long_is (20000 + v) 200 (by omega) (by omega)
    exact ⟨r, ev_a2 e er fun k ek ek2 => by rw [spec_DrawHex.f, ek, Option.bind_some, e1, Option.bind_some, if_pos rfl, e2, Option.bind_some, w, ek2, Option.bind_some]⟩
  | false =>
    obtain ⟨v, i2, g2, e2, v0, v1, h2⟩ := below_is l hs i1 g1 30 (by omega) h1
    obtain ⟨r, er⟩ := text_is l hs v i2 g2 h2
    exact ⟨r.1, ev_a2 e er fun k ek ek2 => by rw [spec_DrawHex.f, ek, Option.bind_some, e1, Option.bind_some, if_neg (show ¬ (false = true) by decide), e2, Option.bind_some, ek2, Option.bind_some]⟩

def varL : Nat → Nat → List Int
  | 0, n => [(n : Int)]
  | d + 1, n => if 127 < n then ((128 + n % 128 : Nat) : Int) :: varL d (n / 128) else [(n : Int)]
theorem varL_length : ∀ (d n : Nat), (varL d n).length ≤ d + 1
  | 0, n => by simp [varL]
  | d + 1, n => by
    rw [varL]
    split
    · have := varL_length d (n / 128); simp; omega
    · simp

theorem impl_varText_l0 : ∀ (d n : Nat) (acc : List Int), n < 128 ^ (d + 1) → n < 9223372036854775808 → acc.length + d < 140737488355328 →
    Ev (fun k => impl_varText.l0 k (n : Int) acc) (strOfNums (acc ++ varL d n))
  | 0, n, acc, h, hn, hl => by
    refine Ev.step (fun k => ?_) (Ev.now _)
    simp only [impl_varText.l0]
    rw [if_neg (by omega), if_pos (by omega), show (n : Int) % 256 = n by omega]; rfl
  | d + 1, n, acc, h, hn, hl => by
    by_cases hc : 127 < n
    · have hd : n / 128 < 128 ^ (d + 1) := by
        rw [Nat.div_lt_iff_lt_mul (by decide), ← Nat.pow_succ]; exact h
      have ih := impl_varText_l0 d (n / 128) (acc ++ [((128 + n % 128 : Nat) : Int)]) hd (by omega) (by simp; omega)
      rw [List.append_assoc, List.singleton_append] at ih
      refine b_ev_eq (Ev.step (fun k => ?_) ih) (by rw [varL, if_pos hc])
      simp only [impl_varText.l0]
      rw [if_pos (by omega), if_pos (by omega), b_tdiv (by omega), b_tmod (by omega), show wrap64 ((n : Int) / 128) = ((n / 128 : Nat) : Int) by unfold wrap64; omega,
        show (wrap64 (128 + (n : Int) % 128)) % 256 = ((128 + n % 128 : Nat) : Int) by unfold wrap64; omega]
    · refine b_ev_eq (Ev.step (fun k => ?_) (Ev.now _)) (by rw [varL, if_neg hc])
      simp only [impl_varText.l0]
      rw [if_neg (by omega), if_pos (by omega), show (n : Int) % 256 = n by omega]
theorem impl_varText_ev (n : Nat) (hn : n < 9223372036854775808) : Ev (fun k => impl_varText.f k (n : Int)) (strOfNums (varL 9 n)) :=
  impl_varText_l0 9 n [] (by omega) hn (by simp)

/-- the numbers of m bytes of s from place a on -/
def seg (s : ByteArray) (a m : Nat) : List Int := (List.range m).map fun t => bt s ((a + t : Nat) : Int)
theorem seg_zero (s : ByteArray) (a : Nat) : seg s a 0 = [] := rfl
theorem seg_succ (s : ByteArray) (a m : Nat) : seg s a (m + 1) = seg s a m ++ [bt s ((a + m : Nat) : Int)] := by
  simp [seg, List.range_succ]
theorem seg_length (s : ByteArray) (a m : Nat) : (seg s a m).length = m := by simp [seg]
theorem bt_nat (s : ByteArray) (i : Nat) (h : i < s.size) : bt s (i : Int) = ((s.data.toList[i]'(by simpa using h)).toNat : Int) := by
  have e := bt_at s (i : Int) (by simpa using h)
  rw [← e]
  rfl
theorem extract_seg (s : ByteArray) (a : Nat) : ∀ m, a + m ≤ s.size → (s.extract a (a + m)).toList = Lib.bytesOf (seg s a m)
  | 0, h => by rw [Lib.extract_toList]; simp [seg, Lib.bytesOf]
  | m + 1, h => by
    have ih := extract_seg s a m (by omega)
    rw [Lib.extract_toList, show a + m - a = m by omega] at ih
    rw [Lib.extract_toList, show a + (m + 1) - a = m + 1 by omega, seg_succ]
    have hl : m < (s.data.toList.drop a).length := by
      rw [List.length_drop]; have : s.data.toList.length = s.size := rfl
      omega
    rw [List.take_succ_eq_append_getElem hl, ih]
    simp only [Lib.bytesOf, List.map_append, List.map_cons, List.map_nil]
    rw [bt_nat s (a + m) (by omega)]
    simp
theorem bytesOf_inj : ∀ {xs ys : List Int}, (∀ x ∈ xs, 0 ≤ x ∧ x ≤ 255) → (∀ x ∈ ys, 0 ≤ x ∧ x ≤ 255) → Lib.bytesOf xs = Lib.bytesOf ys → xs = ys
  | [], [], _, _, _ => rfl
  | [], y :: ys, _, _, h => by simp [Lib.bytesOf] at h
  | x :: xs, [], _, _, h => by simp [Lib.bytesOf] at h
  | x :: xs, y :: ys, hx, hy, h => by
    simp only [Lib.bytesOf, List.map_cons, List.cons.injEq] at h
    have h1 := hx x (by simp)
    have h2 := hy y (by simp)
    have e : x = y := by
      have := congrArg UInt8.toNat h.1
      simp only [UInt8.toNat_ofNat'] at this
      omega
    rw [e, bytesOf_inj (fun z hz => hx z (by simp [hz])) (fun z hz => hy z (by simp [hz])) h.2]

def p128 (j : Nat) : Int := ((128 ^ j : Nat) : Int)
theorem p128_vals : p128 0 = 1 ∧ p128 1 = 128 ∧ p128 2 = 16384 ∧ p128 3 = 2097152 ∧ p128 4 = 268435456 ∧ p128 5 = 34359738368 := by decide
theorem p128_succ (j : Nat) : p128 (j + 1) = 128 * p128 j := by unfold p128; rw [Nat.pow_succ]; push_cast; omega
theorem p128_le {j : Nat} (h : j ≤ 4) : 1 ≤ p128 j ∧ p128 j ≤ 268435456 := by
  have h5 := p128_vals
  rcases (by omega : j = 0 ∨ j = 1 ∨ j = 2 ∨ j = 3 ∨ j = 4) with rfl | rfl | rfl | rfl | rfl <;> omega
theorem p128_shl {j : Nat} (h : j ≤ 4) (x : Int) (h0 : 0 ≤ x) (h1 : x ≤ 127) : shl .i64 x (wrap64 (7 * (j : Int))) = x * p128 j := by
  have h5 := p128_vals
  unfold shl
  rw [IntKind.wrap_i64]
  rcases (by omega : j = 0 ∨ j = 1 ∨ j = 2 ∨ j = 3 ∨ j = 4) with rfl | rfl | rfl | rfl | rfl
  · rw [show min (wrap64 (7 * ((0 : Nat) : Int))).toNat IntKind.i64.bits = 0 by rw [show wrap64 (7 * ((0 : Nat) : Int)) = 0 by unfold wrap64; omega]; rfl, h5.1]; omega
  · rw [show min (wrap64 (7 * ((1 : Nat) : Int))).toNat IntKind.i64.bits = 7 by rw [show wrap64 (7 * ((1 : Nat) : Int)) = 7 by unfold wrap64; omega]; rfl, h5.2.1]; omega
  · rw [show min (wrap64 (7 * ((2 : Nat) : Int))).toNat IntKind.i64.bits = 14 by rw [show wrap64 (7 * ((2 : Nat) : Int)) = 14 by unfold wrap64; omega]; rfl, h5.2.2.1]; omega
  · rw [show min (wrap64 (7 * ((3 : Nat) : Int))).toNat IntKind.i64.bits = 21 by rw [show wrap64 (7 * ((3 : Nat) : Int)) = 21 by unfold wrap64; omega]; rfl, h5.2.2.2.1]; omega
  · rw [show min (wrap64 (7 * ((4 : Nat) : Int))).toNat IntKind.i64.bits = 28 by rw [show wrap64 (7 * ((4 : Nat) : Int)) = 28 by unfold wrap64; omega]; rfl, h5.2.2.2.2.1]; omega
theorem p128_mul {j : Nat} (h : j ≤ 4) (x : Int) (h0 : 0 ≤ x) (h1 : x ≤ 127) : 0 ≤ x * p128 j ∧ x * p128 j ≤ 127 * p128 j := by
  obtain ⟨p0, p1, p2, p3, p4, _⟩ := p128_vals
  rcases (by omega : j = 0 ∨ j = 1 ∨ j = 2 ∨ j = 3 ∨ j = 4) with rfl | rfl | rfl | rfl | rfl
  · rw [p0]; omega
  · rw [p1]; omega
  · rw [p2]; omega
  · rw [p3]; omega
  · rw [p4]; omega
def rvR (s : ByteArray) (a : Nat) : Nat → Nat → Int → Int × Int × Bool
  | 0, _, _ => (0, 0, false)
  | d + 1, j, n => if a + j < s.size then
      (if bt s ((a + j : Nat) : Int) < 128 then
        (if (bt s ((a + j : Nat) : Int) = 0 ∧ 0 < j) ∨ n + bt s ((a + j : Nat) : Int) * p128 j > 1000000000 then (0, 0, false)
         else (n + bt s ((a + j : Nat) : Int) * p128 j, ((a + j + 1 : Nat) : Int), true))
       else rvR s a d (j + 1) (n + (bt s ((a + j : Nat) : Int) % 128) * p128 j)) else (0, 0, false)
theorem impl_ReadVar_l0 (s : ByteArray) (a : Nat) (ha : a ≤ s.size) (hs : s.size ≤ 140737488351232) : ∀ (d j : Nat) (n : Int), j + d = 5 → 0 ≤ n → n < p128 j →
    Ev (fun k => impl_ReadVar.l0 k s (a : Int) n (j : Int)) (rvR s a d j n)
  | 0, j, n, hj, h0, h1 => by
    refine Ev.step (f := fun k => impl_ReadVar.j1 k s (a : Int) n (j : Int) false) (fun k => by simp only [impl_ReadVar.l0]; rw [if_neg (by omega)]) ?_
    exact Ev.step (fun k => by simp only [impl_ReadVar.j1]; rw [if_neg (by simp)]; rfl) (Ev.now _)
  | d + 1, j, n, hj, h0, h1 => by
    have hp := p128_le (j := j) (by omega)
    have hb := bt_range s ((a + j : Nat) : Int)
    have e1 : wrap64 ((a : Int) + (j : Int)) = ((a + j : Nat) : Int) := by unfold wrap64; omega
    refine Ev.step (f := fun k => impl_ReadVar.j1 k s (a : Int) n (j : Int) (decide (((a + j : Nat) : Int) < (s.size : Int)))) (fun k => by simp only [impl_ReadVar.l0]; rw [if_pos (by omega), e1]) ?_
    rw [rvR]
    by_cases c : a + j < s.size
    · have hm := p128_mul (j := j) (by omega) (bt s ((a + j : Nat) : Int) % 128) (by omega) (by omega)
      have eb : wrap64 (bt s ((a + j : Nat) : Int)) = bt s ((a + j : Nat) : Int) := by unfold wrap64; omega
      have e7 : 0 ≤ wrap64 (7 * (j : Int)) := by rw [b_w64 (by omega) (by omega)]; omega
      have en : wrap64 (n + bt s ((a + j : Nat) : Int) % 128 * p128 j) = n + bt s ((a + j : Nat) : Int) % 128 * p128 j := by unfold wrap64; omega
      rw [if_pos c]
      by_cases c1 : bt s ((a + j : Nat) : Int) < 128
      · have em : bt s ((a + j : Nat) : Int) % 128 = bt s ((a + j : Nat) : Int) := by omega
        rw [em] at hm en
        rw [if_pos c1]
        refine Ev.step (fun k => ?_) (Ev.now _)
        simp only [impl_ReadVar.j1]
        rw [if_pos (by simp; omega), e1, if_pos (by omega), if_pos (by omega), if_pos e7, eb, if_pos c1, b_tmod (by omega), p128_shl (by omega) _ (by omega) (by omega), em, en, show wrap64 (((a + j : Nat) : Int) + 1) = ((a + j + 1 : Nat) : Int) by unfold wrap64; omega]
        by_cases c2 : bt s ((a + j : Nat) : Int) = 0
        · rw [if_pos c2]
          by_cases c3 : (j : Int) > 0
          · rw [if_pos c3, if_pos (.inl ⟨c2, by omega⟩)]
          · rw [if_neg c3]
            by_cases c4 : n + bt s ((a + j : Nat) : Int) * p128 j > 1000000000
            · rw [if_pos c4, if_pos (.inr c4)]
            · rw [if_neg c4, if_neg (by rintro (h | h) <;> omega)]
        · rw [if_neg c2]
          by_cases c4 : n + bt s ((a + j : Nat) : Int) * p128 j > 1000000000
          · rw [if_pos c4, if_pos (.inr c4)]
          · rw [if_neg c4, if_neg (by rintro (h | h) <;> omega)]
      · rw [if_neg c1]
        have ih := impl_ReadVar_l0 s a ha hs d (j + 1) (n + (bt s ((a + j : Nat) : Int) % 128) * p128 j) (by omega) (by omega) (by rw [p128_succ]; omega)
        refine Ev.step (fun k => ?_) ih
        simp only [impl_ReadVar.j1]
        rw [if_pos (by simp; omega), e1, if_pos (by omega), if_pos (by omega), if_pos e7, eb, if_neg c1, b_tmod (by omega), p128_shl (by omega) _ (by omega) (by omega), en, show wrap64 ((j : Int) + 1) = ((j + 1 : Nat) : Int) by unfold wrap64; omega]
    · rw [if_neg c]
      exact Ev.step (fun k => by simp only [impl_ReadVar.j1]; rw [if_neg (by simp; omega)]) (Ev.now _)
def readVarR (s : ByteArray) (a : Int) : Int × Int × Bool := if 0 ≤ a ∧ a ≤ s.size then rvR s a.toNat 5 0 0 else (0, 0, false)
theorem impl_ReadVar_ev (s : ByteArray) (hs : s.size ≤ 140737488351232) (a : Int) : Ev (fun k => impl_ReadVar.f k s a) (readVarR s a) := by
  unfold readVarR
  by_cases h : 0 ≤ a ∧ a ≤ s.size
  · rw [if_pos h]
    obtain ⟨n, rfl⟩ := Int.eq_ofNat_of_zero_le h.1
    refine Ev.congr (fun k => ?_) (impl_ReadVar_l0 s n (by omega) hs 5 0 0 (by omega) (by omega) (by decide))
    simp only [impl_ReadVar.f, impl_in.f]
    rw [if_pos (by omega)]
    simp only [Option.bind_some]
    rw [if_pos (by simp; omega)]; rfl
  · rw [if_neg h]
    refine Ev.congr (fun k => ?_) (Ev.now _)
    simp only [impl_ReadVar.f, impl_in.f]
    by_cases c : a ≥ 0
    · rw [if_pos c]; simp only [Option.bind_some]; rw [if_neg (by simp; omega)]
    · rw [if_neg c]; simp

theorem rvR_ok (s : ByteArray) (a : Nat) : ∀ (d j : Nat) (n : Int), j + d = 5 → 0 ≤ n → (rvR s a d j n).2.2 = true → 0 ≤ (rvR s a d j n).1 ∧ 0 ≤ (rvR s a d j n).2.1 ∧ (rvR s a d j n).2.1 ≤ s.size
  | 0, j, n, hj, h0, h => by simp [rvR] at h
  | d + 1, j, n, hj, h0, h => by
    have hb := bt_range s ((a + j : Nat) : Int)
    have hp := p128_le (j := j) (by omega)
    rw [rvR] at h ⊢
    by_cases c : a + j < s.size
    · rw [if_pos c] at h ⊢
      by_cases c1 : bt s ((a + j : Nat) : Int) < 128
      · rw [if_pos c1] at h ⊢
        have hm := p128_mul (j := j) (by omega) (bt s ((a + j : Nat) : Int)) hb.1 (by omega)
        split at h
        · simp at h
        · rename_i c2
          rw [if_neg c2]
          exact ⟨by show 0 ≤ n + _; omega, by show (0 : Int) ≤ ((a + j + 1 : Nat) : Int); omega, by show ((a + j + 1 : Nat) : Int) ≤ _; omega⟩
      · rw [if_neg c1] at h ⊢
        have hm := p128_mul (j := j) (by omega) (bt s ((a + j : Nat) : Int) % 128) (by omega) (by omega)
        exact rvR_ok s a d (j + 1) _ (by omega) (by omega) h
    · rw [if_neg c] at h
      simp at h
theorem readVarR_ok (s : ByteArray) (a : Int) (h : (readVarR s a).2.2 = true) : 0 ≤ (readVarR s a).1 ∧ 0 ≤ (readVarR s a).2.1 ∧ (readVarR s a).2.1 ≤ s.size := by
  unfold readVarR at h ⊢
  split at h
  · rename_i c
    rw [if_pos c]
    exact rvR_ok s _ 5 0 0 (by omega) (by omega) h
  · simp at h
def readShortR (s : ByteArray) (a : Int) : ByteArray × Int × Bool :=
  if (readVarR s a).2.2 = true ∧ (readVarR s a).1 ≤ 20000 ∧ (readVarR s a).1 ≤ (s.size : Int) - (readVarR s a).2.1 then
    (s.extract (readVarR s a).2.1.toNat ((readVarR s a).2.1 + (readVarR s a).1).toNat, (readVarR s a).2.1 + (readVarR s a).1, true)
  else ((⟨#[]⟩ : ByteArray), 0, false)
theorem impl_ReadShort_ev (s : ByteArray) (hs : s.size ≤ 140737488351232) (a : Int) : Ev (fun k => impl_ReadShort.f k s a) (readShortR s a) := by
  refine ev_a1 (impl_ReadVar_ev s hs a) (fun k e => ?_)
  simp only [impl_ReadShort.f]
  rw [e, Option.bind_some]
  unfold readShortR
  by_cases c : (readVarR s a).2.2 = true
  · obtain ⟨h1, h2, h3⟩ := readVarR_ok s a c
    rw [if_pos c]
    by_cases c1 : (readVarR s a).1 > 20000
    · rw [if_pos c1, if_neg (fun h => absurd h.2.1 (by omega))]
    · have q1 : (readVarR s a).2.1 ≤ (readVarR s a).2.1 + (readVarR s a).1 := by omega
      have e1 : wrap64 ((s.size : Int) - (readVarR s a).2.1) = (s.size : Int) - (readVarR s a).2.1 := b_w64 (by omega) (by omega)
      have e2 : wrap64 ((readVarR s a).2.1 + (readVarR s a).1) = (readVarR s a).2.1 + (readVarR s a).1 := b_w64 (by omega) (by omega)
      rw [if_neg c1, e1, e2]
      by_cases c2 : (readVarR s a).1 > (s.size : Int) - (readVarR s a).2.1
      · rw [if_pos c2, if_neg (fun h => absurd h.2.2 (Int.not_le.2 c2))]
      · have q2 : (readVarR s a).2.1 + (readVarR s a).1 ≤ (s.size : Int) := by clear e1 e2; omega
        rw [if_neg c2, if_pos h2, if_pos q1, if_pos q2, if_pos ⟨c, Int.not_lt.1 c1, Int.not_lt.1 c2⟩]
  · rw [if_neg c, if_neg (fun h => c h.1)]

theorem impl_shortText_ev (s : ByteArray) (h : s.size ≤ 140737488351232) : Ev (fun k => impl_shortText.f k s) (strOfNums (varL 9 s.size) ++ s) := by
  have hv := impl_varText_ev s.size (by omega)
  have hl := varL_length 9 s.size
  refine Ev.congr (f := fun k => (impl_varText.f k (s.size : Int)).bind _) (fun k => by simp only [impl_shortText.f]; rfl) (Ev.bind hv ?_)
  refine Ev.congr (fun k => ?_) (Ev.now _)
  rw [if_pos (by rw [strOfNums_size]; omega)]
theorem impl_ShortText_ev (s : ByteArray) : Ev (fun k => impl_ShortText.f k s) (if (s.size : Int) > 20000 then ((⟨#[]⟩ : ByteArray), false) else (strOfNums (varL 9 s.size) ++ s, true)) := by
  by_cases h : (s.size : Int) > 20000
  · rw [if_pos h]
    exact Ev.congr (fun k => by simp only [impl_ShortText.f]; rw [if_pos h]) (Ev.now _)
  · rw [if_neg h]
    refine Ev.congr (fun k => by simp only [impl_ShortText.f]; rw [if_neg h]) (Ev.bind (impl_shortText_ev s (by omega)) (Ev.now _))

def hexD (x : Int) : Int := if x < 10 then 48 + x else 87 + x
def hexFrom (s : ByteArray) : Nat → Nat → List Int → List Int
  | 0, _, acc => acc
  | d + 1, i, acc => hexFrom s d (i + 1) (acc ++ [hexD (bt s i / 16), hexD (bt s i % 16)])
theorem impl_hexD (x : Int) (h0 : 0 ≤ x) (h1 : x < 16) : bt (⟨#[48, 49, 50, 51, 52, 53, 54, 55, 56, 57, 97, 98, 99, 100, 101, 102]⟩ : ByteArray) x = hexD x := by
  obtain ⟨n, rfl⟩ := Int.eq_ofNat_of_zero_le h0
  have hn : n < 16 := by omega
  revert hn; clear h0 h1
  have : ∀ m : Fin 16, bt (⟨#[48, 49, 50, 51, 52, 53, 54, 55, 56, 57, 97, 98, 99, 100, 101, 102]⟩ : ByteArray) ((m.val : Nat) : Int) = hexD ((m.val : Nat) : Int) := by decide
  intro hn
  exact this ⟨n, hn⟩
theorem impl_hex_l0 (s : ByteArray) : ∀ (d i : Nat) (acc : List Int), i + d = s.size → s.size ≤ 20000 → acc.length = 2 * i →
    Ev (fun k => impl_hex.l0 k s acc (i : Int)) (strOfNums (hexFrom s d i acc))
  | 0, i, acc, hi, hs, hl => Ev.step (fun k => by simp only [impl_hex.l0]; rw [if_neg (by omega)]; rfl) (Ev.now _)
  | d + 1, i, acc, hi, hs, hl => by
    have hb := bt_range s i
    have ih := impl_hex_l0 s d (i + 1) (acc ++ [hexD (bt s i / 16), hexD (bt s i % 16)]) (by omega) hs (by simp; omega)
    refine Ev.step (fun k => ?_) ih
    simp only [impl_hex.l0]
    rw [u8_and15 _ (by omega) (by omega), if_pos (by omega), if_pos (by omega), if_pos (by omega), if_pos (by omega), if_pos (by omega), if_pos (by omega), impl_hexD _ (by omega) (by omega), impl_hexD _ (by omega) (by omega)]
    simp only [Option.bind_some]
    rw [if_pos (by simp; omega), show wrap64 ((i : Int) + 1) = ((i + 1 : Nat) : Int) by unfold wrap64; omega]
theorem impl_Hex_ev (s : ByteArray) : Ev (fun k => impl_Hex.f k s) (if (s.size : Int) > 20000 then ((⟨#[]⟩ : ByteArray), false) else (strOfNums (hexFrom s s.size 0 []), true)) := by
  by_cases h : (s.size : Int) > 20000
  · rw [if_pos h]
    exact Ev.congr (fun k => by simp only [impl_Hex.f]; rw [if_pos h]) (Ev.now _)
  · rw [if_neg h]
    refine ev_a1 (impl_hex_l0 s s.size 0 [] (by omega) (by omega) rfl) (fun k e => ?_)
    simp only [impl_Hex.f]
    rw [if_neg h, show impl_hex.f k s = some (strOfNums (hexFrom s s.size 0 [])) from e]; rfl

def hexV (x : Int) : Int := if 48 ≤ x ∧ x ≤ 57 then x - 48 else if 97 ≤ x ∧ x ≤ 102 then x - 87 else -1
def unhexFrom (s : ByteArray) : Nat → Nat → List Int → ByteArray × Bool
  | 0, _, acc => (strOfNums acc, true)
  | d + 1, i, acc => if hexV (bt s i) < 0 ∨ hexV (bt s (i + 1 : Nat)) < 0 then ((⟨#[]⟩ : ByteArray), false) else unhexFrom s d (i + 2) (acc ++ [16 * hexV (bt s i) + hexV (bt s (i + 1 : Nat))])
theorem hexV_range (x : Int) : -1 ≤ hexV x ∧ hexV x ≤ 15 := by
  unfold hexV
  split
  · omega
  · split <;> omega
theorem impl_hexDigit_ev (x : Int) (h0 : 0 ≤ x) (h1 : x ≤ 255) : Ev (fun k => impl_hexDigit.f k x) (hexV x) := by
  refine Ev.step (f := fun _ => some (hexV x)) (fun k => ?_) (Ev.now _)
  simp only [impl_hexDigit.f, impl_hexDigit.j0]
  unfold hexV
  by_cases a : x ≥ 48
  · rw [if_pos a]
    by_cases b : x ≤ 57
    · rw [if_pos (by simpa using b), if_pos ⟨a, b⟩]; congr 1; omega
    · rw [if_neg (by simpa using b), if_neg (show ¬(48 ≤ x ∧ x ≤ 57) by omega)]
      by_cases c : x ≥ 97
      · rw [if_pos c]
        by_cases e : x ≤ 102
        · rw [if_pos e, if_pos ⟨c, e⟩]; congr 1; omega
        · rw [if_neg e, if_neg (show ¬(97 ≤ x ∧ x ≤ 102) by omega)]
      · rw [if_neg c, if_neg (show ¬(97 ≤ x ∧ x ≤ 102) by omega)]
  · rw [if_neg a, if_neg (by simp), if_neg (by omega), if_neg (by omega), if_neg (by omega)]
theorem impl_Unhex_l0 (s : ByteArray) : ∀ (d i : Nat) (acc : List Int), i + 2 * d = s.size → s.size ≤ 40000 → acc.length ≤ i →
    Ev (fun k => impl_Unhex.l0 k s acc (i : Int)) (unhexFrom s d i acc)
  | 0, i, acc, hi, hs, hl => Ev.step (fun k => by simp only [impl_Unhex.l0]; rw [if_neg (by omega)]; rfl) (Ev.now _)
  | d + 1, i, acc, hi, hs, hl => by
    have ha := impl_hexDigit_ev (bt s i) (bt_range s i).1 (bt_range s i).2
    have hb := impl_hexDigit_ev (bt s (i + 1 : Nat)) (bt_range s _).1 (bt_range s _).2
    have ra := hexV_range (bt s i)
    have rb := hexV_range (bt s (i + 1 : Nat))
    have e1 : wrap64 ((i : Int) + 1) = ((i + 1 : Nat) : Int) := by unfold wrap64; omega
    have e2 : wrap64 ((i : Int) + 2) = ((i + 2 : Nat) : Int) := by unfold wrap64; omega
    rw [unhexFrom]
    by_cases ca : hexV (bt s i) < 0
    · rw [if_pos (.inl ca)]
      refine ev_s2 ha hb (fun k ea eb => ?_)
      simp only [impl_Unhex.l0]
      rw [if_pos (by omega), if_pos (by omega), ea, e1, Option.bind_some, if_pos (by omega), if_pos (by omega), eb]
      simp only [Option.bind_some]
      rw [if_pos ca]
    · by_cases cb : hexV (bt s (i + 1 : Nat)) < 0
      · rw [if_pos (.inr cb)]
        refine ev_s2 ha hb (fun k ea eb => ?_)
        simp only [impl_Unhex.l0]
        rw [if_pos (by omega), if_pos (by omega), ea, e1, Option.bind_some, if_pos (by omega), if_pos (by omega), eb]
        simp only [Option.bind_some]
        rw [if_neg ca, if_pos cb]
      · rw [if_neg (by omega)]
        have ih := impl_Unhex_l0 s d (i + 2) (acc ++ [16 * hexV (bt s i) + hexV (bt s (i + 1 : Nat))]) (by omega) hs (by simp; omega)
        refine ev_s3 ha hb ih (fun k ea eb ei => ?_)
        simp only [impl_Unhex.l0]
        rw [if_pos (by omega), if_pos (by omega), ea, e1, Option.bind_some, if_pos (by omega), if_pos (by omega), eb]
        simp only [Option.bind_some]
        rw [if_neg ca, if_neg cb, if_pos (by omega), e2, show (wrap64 (wrap64 (16 * hexV (bt s i)) + hexV (bt s (i + 1 : Nat)))) % 256 = 16 * hexV (bt s i) + hexV (bt s (i + 1 : Nat)) by unfold wrap64; omega]
        exact ei
def unhexR (s : ByteArray) : ByteArray × Bool := if s.size > 40000 ∨ s.size % 2 = 1 then ((⟨#[]⟩ : ByteArray), false) else unhexFrom s (s.size / 2) 0 []
theorem impl_Unhex_ev (s : ByteArray) : Ev (fun k => impl_Unhex.f k s) (unhexR s) := by
  unfold unhexR
  by_cases h2 : s.size % 2 = 1
  · rw [if_pos (.inr h2)]
    refine ev_s0 (fun k => ?_)
    simp only [impl_Unhex.f, impl_Unhex.j0]; rw [if_neg (by omega), if_pos trivial]
  · by_cases h : s.size > 40000
    · rw [if_pos (.inl h)]
      refine ev_s0 (fun k => ?_)
      simp only [impl_Unhex.f, impl_Unhex.j0]; rw [if_pos (by omega), if_pos (by simp; omega)]
    · rw [if_neg (by omega)]
      refine ev_s1 (impl_Unhex_l0 s (s.size / 2) 0 [] (by omega) (by omega) (by simp)) (fun k e => ?_)
      simp only [impl_Unhex.f, impl_Unhex.j0]; rw [if_pos (by omega), if_neg (by simp; omega)]; exact e

theorem bdata_app (a b : ByteArray) : (a ++ b).data.toList = a.data.toList ++ b.data.toList := by rw [ByteArray.data_append, Array.toList_append]
def nl (l : List UInt8) : List Int := l.map fun b => (b.toNat : Int)
theorem nl_app (a b : List UInt8) : nl (a ++ b) = nl a ++ nl b := by simp [nl]
theorem nl_len (s : ByteArray) : (nl s.data.toList).length = s.size := by simp only [nl, List.length_map]; rfl
theorem nl_range (l : List UInt8) : ∀ x ∈ nl l, 0 ≤ x ∧ x ≤ 255 := by
  intro x hx
  simp only [nl, List.mem_map] at hx
  obtain ⟨b, _, rfl⟩ := hx
  have := b.toNat_lt
  omega
theorem nl_bytes : ∀ (xs : List Int), (∀ x ∈ xs, 0 ≤ x ∧ x ≤ 255) → nl (Lib.bytesOf xs) = xs
  | [], _ => rfl
  | x :: xs, h => by
    have ih := nl_bytes xs (fun y hy => h y (by simp [hy]))
    have hx := h x (by simp)
    simp only [nl, Lib.bytesOf, List.map_cons] at ih ⊢
    rw [ih, UInt8.toNat_ofNat']
    congr 1
    omega
theorem nl_str (xs : List Int) (h : ∀ x ∈ xs, 0 ≤ x ∧ x ≤ 255) : nl (strOfNums xs).data.toList = xs := by
  rw [← Lib.toList_data, Lib.strOfNums_toList, nl_bytes xs h]
theorem str_nl (s : ByteArray) : strOfNums (nl s.data.toList) = s := by
  unfold nl
  rw [Lib.Lz.strOfNums_map]
theorem bt_nl (s : ByteArray) (i : Nat) : bt s (i : Int) = (nl s.data.toList).getD i 0 := by
  by_cases h : i < s.size
  · have hl : i < (nl s.data.toList).length := by rw [nl_len]; exact h
    rw [bt_nat s i h, List.getD_eq_getElem?_getD, List.getElem?_eq_getElem hl]
    simp [nl]
  · have hl : (nl s.data.toList).length ≤ i := by rw [nl_len]; omega
    rw [List.getD_eq_getElem?_getD, List.getElem?_eq_none hl]
    unfold bt
    rw [dif_neg (by simpa using h)]
    rfl
theorem rvR_var (s : ByteArray) (a : Nat) : ∀ (d j m e : Nat) (n : Int), j + d = 5 → m < 128 ^ d → d ≤ e → 0 ≤ n → n + (m : Int) * p128 j ≤ 1000000000 → (m ≠ 0 ∨ j = 0) → a + j + (varL e m).length ≤ s.size →
    (∀ i, i < (varL e m).length → bt s ((a + j + i : Nat) : Int) = (varL e m).getD i 0) → rvR s a d j n = (n + (m : Int) * p128 j, ((a + j + (varL e m).length : Nat) : Int), true)
  | 0, j, m, e, n, hj, hm, he, h0, h1, hz, hs, hb => by
    exfalso
    have : m < 1 := hm
    omega
  | d + 1, j, m, 0, n, hj, hm, he, h0, h1, hz, hs, hb => by omega
  | d + 1, j, m, e + 1, n, hj, hm, he, h0, h1, hz, hs, hb => by
    have hp := p128_le (j := j) (by omega)
    by_cases c : 127 < m
    · have ev : varL (e + 1) m = ((128 + m % 128 : Nat) : Int) :: varL e (m / 128) := by rw [varL, if_pos c]
      rw [ev] at hs hb ⊢
      simp only [List.length_cons] at hs hb ⊢
      have b0 := hb 0 (by omega)
      rw [List.getD_cons_zero, Nat.add_zero] at b0
      have key : ((m % 128 : Nat) : Int) * p128 j + ((m / 128 : Nat) : Int) * p128 (j + 1) = (m : Int) * p128 j := by
        rw [p128_succ]
        generalize p128 j = P
        obtain ⟨q, r, hq, hr⟩ : ∃ q r : Nat, q = m / 128 ∧ r = m % 128 := ⟨_, _, rfl, rfl⟩
        rw [← hq, ← hr]
        have e1 : (m : Int) = 128 * (q : Int) + (r : Int) := by omega
        rw [e1, Int.add_mul, Int.mul_left_comm, Int.mul_assoc]
        omega
      have hm' : m / 128 < 128 ^ d := by rw [Nat.div_lt_iff_lt_mul (by decide), ← Nat.pow_succ]; exact hm
      have hnn : 0 ≤ ((m % 128 : Nat) : Int) * p128 j := Int.mul_nonneg (by omega) (by omega)
      have q0 : a + j < s.size := by omega
      have q1 : ¬ ((128 + m % 128 : Nat) : Int) < 128 := by omega
      have q2 : ((128 + m % 128 : Nat) : Int) % 128 = ((m % 128 : Nat) : Int) := by omega
      have ih := rvR_var s a d (j + 1) (m / 128) e (n + ((m % 128 : Nat) : Int) * p128 j) (by omega) hm' (by omega) (by omega) (by rw [Int.add_assoc, key]; exact h1) (Or.inl (by omega)) (by omega)
        (fun i hi => by
          have := hb (i + 1) (by omega)
          rw [List.getD_cons_succ] at this
          rw [← this]
          congr 2
          omega)
      rw [rvR, if_pos q0, b0, if_neg q1, q2, ih, Int.add_assoc, key]
      congr 2
      omega
    · have ev : varL (e + 1) m = [(m : Int)] := by rw [varL, if_neg c]
      rw [ev] at hs hb ⊢
      simp only [List.length_singleton] at hs hb ⊢
      have b0 := hb 0 (by omega)
      rw [List.getD_cons_zero, Nat.add_zero] at b0
      have q0 : a + j < s.size := by omega
      have q1 : ((m : Nat) : Int) < 128 := by omega
      have q2 : ¬ ((((m : Nat) : Int) = 0 ∧ 0 < j) ∨ n + (m : Int) * p128 j > 1000000000) := by
        rintro (⟨z, z2⟩ | z)
        · rcases hz with hz | hz
          · omega
          · omega
        · omega
      rw [rvR, if_pos q0, b0, if_pos q1, if_neg q2]
theorem var_read (s : ByteArray) (a n : Nat) (hn : n ≤ 1000000000) (ha : a + (varL 9 n).length ≤ s.size) (hb : ∀ i, i < (varL 9 n).length → bt s ((a + i : Nat) : Int) = (varL 9 n).getD i 0) :
    readVarR s (a : Int) = ((n : Int), ((a + (varL 9 n).length : Nat) : Int), true) := by
  have p0 := p128_vals.1
  have q : (0 : Int) ≤ (a : Int) ∧ (a : Int) ≤ (s.size : Int) := by omega
  have e5 : (128 : Nat) ^ 5 = 34359738368 := by decide
  have h := rvR_var s a 5 0 n 9 0 rfl (by rw [e5]; omega) (by omega) (by omega) (by rw [p0]; omega) (Or.inr rfl) ha hb
  rw [readVarR, if_pos q, Int.toNat_natCast, h, p0]
  simp
theorem varL_rangeI : ∀ (d n : Nat), n < 128 ^ (d + 1) → ∀ x ∈ varL d n, 0 ≤ x ∧ x ≤ 255
  | 0, n, h, x, hx => by simp only [varL, List.mem_singleton] at hx; omega
  | d + 1, n, h, x, hx => by
    rw [varL] at hx
    by_cases c : 127 < n
    · rw [if_pos c] at hx
      rcases List.mem_cons.1 hx with e | hx
      · omega
      · exact varL_rangeI d (n / 128) (by rw [Nat.div_lt_iff_lt_mul (by decide), ← Nat.pow_succ]; exact h) x hx
    · rw [if_neg c] at hx
      simp only [List.mem_singleton] at hx
      omega
theorem varL_small (n : Nat) (hn : n ≤ 1000000000) : ∀ x ∈ varL 9 n, 0 ≤ x ∧ x ≤ 255 := by
  have e : (128 : Nat) ^ (9 + 1) = 1180591620717411303424 := by decide
  exact varL_rangeI 9 n (by rw [e]; omega)
theorem getD_app_l (a b : List Int) (i : Nat) (h : i < a.length) : (a ++ b).getD i 0 = a.getD i 0 := by
  rw [List.getD_eq_getElem?_getD, List.getD_eq_getElem?_getD, List.getElem?_append_left h]
theorem xy_read (n : Nat) (hn : n ≤ 1000000000) : readVarR (((⟨#[120]⟩ : ByteArray) ++ strOfNums (varL 9 n)) ++ (⟨#[121]⟩ : ByteArray)) 1 = ((n : Int), ((1 + (varL 9 n).length : Nat) : Int), true) := by
  refine var_read _ 1 n hn ?_ fun i hi => ?_
  · rw [ByteArray.size_append, ByteArray.size_append, strOfNums_size]
    show 1 + (varL 9 n).length ≤ 1 + (varL 9 n).length + 1
    omega
  · rw [bt_nl, bdata_app, bdata_app, nl_app, nl_app, nl_str _ (varL_small n hn)]
    show (([(120 : Int)] ++ varL 9 n) ++ [(121 : Int)]).getD (1 + i) 0 = _
    rw [getD_app_l _ _ _ (by simp; omega), Nat.add_comm 1 i]
    rfl
theorem short_read (t : ByteArray) (h : t.size ≤ 300) : readShortR (strOfNums (varL 9 t.size) ++ t) 0 = (t, ((strOfNums (varL 9 t.size) ++ t).size : Int), true) := by
  have hv := var_read (strOfNums (varL 9 t.size) ++ t) 0 t.size (by omega) (by rw [ByteArray.size_append, strOfNums_size]; omega) (fun i hi => by
    rw [bt_nl, bdata_app, nl_app, nl_str _ (varL_small t.size (by omega)), Nat.zero_add, getD_app_l _ _ _ hi])
  rw [show ((0 : Nat) : Int) = 0 from rfl, Nat.zero_add] at hv
  have hsz : (strOfNums (varL 9 t.size) ++ t).size = (varL 9 t.size).length + t.size := by rw [ByteArray.size_append, strOfNums_size]
  have hl := varL_length 9 t.size
  rw [readShortR, hv]
  simp only
  rw [if_pos ⟨trivial, by omega, by omega⟩, hsz]
  have e1 : (((varL 9 t.size).length : Nat) : Int).toNat = (varL 9 t.size).length := Int.toNat_natCast _
  have e2 : ((((varL 9 t.size).length : Nat) : Int) + (t.size : Int)).toNat = (varL 9 t.size).length + t.size := by omega
  rw [e1, e2]
  refine Prod.ext ?_ (Prod.ext ?_ rfl)
  · apply ByteArray.ext
    apply Array.toList_inj.mp
    show ((strOfNums (varL 9 t.size) ++ t).extract _ _).data.toList = _
    rw [← Lib.toList_data, Lib.extract_toList, bdata_app]
    have hvl : (strOfNums (varL 9 t.size)).data.toList.length = (varL 9 t.size).length := strOfNums_size _
    rw [List.drop_append_of_le_length (by omega), List.drop_eq_nil_of_le (by omega), List.nil_append]
    apply List.take_of_length_le
    show t.size ≤ _
    omega
  · show (((varL 9 t.size).length : Nat) : Int) + (t.size : Int) = (((varL 9 t.size).length + t.size : Nat) : Int)
    omega
def hx : List Int → List Int
  | [] => []
  | b :: r => hexD (b / 16) :: hexD (b % 16) :: hx r
theorem hx_len : ∀ l, (hx l).length = 2 * l.length
  | [] => rfl
  | b :: r => by have := hx_len r; simp only [hx, List.length_cons]; omega
theorem hx_range : ∀ l, (∀ x ∈ l, 0 ≤ x ∧ x ≤ 255) → ∀ x ∈ hx l, 0 ≤ x ∧ x ≤ 255
  | [], _, x, hx' => by simp [hx] at hx'
  | b :: r, h, x, hx' => by
    have hb := h b (by simp)
    simp only [hx, List.mem_cons] at hx'
    rcases hx' with e | e | e
    · subst e; unfold hexD; split <;> omega
    · subst e; unfold hexD; split <;> omega
    · exact hx_range r (fun y hy => h y (by simp [hy])) x e
theorem hx_get : ∀ (l : List Int) (q : Nat), q < l.length → (hx l).getD (2 * q) 0 = hexD (l.getD q 0 / 16) ∧ (hx l).getD (2 * q + 1) 0 = hexD (l.getD q 0 % 16)
  | [], q, h => by simp at h
  | b :: r, 0, h => ⟨rfl, rfl⟩
  | b :: r, q + 1, h => by
    have ih := hx_get r q (by simpa using h)
    rw [show 2 * (q + 1) = 2 * q + 1 + 1 by omega, hx]
    simp only [List.getD_cons_succ]
    exact ih
theorem drop_getD (l : List Int) (i : Nat) (h : i < l.length) : l.drop i = l.getD i 0 :: l.drop (i + 1) := by
  rw [List.drop_eq_getElem_cons h, List.getD_eq_getElem?_getD, List.getElem?_eq_getElem h]
  rfl
theorem hexFrom_hx (s : ByteArray) : ∀ (d i : Nat) (acc : List Int), i + d = s.size → hexFrom s d i acc = acc ++ hx ((nl s.data.toList).drop i)
  | 0, i, acc, h => by
    rw [hexFrom, List.drop_eq_nil_of_le (by rw [nl_len]; omega), hx, List.append_nil]
  | d + 1, i, acc, h => by
    rw [hexFrom, hexFrom_hx s d (i + 1) _ (by omega), drop_getD _ i (by rw [nl_len]; omega), hx, bt_nl, List.append_assoc]
    rfl
theorem hexV_hexD (x : Int) (h0 : 0 ≤ x) (h1 : x < 16) : hexV (hexD x) = x := by
  unfold hexD hexV
  by_cases c : x < 10
  · rw [if_pos c, if_pos (by omega)]; omega
  · rw [if_neg c, if_neg (by omega), if_pos (by omega)]; omega
theorem unhex_hx (t : ByteArray) : ∀ (d q : Nat) (acc : List Int), q + d = t.size → unhexFrom (strOfNums (hx (nl t.data.toList))) d (2 * q) acc = (strOfNums (acc ++ (nl t.data.toList).drop q), true)
  | 0, q, acc, h => by
    rw [unhexFrom, List.drop_eq_nil_of_le (by rw [nl_len]; omega), List.append_nil]
  | d + 1, q, acc, h => by
    have hq : q < (nl t.data.toList).length := by rw [nl_len]; omega
    have hr := nl_range t.data.toList
    obtain ⟨g1, g2⟩ := hx_get (nl t.data.toList) q hq
    have hm : (nl t.data.toList).getD q 0 ∈ nl t.data.toList := by
      rw [List.getD_eq_getElem?_getD, List.getElem?_eq_getElem hq]; exact List.getElem_mem _
    have hv := hr _ hm
    have b1 : bt (strOfNums (hx (nl t.data.toList))) ((2 * q : Nat) : Int) = hexD ((nl t.data.toList).getD q 0 / 16) := by
      rw [bt_nl, nl_str _ (hx_range _ hr)]; exact g1
    have b2 : bt (strOfNums (hx (nl t.data.toList))) ((2 * q + 1 : Nat) : Int) = hexD ((nl t.data.toList).getD q 0 % 16) := by
      rw [bt_nl, nl_str _ (hx_range _ hr)]; exact g2
    have v1 := hexV_hexD ((nl t.data.toList).getD q 0 / 16) (by omega) (by omega)
    have v2 := hexV_hexD ((nl t.data.toList).getD q 0 % 16) (by omega) (by omega)
    rw [unhexFrom, b1, b2, v1, v2, if_neg (by omega), show 2 * q + 2 = 2 * (q + 1) by omega, unhex_hx t d (q + 1) _ (by omega), drop_getD _ q hq, List.append_assoc, List.singleton_append]
    congr 4
    omega
theorem unhex_hex (t : ByteArray) (h : t.size ≤ 300) : unhexR (strOfNums (hexFrom t t.size 0 [])) = (t, true) := by
  have e := hexFrom_hx t t.size 0 [] (by omega)
  rw [List.drop_zero, List.nil_append] at e
  have hsz : (strOfNums (hx (nl t.data.toList))).size = 2 * t.size := by rw [strOfNums_size, hx_len, nl_len]
  have u := unhex_hx t t.size 0 [] (by omega)
  rw [List.drop_zero, List.nil_append, str_nl, Nat.mul_zero] at u
  rw [e, unhexR, hsz, if_neg (by omega), show 2 * t.size / 2 = t.size by omega, u]

theorem decFrom_app (b : List UInt8) : ∀ (a : List UInt8) (acc : Nat), Lib.decFrom acc (a ++ b) = (Lib.decFrom acc a).bind fun n => Lib.decFrom n b
  | [], acc => rfl
  | x :: a, acc => by
    rw [List.cons_append, Lib.decFrom, Lib.decFrom]
    cases Lib.digitVal x with
    | none => rfl
    | some d => exact decFrom_app b a _
theorem digitVal_of (d : Nat) (h : d < 10) : Lib.digitVal (UInt8.ofNat (48 + d)) = some d := by
  have : d = 0 ∨ d = 1 ∨ d = 2 ∨ d = 3 ∨ d = 4 ∨ d = 5 ∨ d = 6 ∨ d = 7 ∨ d = 8 ∨ d = 9 := by omega
  rcases this with h | h | h | h | h | h | h | h | h | h <;> subst h <;> rfl
theorem decFrom_digits (m : Nat) : Lib.decFrom 0 (Lib.decDigits m) = some m := by
  induction m using Nat.strongRecOn with
  | _ m ih =>
    rw [Lib.decDigits]
    by_cases c : m < 10
    · rw [dif_pos c, Lib.decFrom, digitVal_of m c]
      simp [Lib.decFrom]
    · rw [dif_neg c, decFrom_app, ih (m / 10) (by omega), Option.bind_some, Lib.decFrom, digitVal_of (m % 10) (Nat.mod_lt _ (by decide))]
      simp only [Lib.decFrom]
      rw [show m / 10 * 10 + m % 10 = m by omega]
theorem atoi_of_dec (l : List UInt8) (h0 : l ≠ []) (m : Nat) (h : Lib.decFrom 0 l = some m) : Lib.atoi l = some (m : Int) := by
  cases l with
  | nil => exact absurd rfl h0
  | cons b r =>
    have hd : Lib.decNat (b :: r) = some m := by rw [Lib.decNat]; exact h
    have hb : ∃ d, Lib.digitVal b = some d := Lib.digit_of_decFrom (b :: r) 0 m h 0 b rfl
    obtain ⟨d, hb⟩ := hb
    have hb2 := Lib.digitVal_eq hb
    have n1 : (b == 45) = false := by
      apply beq_eq_false_iff_ne.mpr; intro e; rw [e] at hb2; exact absurd hb2.1 (by decide)
    have n2 : (b == 43) = false := by
      apply beq_eq_false_iff_ne.mpr; intro e; rw [e] at hb2; exact absurd hb2.1 (by decide)
    rw [Lib.atoi, n1, n2, if_neg (by decide), if_neg (by decide), hd]
    rfl
theorem nDigits_le (m k : Nat) (h : m < 10 ^ k) (hk : 1 ≤ k) : Lib.nDigits m ≤ k := by
  induction k generalizing m with
  | zero => omega
  | succ k ih =>
    by_cases c : m < 10
    · rw [Lib.nDigits_small c]; omega
    · rw [Lib.nDigits_big c]
      have hd : m / 10 < 10 ^ k := by rw [Nat.div_lt_iff_lt_mul (by decide), ← Nat.pow_succ]; exact h
      cases k with
      | zero => omega
      | succ k => have := ih (m / 10) hd (by omega); omega

open Given
theorem readdecimal_itoa (n : Nat) (hn : n ≤ 1000000000) : impl_ReadDecimal.f ⟨(Lib.itoa (n : Int)).toArray⟩ = some ((n : Int), true) := by
  have e0 : Lib.itoa (n : Int) = Lib.decDigits n := by rw [Lib.itoa, if_neg (by omega)]; rfl
  have hl : (Lib.decDigits n).length = Lib.nDigits n := Lib.decDigits_length n
  have e10 : (10 : Nat) ^ 10 = 10000000000 := by decide
  have hn2 := nDigits_le n 10 (by rw [e10]; omega) (by decide)
  have h1 : 1 ≤ Lib.nDigits n := by
    by_cases c : n < 10
    · rw [Lib.nDigits_small c]; omega
    · rw [Lib.nDigits_big c]; omega
  have hne : Lib.decDigits n ≠ [] := by intro e; rw [e] at hl; simp at hl; omega
  have ha := atoi_of_dec _ hne n (decFrom_digits n)
  have hs : (⟨(Lib.decDigits n).toArray⟩ : ByteArray).size = Lib.nDigits n := by
    show (Lib.decDigits n).toArray.size = _
    rw [List.size_toArray]
    exact hl
  rw [e0, impl_ReadDecimal.f, hs, if_pos ⟨h1, hn2⟩]
  simp only [ha, e0]
  rw [if_pos (by omega), if_pos trivial]

theorem tail_is (n : Nat) (t : ByteArray) (ht : t.size ≤ 300) : Ev (fun k => laws_FnNumbers.j2 k (n : Int) (strOfNums (varL 9 n)) true (n : Int) ((1 + (varL 9 n).length : Nat) : Int) true (n : Int) true t) true := by
  have hA := impl_ShortText_ev t
  rw [if_neg (by omega)] at hA
  have hB := impl_ReadShort_ev (strOfNums (varL 9 t.size) ++ t) (by have := varL_length 9 t.size; rw [ByteArray.size_append, strOfNums_size]; omega) 0
  rw [short_read t ht] at hB
  have hC := impl_Hex_ev t
  rw [if_neg (by omega)] at hC
  have hD := impl_Unhex_ev (strOfNums (hexFrom t t.size 0 []))
  rw [unhex_hex t ht] at hD
  have hl := varL_length 9 n
  refine ev_s2 (ev_pair hA hB) (ev_pair hC hD) (fun k e1 e2 => ?_)
  have a := ev_pair_l e1
  have b := ev_pair_r e1
  have c := ev_pair_l e2
  have d := ev_pair_r e2
  have w : ((1 + (varL 9 n).length : Nat) : Int) = wrap64 (((strOfNums (varL 9 n)).size : Int) + 1) := by rw [strOfNums_size]; unfold wrap64; omega
  rw [laws_FnNumbers.j2, a, Option.bind_some]
  simp only
  rw [b, Option.bind_some, c, Option.bind_some]
  simp only
  rw [d, Option.bind_some]
  simp only [if_true]
  rw [if_pos w]
  simp
theorem mid_is (l : List Int) (hs : l.length ≤ 140737488355328) (n : Nat) (hn : n ≤ 1000000000) : Ev (fun k => laws_FnNumbers.j1 k l (n : Int)) true := by
  obtain ⟨t0, h0⟩ := drawhex_is l hs
  have hl := varL_length 9 n
  have hV : Ev (fun k => impl_VarText.f k (n : Int)) (strOfNums (varL 9 n), true) := ev_a1 (impl_varText_ev n (by omega)) fun k e => by
    rw [impl_VarText.f, impl_in_is, Option.bind_some, if_pos (by simp; omega), e, Option.bind_some]
  have sz : (strOfNums (varL 9 n)).size = (varL 9 n).length := strOfNums_size _
  have sx : ((⟨#[120]⟩ : ByteArray) ++ strOfNums (varL 9 n)).size = 1 + (varL 9 n).length := by rw [ByteArray.size_append, sz]; rfl
  have sy : (((⟨#[120]⟩ : ByteArray) ++ strOfNums (varL 9 n)) ++ (⟨#[121]⟩ : ByteArray)).size = 1 + (varL 9 n).length + 1 := by rw [ByteArray.size_append, sx]; rfl
  have hR := impl_ReadVar_ev (((⟨#[120]⟩ : ByteArray) ++ strOfNums (varL 9 n)) ++ (⟨#[121]⟩ : ByteArray)) (by omega) 1
  rw [xy_read n hn] at hR
  have hD : impl_Decimal.f (n : Int) = some ⟨(Lib.itoa (n : Int)).toArray⟩ := by
    rw [impl_Decimal.f, strconv_Itoa.f, if_pos (by omega), Option.bind_some]
  have q1 : 1 + (strOfNums (varL 9 n)).size ≤ 9223372036854775807 := by omega
  have q2 : ((⟨#[120]⟩ : ByteArray) ++ strOfNums (varL 9 n)).size + 1 ≤ 9223372036854775807 := by omega
  by_cases c : (t0.size : Int) > 300
  · refine ev_s2 (ev_pair hV hR) (ev_pair h0 (tail_is n ⟨#[97, 98, 99]⟩ (by decide))) (fun k e1 e2 => ?_)
    have a := ev_pair_l e1
    have b := ev_pair_r e1
    have d := ev_pair_l e2
    have e := ev_pair_r e2
    rw [laws_FnNumbers.j1, a, Option.bind_some]
    simp only
    rw [if_pos q1, if_pos q2, b, Option.bind_some, hD, Option.bind_some, readdecimal_itoa n hn, Option.bind_some, d, Option.bind_some, if_pos c]
    exact e
  · refine ev_s2 (ev_pair hV hR) (ev_pair h0 (tail_is n t0 (by omega))) (fun k e1 e2 => ?_)
    have a := ev_pair_l e1
    have b := ev_pair_r e1
    have d := ev_pair_l e2
    have e := ev_pair_r e2
    rw [laws_FnNumbers.j1, a, Option.bind_some]
    simp only
    rw [if_pos q1, if_pos q2, b, Option.bind_some, hD, Option.bind_some, readdecimal_itoa n hn, Option.bind_some, d, Option.bind_some, if_neg c]
    exact e
theorem FnNumbers : laws_FnNumbers.Pure := by
  intro l _ hs0 _
  have hs : l.length ≤ 140737488355328 := by omega
  by_cases big : (l.length : Int) > 1048576
  · exact ⟨0, by rw [laws_FnNumbers.f, laws_big.f, Option.bind_some, if_pos (by simpa using big)]⟩
  have bg : decide ((l.length : Int) > 1048576) = false := by simpa using big
  obtain ⟨x, hx⟩ := drawvartext_is l hs
  have E : Ev (fun k => laws_FnNumbers.f k l) true := by
    by_cases c : 0 ≤ x ∧ x ≤ 1000000000
    · obtain ⟨n, rfl⟩ := Int.eq_ofNat_of_zero_le c.1
      have h := mid_is l hs n (by omega)
      refine ev_a2 hx (show Ev (fun k => laws_FnNumbers.j0 k l (n : Int) (decide ((n : Int) > 1000000000))) true from ev_s1 h fun k e => by rw [laws_FnNumbers.j0, if_neg (by simp; omega)]; exact e) (fun k e1 e2 => ?_)
      rw [laws_FnNumbers.f, laws_big.f, Option.bind_some, if_neg (by rw [bg]; decide), e1, Option.bind_some, if_neg (by omega)]
      exact e2
    · have h := mid_is l hs 12345 (by omega)
      refine ev_a2 hx (show Ev (fun k => laws_FnNumbers.j0 k l x true) true from ev_s1 h fun k e => by rw [laws_FnNumbers.j0, if_pos rfl]; exact e) (fun k e1 e2 => ?_)
      rw [laws_FnNumbers.f, laws_big.f, Option.bind_some, if_neg (by rw [bg]; decide), e1, Option.bind_some]
      by_cases d : x < 0
      · rw [if_pos d]; exact e2
      · rw [if_neg d, show decide (x > 1000000000) = true from by simp; omega]; exact e2
  exact E.rounds
end Go.Proofs.YtmdpggibcjkfoaaDoor.Pure
