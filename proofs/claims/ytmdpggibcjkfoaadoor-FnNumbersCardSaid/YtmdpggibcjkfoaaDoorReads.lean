/- Contracts of Go's library and of the program's ReadDecimal, in the words of this seat's printed contracts: strconv.Itoa in a world whose table of powers reads as the program's text lays it; ReadDecimal over strconv.Atoi in a world whose variable strconv.ErrSyntax holds an error. No condition beside those in each statement. -/
import Derived.Test.YtmdpggibcjkfoaaDoorShelfB
import Derived.Test.YtmdpggibcjkfoaaDoorWWords
import Derived.Lib.AppendIntMem
import Derived.Shelf.Strconv.Itoa3
import Derived.Shelf.Strconv.Atoi
import Derived.WalkKit
import Derived.WalkLawsBesides
namespace Go.Proofs.YtmdpggibcjkfoaaDoor.Given
open Go.Shelf Go.RowKit Go.Lib Go.Proofs.YtmdpggibcjkfoaaDoorW.PrintWords
set_option linter.unusedVariables false
/-- The variable strconv.ErrSyntax holds an error. -/
def ErrW (w : World) : Prop := (∃ tp p, w.var? Tryd.prog "strconv.ErrSyntax" = some #[.iface tp p]) ∧ 0 < w.heap.size
theorem errNamed : Tryd.prog.globalNamed "strconv.ErrSyntax" = some 0 := by kernel_rfl
theorem errW_of {w : World} {tp : TypeId} {p : Value} (h : w.var? Tryd.prog "strconv.ErrSyntax" = some #[.iface tp p]) : ErrW w := ⟨⟨tp, p, h⟩, by
  have k := World.var?_cell errNamed h 0
  exact World.block_lt_of_cell? w _ (k.trans rfl)⟩
theorem errW_below {w w1 : World} (h : ErrW w) (hb : Below w.heap.size w w1) : ErrW w1 := by
  obtain ⟨⟨tp, p, h⟩, hg⟩ := h
  exact ⟨⟨tp, p, var?_below hb errNamed hg h⟩, Nat.lt_of_lt_of_le hg hb.size⟩
/-- The table of powers reads as laid, here and in every world that keeps this one's blocks; and the variable strconv.ErrSyntax holds an error. -/
def TabW (w : World) : Prop := TabBelow Tryd.prog w.heap.size w "internal/strconv.uint64pow10" .u64 Lib.pow10Tab ∧ ErrW w
theorem tabW_of {w : World} (h : Lib.TabIs Tryd.prog w "internal/strconv.uint64pow10" .u64 Lib.pow10Tab) (he : ErrW w) : TabW w := ⟨tabBelow_of_tabIs h, he⟩
theorem tabW_below {w w1 : World} (h : TabW w) (hb : Below w.heap.size w w1) : TabW w1 := ⟨fun w' k => h.1 w' (below_then hb hb.size k), errW_below h.2 hb⟩
theorem below_grow (w : World) (n : Nat) (os : Array Obj) : Below w.heap.size w (Go.Sort.grow (w.drewN n) os) :=
  ⟨rfl, rfl, rfl, by rw [Go.Sort.size_grow]; exact Nat.le_add_right _ _, fun k hk => Go.Sort.heap_grow_old (w.drewN n) os hk⟩
def strconv_Itoa.f (a0 : Int) : Option ByteArray := if -9223372036854775808 ≤ a0 ∧ a0 ≤ 9223372036854775807 then some ⟨(Lib.itoa a0).toArray⟩ else none
theorem strconv_Itoa.calls (a0 : Int) (r : ByteArray) (w : World) (hTab : TabW w) (h : strconv_Itoa.f a0 = some r) :
    Calls Tryd.prog 59 #[.int .i64 a0] w fun e w' => e = .returned (.string r) ∧ Below w.heap.size w w' := by
  rw [strconv_Itoa.f] at h
  by_cases c : -9223372036854775808 ≤ a0 ∧ a0 ≤ 9223372036854775807
  · rw [if_pos c] at h
    obtain rfl := Option.some.inj h
    refine (Tryd.strconv_Itoa a0 c.1 c.2 w hTab.1.here).mono fun e w' ⟨he, k, os, hw⟩ => ⟨he, ?_⟩
    rw [hw]
    exact below_grow w k os
  · rw [if_neg c] at h
    cases h
theorem in_any (a b c : Int) (w : World) : Calls Tryd.prog 45 #[.int .i64 a, .int .i64 b, .int .i64 c] w fun e w' => e = .returned (.bool (decide (b ≤ a ∧ a ≤ c))) ∧ w = w' := by
  by_cases h1 : b ≤ a
  · by_cases h2 : a ≤ c
    · have k : decide (b ≤ a ∧ a ≤ c) = true := decide_eq_true ⟨h1, h2⟩
      rw [k]
      go_enter Tryd.func45, Tryd.ntmps45
      go_wp2
      go_ret
      exact ⟨by first | rfl | simp [h2], rfl⟩
    · have k : decide (b ≤ a ∧ a ≤ c) = false := decide_eq_false fun h => h2 h.2
      rw [k]
      go_enter Tryd.func45, Tryd.ntmps45
      go_wp2
      go_ret
      exact ⟨by first | rfl | simp [h2], rfl⟩
  · have k : decide (b ≤ a ∧ a ≤ c) = false := decide_eq_false fun h => h1 h.1
    rw [k]
    go_enter Tryd.func45, Tryd.ntmps45
    go_wp2
    go_ret
    exact ⟨rfl, rfl⟩
theorem decimal_any (a0 : Int) (w : World) (hTab : TabW w) (h1 : -9223372036854775808 ≤ a0) (h2 : a0 ≤ 9223372036854775807) :
    Calls Tryd.prog 23 #[.int .i64 a0] w fun e w' => e = .returned (.string ⟨(Lib.itoa a0).toArray⟩) ∧ Below w.heap.size w w' := by
  have c := strconv_Itoa.calls a0 ⟨(Lib.itoa a0).toArray⟩ w hTab (by rw [strconv_Itoa.f, if_pos ⟨h1, h2⟩])
  go_enter Tryd.func23, Tryd.ntmps23
  go_wp2_with (go_at_call 59; (with_reducible refine c.mono ?_); rintro e w' ⟨rfl, hb⟩)
  go_ret
  exact ⟨rfl, hb⟩
def impl_ReadDecimal.f (a0 : ByteArray) : Option (Int × Bool) :=
  if 1 ≤ a0.size ∧ a0.size ≤ 10 then
    (match Lib.atoi a0.data.toList with
    | some n => if 0 ≤ n ∧ n ≤ 1000000000 then (if Lib.itoa n = a0.data.toList then some (n, true) else some (0, false)) else some (0, false)
    | none => some (0, false))
  else some (0, false)
theorem itoa_toList (n : Int) : (⟨(Lib.itoa n).toArray⟩ : ByteArray).toList = Lib.itoa n := by rw [Lib.toList_data]
set_option maxHeartbeats 4000000 in
set_option maxRecDepth 100000 in
theorem impl_ReadDecimal.calls (a0 : ByteArray) (r1 : Int) (r2 : Bool) (w : World) (hTab : TabW w) (h : impl_ReadDecimal.f a0 = some (r1, r2)) :
    Calls Tryd.prog 16 #[.string a0] w fun e w' => e = .returned (.tuple #[.int .i64 r1, .bool r2]) ∧ Below w.heap.size w w' := by
  rw [impl_ReadDecimal.f] at h
  by_cases c : 1 ≤ a0.size ∧ a0.size ≤ 10
  · rw [if_pos c] at h
    have k1 : decide (1 ≤ (a0.size : Int) ∧ (a0.size : Int) ≤ 10) = true := decide_eq_true (by omega)
    cases ha : Lib.atoi a0.data.toList with
    | none =>
      rw [ha] at h
      obtain ⟨rfl, rfl⟩ : 0 = r1 ∧ false = r2 := by simpa using h
      obtain ⟨tp, p, hv⟩ := hTab.2.1
      have cA := Tryd.strconv_Atoi_err a0 (by omega) ha (.iface tp p) w ((World.var?_cell errNamed hv 0).trans rfl) (Or.inr ⟨tp, p, rfl⟩)
      have cA' : Calls Tryd.prog 53 #[.string a0] w fun e w' => ∃ N, e = .returned (.tuple #[.int .i64 0, .iface 123 (.pointer (some ⟨N, 0, none⟩))]) ∧ Below w.heap.size w w' :=
        cA.mono fun e w' ⟨N, he, _, _, hb⟩ => ⟨N, he, hb⟩
      clear h ha hv cA
      go_enter Tryd.func16, Tryd.ntmps16
      go_wp2_with (first
        | (go_at_call 45; (with_reducible refine (in_any (a0.size : Int) 1 10 _).mono ?_); rintro e w' ⟨rfl, rfl⟩)
        | (go_at_call 53; (with_reducible refine cA'.mono ?_); rintro e w' ⟨N, rfl, hb⟩))
      go_ret2
      exact ⟨rfl, hb⟩
    | some n =>
      rw [ha] at h
      have cA : Calls Tryd.prog 53 #[.string a0] w fun e w' => e = .returned (.tuple #[.int .i64 n, .nilIface]) ∧ Below w.heap.size w w' :=
        (Tryd.strconv_Atoi a0 n (by omega) ha w).mono fun e w' ⟨he, t, hw⟩ => ⟨he, by rw [hw]; exact Lib.bytesWorld_below _ _ _⟩
      simp only [] at h
      by_cases d : 0 ≤ n ∧ n ≤ 1000000000
      · rw [if_pos d] at h
        have k2 : decide (0 ≤ n ∧ n ≤ 1000000000) = true := decide_eq_true d
        by_cases e0 : Lib.itoa n = a0.data.toList
        · rw [if_pos e0] at h
          obtain ⟨rfl, rfl⟩ : n = r1 ∧ true = r2 := by simpa using h
          have k3 : (Lib.itoa n == a0.toList) = true := by rw [Lib.toList_data]; exact beq_iff_eq.mpr e0
          clear h ha e0
          go_enter Tryd.func16, Tryd.ntmps16
          go_wp2_with (first
            | (go_at_call 45; (with_reducible refine (in_any (a0.size : Int) 1 10 _).mono ?_); rintro e w' ⟨rfl, rfl⟩)
            | (go_at_call 45; (with_reducible refine (in_any n 0 1000000000 _).mono ?_); rintro e w' ⟨rfl, rfl⟩)
            | (go_at_call 53; (with_reducible refine cA.mono ?_); rintro e w' ⟨rfl, hb⟩)
            | (go_at_call 23; (with_reducible refine (decimal_any n _ (tabW_below hTab hb) (by omega) (by omega)).mono ?_); rintro e w2 ⟨rfl, hb2⟩))
          go_ret2
          exact ⟨rfl, below_then hb hb.size hb2⟩
        · rw [if_neg e0] at h
          obtain ⟨rfl, rfl⟩ : 0 = r1 ∧ false = r2 := by simpa using h
          have k3 : (Lib.itoa n == a0.toList) = false := by rw [Lib.toList_data]; exact beq_eq_false_iff_ne.mpr e0
          clear h ha e0
          go_enter Tryd.func16, Tryd.ntmps16
          go_wp2_with (first
            | (go_at_call 45; (with_reducible refine (in_any (a0.size : Int) 1 10 _).mono ?_); rintro e w' ⟨rfl, rfl⟩)
            | (go_at_call 45; (with_reducible refine (in_any n 0 1000000000 _).mono ?_); rintro e w' ⟨rfl, rfl⟩)
            | (go_at_call 53; (with_reducible refine cA.mono ?_); rintro e w' ⟨rfl, hb⟩)
            | (go_at_call 23; (with_reducible refine (decimal_any n _ (tabW_below hTab hb) (by omega) (by omega)).mono ?_); rintro e w2 ⟨rfl, hb2⟩))
          go_ret2
          exact ⟨rfl, below_then hb hb.size hb2⟩
      · rw [if_neg d] at h
        obtain ⟨rfl, rfl⟩ : 0 = r1 ∧ false = r2 := by simpa using h
        have k2 : decide (0 ≤ n ∧ n ≤ 1000000000) = false := decide_eq_false d
        clear h ha
        go_enter Tryd.func16, Tryd.ntmps16
        go_wp2_with (first
          | (go_at_call 45; (with_reducible refine (in_any (a0.size : Int) 1 10 _).mono ?_); rintro e w' ⟨rfl, rfl⟩)
          | (go_at_call 45; (with_reducible refine (in_any n 0 1000000000 _).mono ?_); rintro e w' ⟨rfl, rfl⟩)
          | (go_at_call 53; (with_reducible refine cA.mono ?_); rintro e w' ⟨rfl, hb⟩))
        go_ret2
        exact ⟨rfl, hb⟩
  · rw [if_neg c] at h
    obtain ⟨rfl, rfl⟩ : 0 = r1 ∧ false = r2 := by simpa using h
    have k1 : decide (1 ≤ (a0.size : Int) ∧ (a0.size : Int) ≤ 10) = false := decide_eq_false (by omega)
    clear h
    go_enter Tryd.func16, Tryd.ntmps16
    go_wp2_with (go_at_call 45; (with_reducible refine (in_any (a0.size : Int) 1 10 _).mono ?_); rintro e w' ⟨rfl, rfl⟩)
    go_ret2
    exact ⟨rfl, Below.refl _ _⟩
end Go.Proofs.YtmdpggibcjkfoaaDoor.Given
