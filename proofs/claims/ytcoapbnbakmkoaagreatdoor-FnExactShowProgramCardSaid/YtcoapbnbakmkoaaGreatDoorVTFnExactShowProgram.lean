/- Contracts of Go's library, in the words of this seat's printed contracts: strconv.Itoa in a world whose table of powers reads as the program's text lays it; strings.Join of a row of strings. No condition beside those in each statement. -/
import Derived.Test.YtcoapbnbakmkoaaGreatDoorYFnExactShowProgram
import Derived.Test.YtcoapbnbakmkoaaGreatDoorVFnExactShowProgram
import Derived.Lib.AppendIntMem
import Derived.Shelf.Strconv.Itoa3
import Derived.WalkKit
namespace Go.Proofs.YtcoapbnbakmkoaaGreatDoor.Given
open Go.Shelf Go.RowKit Go.Lib Go.Proofs.YtcoapbnbakmkoaaGreatDoorW.PrintWords
set_option linter.unusedVariables false
/-- The table of powers reads as laid, here and in every world that keeps this one's blocks. -/
def TabW (w : World) : Prop := TabBelow Tryz.prog w.heap.size w "internal/strconv.uint64pow10" .u64 Lib.pow10Tab
theorem tabW_of {w : World} (h : Lib.TabIs Tryz.prog w "internal/strconv.uint64pow10" .u64 Lib.pow10Tab) : TabW w := tabBelow_of_tabIs h
theorem tabW_below {w w1 : World} (h : TabW w) (hb : Below w.heap.size w w1) : TabW w1 := fun w' k => h w' (below_then hb hb.size k)
theorem below_grow (w : World) (n : Nat) (os : Array Obj) : Below w.heap.size w (Go.Sort.grow (w.drewN n) os) :=
  ⟨rfl, rfl, rfl, by rw [Go.Sort.size_grow]; exact Nat.le_add_right _ _, fun k hk => Go.Sort.heap_grow_old (w.drewN n) os hk⟩
def strconv_Itoa.f (a0 : Int) : Option ByteArray := if -9223372036854775808 ≤ a0 ∧ a0 ≤ 9223372036854775807 then some ⟨(Lib.itoa a0).toArray⟩ else none
theorem strconv_Itoa.calls (a0 : Int) (r : ByteArray) (w : World) (hTab : TabW w) (h : strconv_Itoa.f a0 = some r) :
    Calls Tryz.prog 108 #[.int .i64 a0] w fun e w' => e = .returned (.string r) ∧ Below w.heap.size w w' := by
  rw [strconv_Itoa.f] at h
  by_cases c : -9223372036854775808 ≤ a0 ∧ a0 ≤ 9223372036854775807
  · rw [if_pos c] at h
    obtain rfl := Option.some.inj h
    refine (Tryz.strconv_Itoa a0 c.1 c.2 w hTab.here).mono fun e w' ⟨he, k, os, hw⟩ => ⟨he, ?_⟩
    rw [hw]
    exact below_grow w k os
  · rw [if_neg c] at h
    cases h
end Go.Proofs.YtcoapbnbakmkoaaGreatDoor.Given
