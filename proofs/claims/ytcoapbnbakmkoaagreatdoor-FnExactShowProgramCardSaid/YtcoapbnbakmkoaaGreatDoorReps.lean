/- The contract of Go's strings.Repeat at a count of 0 or more, in the words of this seat's printed contracts. No condition beside those in each statement. -/
import Derived.Test.YtcoapbnbakmkoaaGreatDoorYFnExactShowProgram
import Derived.Test.YtcoapbnbakmkoaaGreatDoorVFnExactShowProgram
import Derived.Shelf.Strings.Repeat
import Derived.WalkKit
namespace Go.Proofs.YtcoapbnbakmkoaaGreatDoor.Given
open Go.Shelf Go.RowKit Go.Lib Go.Proofs.YtcoapbnbakmkoaaGreatDoorW.PrintWords
set_option linter.unusedVariables false
def strings_Repeat.f (a0 : ByteArray) (a1 : Int) : Option ByteArray := if 0 ≤ a1 ∧ a1 ≤ 9223372036854775807 ∧ a0.size * a1.toNat ≤ 140737488355328 then some ⟨(Lib.repeatL a0.data.toList a1.toNat).toArray⟩ else none
theorem strings_Repeat.calls (a0 : ByteArray) (a1 : Int) (r : ByteArray) (w : World) (h : strings_Repeat.f a0 a1 = some r) :
    Calls Tryz.prog 74 #[.string a0, .int .i64 a1] w fun e w' => e = .returned (.string r) ∧ Below w.heap.size w w' := by
  rw [strings_Repeat.f] at h
  by_cases c : 0 ≤ a1 ∧ a1 ≤ 9223372036854775807 ∧ a0.size * a1.toNat ≤ 140737488355328
  · rw [if_pos c] at h
    obtain rfl := Option.some.inj h
    obtain ⟨n, rfl⟩ := Int.eq_ofNat_of_zero_le c.1
    have h2 := c.2.2
    rw [Int.toNat_natCast] at h2 ⊢
    exact Tryz.strings_Repeat a0 n w (by omega) h2
  · rw [if_neg c] at h
    cases h
end Go.Proofs.YtcoapbnbakmkoaaGreatDoor.Given
