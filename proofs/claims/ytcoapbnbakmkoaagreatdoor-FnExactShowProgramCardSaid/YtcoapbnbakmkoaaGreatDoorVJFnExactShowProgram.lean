/- The contract of Go's strings.Join, in the words of this seat's printed contracts: a row of strings, read alone. No condition beside those in each statement. -/
import Derived.Test.YtcoapbnbakmkoaaGreatDoorYFnExactShowProgram
import Derived.Test.YtcoapbnbakmkoaaGreatDoorVFnExactShowProgram
import Derived.Shelf.Strings.OnBuilder
import Derived.WalkKit
namespace Go.Proofs.YtcoapbnbakmkoaaGreatDoor.Given
open Go.Shelf Go.RowKit Go.Lib Go.Proofs.YtcoapbnbakmkoaaGreatDoorW.PrintWords
set_option linter.unusedVariables false
def strings_Join.f (l0 : List ByteArray) (a1 : ByteArray) : Option ByteArray := if l0.length ≤ 140737488355328 ∧ (Lib.join (l0.map (·.data.toList)) a1.data.toList).length ≤ 140737488355328 then some ⟨(Lib.join (l0.map (·.data.toList)) a1.data.toList).toArray⟩ else none
theorem strings_Join.calls (A0 : Option Addr) (c0 : Nat) (l0 : List ByteArray) (a1 : ByteArray) (r : ByteArray) (w : World) (hr0 : Kd.C Kd.string w A0 l0.length l0) (hc0 : l0.length ≤ c0) (h : strings_Join.f l0 a1 = some r) :
    Calls Tryz.prog 84 #[.slice A0 l0.length c0, .string a1] w fun e w' => e = .returned (.string r) ∧ Below w.heap.size w w' := by
  rw [strings_Join.f] at h
  by_cases c : l0.length ≤ 140737488355328 ∧ (Lib.join (l0.map (·.data.toList)) a1.data.toList).length ≤ 140737488355328
  · rw [if_pos c] at h
    obtain rfl := Option.some.inj h
    match l0, hr0, hc0, c with
    | [], hr0, hc0, c =>
      refine (Tryz.strings_Join_none A0 c0 a1 w).mono fun e w' ⟨he, hw⟩ => ⟨?_, ?_⟩
      · rw [he]; rfl
      · rw [hw]; exact Below.refl _ _
    | x :: l, hr0, hc0, c =>
      obtain ⟨ad, rfl, h0⟩ := Kd.at_string hr0 0 (by decide) (by simp)
      have hspot : ad.spot = none := by
        have h1 : w.cell? (ad.add 0) = some (.string (rdOf ByteArray.empty (x :: l) 0)) := h0
        rw [show ad.add 0 = ad from rfl] at h1
        unfold World.cell? at h1
        split at h1
        · by_cases q : ad.spot.isSome = true
          · rw [if_pos q] at h1; cases h1
          · simpa using q
        · cases h1
      obtain ⟨b, o, sp⟩ := ad
      simp only at hspot
      subst hspot
      have hcells : ∀ (j : Nat) y, (x :: l)[j]? = some y → w.cell? ⟨b, o + j, none⟩ = some (.string y) := by
        intro j y hj
        obtain ⟨hj1, hj2⟩ := List.getElem?_eq_some_iff.1 hj
        obtain ⟨ad', e', h'⟩ := Kd.at_string hr0 (j : Int) (by omega) (by omega)
        obtain rfl := Option.some.inj e'
        rw [Int.toNat_natCast] at h'
        have e1 : (⟨b, o, none⟩ : Addr).add j = ⟨b, o + j, none⟩ := by
          unfold Addr.add
          by_cases q : j = 0
          · rw [if_pos q, q]; rfl
          · rw [if_neg q]
        rw [e1] at h'
        rw [h', ← hj2]
        simp [rdOf, List.getD, List.getElem?_eq_getElem hj1]
      have hbk : b < w.heap.size := World.block_lt_of_cell? w _ (hcells 0 x rfl)
      exact Tryz.strings_Join b o c0 (x :: l) a1 w hcells hbk c.1 hc0 c.2
  · rw [if_neg c] at h
    cases h
end Go.Proofs.YtcoapbnbakmkoaaGreatDoor.Given
