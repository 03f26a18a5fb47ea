/- Contracts of Go's library, in the words of this seat's printed contracts: strings.Split at a separator of one byte, strings.HasPrefix: each returns what it says, for every world. No condition beside those in each statement. -/
import Derived.Test.YtnepkmbknoanjaaDoorYFnExactCopyNodes
import Derived.Test.YtnepkmbknoanjaaDoorVFnExactCopyNodes
import Derived.Shelf.Strings.Split
import Derived.WalkKit
namespace Go.Proofs.YtnepkmbknoanjaaDoor.Given
open Go.Shelf Go.RowKit Go.Lib Go.Proofs.YtnepkmbknoanjaaDoorW.PrintWords
set_option linter.unusedVariables false

theorem strs_made (w : World) (l : List ByteArray) (hm : l.length ≤ maxLen) :
    Kd.R Kd.string 9 (w.alloc (.cells (l.map Value.string).toArray 9)) w.heap.size (fun _ => True) (.slice (some ⟨w.heap.size, 0, none⟩) l.length l.length) l := by
  have h2 := World.ownsRow_lit (base := w.heap.size) (e := 9) (size := 1) w (l.map Value.string).toArray l.length (Nat.le_refl _) hm (by simp)
  refine ⟨fun _ _ => trivial, l.map Value.string, by simpa only [Kd.string, Kd.scalar] using h2, by simp [Kd.string, Kd.scalar], fun j p hj => ?_⟩
  obtain ⟨hj1, hj2⟩ := List.getElem?_eq_some_iff.1 hj
  show ((l.map Value.string).drop (j * 1)).take 1 = [Value.string p]
  rw [Nat.mul_one, List.drop_eq_getElem_cons (by simpa using hj1)]
  simp [hj2]

def strings_Split.f (a0 a1 : ByteArray) : Option (List ByteArray) := if a1.size = 1 ∧ a0.size < 4294967281 then some (Lib.splitB a1 0 (Lib.countB a0 a1) a0) else none
set_option maxHeartbeats 1000000 in
theorem strings_Split.calls (a0 a1 : ByteArray) (r : List ByteArray) (w : World) (h : strings_Split.f a0 a1 = some r) :
    Calls Tryd.prog 72 #[.string a0, .string a1] w fun e w' => ∃ v0_ : Value, e = .returned (v0_) ∧ Kd.R Kd.string 9 w' w.heap.size (fun _ => True) v0_ r ∧ Below w.heap.size w w' := by
  rw [strings_Split.f] at h
  by_cases hc : a1.size = 1 ∧ a0.size < 4294967281
  · rw [if_pos hc] at h
    obtain rfl := Option.some.inj h
    obtain ⟨hs1, hs⟩ := hc
    have h1 : 1 ≤ a1.size := by omega
    have hle := Lib.countB_le a1 h1 a0.size a0 (Nat.le_refl _)
    have hlen := Lib.splitB_all a1 h1 0 _ a0 rfl
    obtain ⟨c, rfl⟩ := Lib.one_byte a1 hs1
    have c0 := Any.strings_genSplit_core Tryd.lays221 (by kernel_rfl) a0 ⟨#[c]⟩ 0 (-1) (Lib.countB a0 ⟨#[c]⟩ + 1) w hs h1 (Nat.zero_le _)
      (fun x cs hx => (Tryd.strings_Index_one x c _).mono fun e w' ⟨he, hw⟩ => ⟨by rw [he]; show _ = Ending.returned (Value.int .i64 (Lib.index x.data.toList [c])); rw [Lib.index_one], hw⟩)
      ((Tryd.strings_Count_one a0 c w).mono fun e w' ⟨he, hw⟩ => ⟨by rw [he]; show _ = Ending.returned (Value.int .i64 ((Lib.count a0.data.toList [c] : Nat) : Int)); rw [Lib.count_one]; rfl, hw⟩)
      (by decide) (by decide) (by rw [if_pos (by decide)]; omega)
    rw [Nat.add_sub_cancel, hlen] at c0
    have e2 : Lib.cellsOf (Lib.splitB ⟨#[c]⟩ 0 (Lib.countB a0 ⟨#[c]⟩) a0) (Lib.countB a0 ⟨#[c]⟩ + 1) = ((Lib.splitB ⟨#[c]⟩ 0 (Lib.countB a0 ⟨#[c]⟩) a0).map Value.string).toArray := by rw [← hlen]; exact Lib.cellsOf_full _
    rw [e2] at c0
    have c1 : Calls Tryd.prog 73 #[.string a0, .string ⟨#[c]⟩, .int .i64 0, .int .i64 (-1)] w fun e w' => e = .returned (.slice (some ⟨w.heap.size, 0, none⟩) (Lib.countB a0 ⟨#[c]⟩ + 1) (Lib.countB a0 ⟨#[c]⟩ + 1)) ∧ w' = w.alloc (.cells ((Lib.splitB ⟨#[c]⟩ 0 (Lib.countB a0 ⟨#[c]⟩) a0).map Value.string).toArray 9) := c0
    have hcs : Calls Tryd.prog 72 #[.string a0, .string ⟨#[c]⟩] w fun e w' => e = .returned (.slice (some ⟨w.heap.size, 0, none⟩) (Lib.countB a0 ⟨#[c]⟩ + 1) (Lib.countB a0 ⟨#[c]⟩ + 1)) ∧ w' = w.alloc (.cells ((Lib.splitB ⟨#[c]⟩ 0 (Lib.countB a0 ⟨#[c]⟩) a0).map Value.string).toArray 9) := by
      go_enter Tryd.func72, Tryd.ntmps72
      go_wp2_with (go_at_call 73; refine c1.mono ?_; rintro e w' ⟨rfl, hw⟩; rw [hw])
      go_ret
      exact ⟨rfl, rfl⟩
    refine hcs.mono fun e w' ⟨he, hw⟩ => ⟨_, he, ?_, ?_⟩
    · rw [hw, ← hlen]
      generalize hl : Lib.splitB ⟨#[c]⟩ 0 (Lib.countB a0 ⟨#[c]⟩) a0 = l
      have hm : l.length ≤ maxLen := by rw [← hl, hlen]; unfold maxLen; omega
      exact strs_made w l hm
    · rw [hw]
      exact below_alloc (Below.refl w.heap.size w) _
  · rw [if_neg hc] at h
    cases h
end Go.Proofs.YtnepkmbknoanjaaDoor.Given
