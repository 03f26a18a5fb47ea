/- The contract of Go's sort.Ints at a row of the caller's own, in the words of this seat's printed contracts (the form of a printed writer). No condition beside those in each statement. -/
import Derived.Test.YtcoapbnbakmkoaaGreatDoorVFnExactVarsOf
import Derived.Test.YtcoapbnbakmkoaaGreatDoorYFnExactVarsOf
import Derived.Shelf.Sort.Plain
import Derived.Shelf.Slices.In.SortNone2
import Derived.WalkKit
namespace Go.Proofs.YtcoapbnbakmkoaaGreatDoor.Given
open Go.Shelf Go.RowKit Go.Lib Go.Proofs.YtcoapbnbakmkoaaGreatDoorW.PrintWords
theorem Q_sorted {e : Nat} {w : World} {base : Nat} {ok : Nat → Prop} {g o n cap : Nat} {xs ys : List Int} (h : (Kd.int .i64).Q e w base ok (.slice (some ⟨g, o, none⟩) n cap) xs) (hl : ys.length = xs.length) (hn : 0 < n) (m : Nat) (os : Array Obj) :
    (Kd.int .i64).Q e (Sort.grow (Sort.putRow (Value.int .i64) (Sort.ahead w m) g o ys.toArray) os) base ok (.slice (some ⟨g, o, none⟩) n cap) ys := by
  have hx : n = xs.length := (Kd.Q_reads' h).1
  obtain ⟨h0, inner, hq, hr⟩ := h
  have hsz : (Kd.int .i64).sz = 1 := rfl
  rcases hq.2 with ⟨h1, _⟩ | ⟨g', off, cap', cur, he, hb, hh, hnc, hcm, hcs, ht⟩
  · omega
  · injection he with ha hb' hc
    injection ha with ha
    injection ha with hg ho _
    subst hg
    subst hc
    rw [hsz] at ho hcs ht
    rw [Nat.mul_one] at ho hcs ht
    subst ho
    have hlt : g < w.heap.size := (Array.getElem?_eq_some_iff.1 hh).1
    refine ⟨h0, ys.map (Value.int .i64), ⟨by rw [List.length_map, hsz, Nat.mul_one], .inr ⟨g, o, cap, Sort.putCells (Value.int .i64) o ys.toArray cur, by rw [hsz, Nat.mul_one, hl, hx], hb, ?_, by omega, hcm, by rw [hsz, Nat.mul_one, Sort.putCells, Array.size_mapIdx]; exact hcs, ?_⟩⟩, ?_⟩
    · have hsz2 : (Array.modify w.heap g (Sort.onCells (Sort.putCells (Value.int .i64) o ys.toArray))).size = w.heap.size := Array.size_modify
      have : (Sort.grow (Sort.putRow (Value.int .i64) (Sort.ahead w m) g o ys.toArray) os).heap = (Array.modify w.heap g (Sort.onCells (Sort.putCells (Value.int .i64) o ys.toArray))) ++ os := rfl
      rw [this, Array.getElem?_append_left (by rw [hsz2]; exact hlt), Array.getElem?_modify, if_pos rfl, hh]
      rfl
    · rw [hsz, Nat.mul_one, Nat.mul_one]
      refine List.ext_getElem? fun j => ?_
      rw [List.getElem?_take, List.getElem?_drop, List.getElem?_map]
      by_cases hj : j < ys.length
      · rw [if_pos hj, Array.getElem?_toList, Sort.putCells, Array.getElem?_mapIdx]
        have hc2 : o + j < cur.size := by omega
        rw [Array.getElem?_eq_getElem hc2, List.getElem?_eq_getElem hj]
        simp [hj]
      · rw [if_neg hj, List.getElem?_eq_none (by omega)]
        rfl
    · refine ⟨by rw [List.length_map, hsz, Nat.mul_one], fun j p hj => ?_⟩
      obtain ⟨hjl, hp⟩ := List.getElem?_eq_some_iff.1 hj
      show ((ys.map (Value.int .i64)).drop (j * 1)).take 1 = [Value.int .i64 p]
      rw [Nat.mul_one, List.drop_eq_getElem_cons (by rw [List.length_map]; exact hjl)]
      simp [hp]
theorem sorted_frame (w : World) (g o : Nat) (d : Array Int) (m : Nat) (os : Array Obj) (i : Nat) (hi : i < w.heap.size) (hne : i ≠ g) : (Sort.grow (Sort.putRow (Value.int .i64) (Sort.ahead w m) g o d) os).heap[i]? = w.heap[i]? := by
  have : (Sort.grow (Sort.putRow (Value.int .i64) (Sort.ahead w m) g o d) os).heap = (Array.modify w.heap g (Sort.onCells (Sort.putCells (Value.int .i64) o d))) ++ os := rfl
  rw [this, Array.getElem?_append_left (by rw [Array.size_modify]; exact hi), Array.getElem?_modify, if_neg (Ne.symm hne)]
theorem sorted_size (w : World) (g o : Nat) (d : Array Int) (m : Nat) (os : Array Obj) : w.heap.size ≤ (Sort.grow (Sort.putRow (Value.int .i64) (Sort.ahead w m) g o d) os).heap.size := by
  have : (Sort.grow (Sort.putRow (Value.int .i64) (Sort.ahead w m) g o d) os).heap = (Array.modify w.heap g (Sort.onCells (Sort.putCells (Value.int .i64) o d))) ++ os := rfl
  rw [this, Array.size_append, Array.size_modify]
  omega
def sort_Ints.f (l : List Int) : Option (List Int) := if l.length < 4611686018427387904 then some (l.mergeSort fun x y => decide (x ≤ y)) else none
theorem sort_Ints.callsQ (P0_ : Nat → Prop) (u : Value) (l r : List Int) (w0 w : World) (hB : Below w0.heap.size w0 w) (ho0 : Kd.Q (Kd.int .i64) 3 w w0.heap.size P0_ u l) (h : sort_Ints.f l = some r) :
    Calls Tryz.prog 88 #[u] w fun e w' => e = .returned (.tuple #[]) ∧ Kd.Q (Kd.int .i64) 3 w' w0.heap.size (fun k_ => (P0_ k_ ∨ w.heap.size ≤ k_)) u r ∧ Below w0.heap.size w0 w' ∧ Kept w w' (fun k_ => P0_ k_) := by
  rw [sort_Ints.f] at h
  by_cases c : l.length < 4611686018427387904
  rotate_left
  · rw [if_neg c] at h; cases h
  rw [if_pos c] at h
  obtain rfl := Option.some.inj h
  by_cases hz : l.length = 0
  · obtain rfl : l = [] := List.eq_nil_of_length_eq_zero hz
    obtain ⟨A, c', rfl⟩ : ∃ A c', u = .slice A 0 c' := by
      obtain ⟨_, inner, hq, _⟩ := ho0
      rcases hq.2 with ⟨_, A, he, _⟩ | ⟨g, off, cap, cur, he, _⟩
      · exact ⟨A, 0, he⟩
      · exact ⟨_, cap, he⟩
    refine (Any.sort_Ints_none Tryz.lays191 A c' w).mono ?_
    rintro e w' ⟨rfl, rfl⟩
    exact ⟨rfl, by rw [List.mergeSort_nil]; exact Kd.Q_mono ho0 (fun _ hk => .inl hk), hB, Kept.refl _ _⟩
  · obtain ⟨g, o, cap, rfl, hb, hlt, _⟩ := Kd.Q_form ho0 (by omega)
    have hH : Sort.Holds (Value.int .i64) w g o l.toArray := fun j hj => by
      have hj' : j < l.length := by simpa using hj
      have k := Kd.Q_cell (0 : Int) ho0 (j : Int) (by omega) (by omega)
      rw [Int.toNat_natCast] at k
      refine ⟨k.1.trans ?_, k.2⟩
      simp [rdOf, hj']
    have hP : P0_ g := ho0.1 g (by simp [Value.ownBlock])
    refine (Tryz.sort_Ints g o cap l w hH hlt c).mono ?_
    rintro e w' ⟨rfl, m, os, rfl⟩
    refine ⟨rfl, Kd.Q_mono (Q_sorted ho0 (by simp) (by omega) m os) (fun _ hk => .inl hk), ⟨hB.os, hB.tape, hB.output, Nat.le_trans hB.size (sorted_size w g o _ m os), fun i hi => ?_⟩, sorted_size w g o _ m os, fun i hi hn => sorted_frame w g o _ m os i hi (fun e_ => hn (e_ ▸ hP))⟩
    rw [sorted_frame w g o _ m os i (Nat.lt_of_lt_of_le hi hB.size) (by omega)]
    exact hB.block i hi
theorem sort_Ints.calls (P0_ : Nat → Prop) (u : Value) (l r : List Int) (w0 w : World) (hB : Below w0.heap.size w0 w) (ho0 : Kd.R (Kd.int .i64) 3 w w0.heap.size P0_ u l) (h : sort_Ints.f l = some r) :
    Calls Tryz.prog 88 #[u] w fun e w' => e = .returned (.tuple #[]) ∧ Kd.R (Kd.int .i64) 3 w' w0.heap.size (fun k_ => (P0_ k_ ∨ w.heap.size ≤ k_)) u r ∧ Below w0.heap.size w0 w' ∧ Kept w w' (fun k_ => P0_ k_) := by
  by_cases hz : l.length = 0
  · obtain rfl : l = [] := List.eq_nil_of_length_eq_zero hz
    obtain ⟨A, c', rfl⟩ := Kd.R_slice ho0
    have hr : r = [] := by
      rw [sort_Ints.f, if_pos (by decide)] at h
      rw [← Option.some.inj h, List.mergeSort_nil]
    subst hr
    refine (Any.sort_Ints_none Tryz.lays191 A c' w).mono ?_
    rintro e w' ⟨rfl, rfl⟩
    exact ⟨rfl, Kd.R_mono ho0 (fun _ hk => .inl hk), hB, Kept.refl _ _⟩
  · obtain ⟨g, cap, rfl, _⟩ := Kd.R_form ho0 (by omega)
    have hl : r.length = l.length := by
      rw [sort_Ints.f] at h
      split at h
      · rw [← Option.some.inj h, List.length_mergeSort]
      · cases h
    refine (sort_Ints.callsQ P0_ _ l r w0 w hB (Kd.Q_of_R ho0) h).mono ?_
    rintro e w' ⟨rfl, hq, h2, h3⟩
    exact ⟨rfl, Kd.R_of_Q hq (by decide) (by omega), h2, h3⟩
end Go.Proofs.YtcoapbnbakmkoaaGreatDoor.Given
