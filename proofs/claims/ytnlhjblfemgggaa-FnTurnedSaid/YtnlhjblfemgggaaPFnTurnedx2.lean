/- Written by a program of this session (a turned copy of the kit's print): a contract for each Go function. No condition beside those in each statement. -/
import Derived.Test.YtnlhjblfemgggaaPFnTurnedx0
import Derived.Test.YtnlhjblfemgggaaPFnTurnedx1
namespace Go.Proofs.Ytnlhjblfemgggaa.PFnTurned
open Go.RowKit Go.Proofs.YtnlhjblfemgggaaW.PrintWords Go.Proofs.YtnlhjblfemgggaaW.PrintLast Go.Proofs.YtnlhjblfemgggaaW.PrintMore
attribute [local go_sem] max2_int min2_int max_two min_two max_three min_three max_four min_four   -- for this text's walks alone
set_option linter.unusedVariables false
set_option linter.unusedSimpArgs false

/-! ### impl_Unsealed: function 14 -/
def impl_Unsealed.f (k : Nat) (a0 : ByteArray) : Option (ByteArray × Bool) := if (wrap64 ((a0.size : Int) - 4)) < 0 then (some ((⟨#[]⟩ : ByteArray), false)) else (if (wrap64 ((a0.size : Int) - 4)) > 20000 then (some ((⟨#[]⟩ : ByteArray), false)) else (if 0 ≤ (wrap64 ((a0.size : Int) - 4)) then (if (wrap64 ((a0.size : Int) - 4)) ≤ (a0.size : Int) then ((impl_SumOf.f k (a0.extract 0 ((wrap64 ((a0.size : Int) - 4)) : Int).toNat)).bind fun t161 => ((impl_fourBytes.f t161).bind fun t162 => (if (a0.extract ((wrap64 ((a0.size : Int) - 4)) : Int).toNat a0.size).toList = t162.toList then (some (a0.extract 0 ((wrap64 ((a0.size : Int) - 4)) : Int).toNat, true)) else (some ((⟨#[]⟩ : ByteArray), false))))) else (none)) else (none)))
theorem impl_Unsealed.mono : ∀ a0 k, LeO (impl_Unsealed.f k a0) (impl_Unsealed.f (k + 1) a0) := by
 intro a0 k
 unfold impl_Unsealed.f
 with_reducible repeat' first | exact impl_SumOf.mono _ _ | exact LeO.refl _ | exact LeO.none _ | refine LeO.ite ?_ ?_ | refine LeO.bind ?_ (fun _ => ?_)
def impl_Unsealed.T2 : Bool × List (List Nat × List Nat) := (true, [([], []), ([0], [0]), ([1], [1]), ([2], [2]), ([3, 2], [2, 3]), ([2, 4], [2, 4]), ([5, 2], [5]), ([6], [6]), ([6], [6]), ([7, 8, 6], [6, 7, 8]), ([6], [6]), ([6], [6]), ([10, 11, 6], [6, 10, 11]), ([12, 6, 6], [6, 12]), ([13, 13, 6], [6, 13]), ([9, 14, 6], [6, 9, 14]), ([6, 15], [6, 15])])
def impl_Unsealed.B2 : List Nat := [0, 1, 3, 7, 15, 31, 63, 127, 127, 511, 127, 127, 3199, 7295, 15487, 32767, 65535]
theorem impl_Unsealed.tab2 : rtab .any (opsOf Try.f14 2) = impl_Unsealed.T2 := by kernel_rfl
theorem impl_Unsealed.bits2 : waitsOk impl_Unsealed.T2.2 impl_Unsealed.B2 = true := by kernel_rfl
set_option maxHeartbeats 8000000 in
set_option maxRecDepth 100000 in
theorem impl_Unsealed.calls (k : Nat) (a0 : ByteArray) (r1 : ByteArray) (r2 : Bool) (w : World) (h : impl_Unsealed.f k a0 = some (r1, r2)) :
  Calls Try.prog 14 #[.string a0] w fun e w' => e = .returned (.tuple #[.string r1, .bool r2]) ∧ Below w.heap.size w w' := by
 have HB := As.mk (Below.refl w.heap.size w)
 have H : (if (wrap64 ((a0.size : Int) - 4)) < 0 then (some ((⟨#[]⟩ : ByteArray), false)) else (if (wrap64 ((a0.size : Int) - 4)) > 20000 then (some ((⟨#[]⟩ : ByteArray), false)) else (if 0 ≤ (wrap64 ((a0.size : Int) - 4)) then (if (wrap64 ((a0.size : Int) - 4)) ≤ (a0.size : Int) then ((impl_SumOf.f k (a0.extract 0 ((wrap64 ((a0.size : Int) - 4)) : Int).toNat)).bind fun t161 => ((impl_fourBytes.f t161).bind fun t162 => (if (a0.extract ((wrap64 ((a0.size : Int) - 4)) : Int).toNat a0.size).toList = t162.toList then (some (a0.extract 0 ((wrap64 ((a0.size : Int) - 4)) : Int).toNat, true)) else (some ((⟨#[]⟩ : ByteArray), false))))) else (none)) else (none)))) = some (r1, r2) := h
 clear h
 by_cases c2 : (wrap64 ((a0.size : Int) - 4)) < 0
 ·
  rw [if_pos c2] at H
  have c2b0 : decide ((wrap64 ((a0.size : Int) - 4)) < 0) = true := decide_eq_true c2
  clear c2
  simp only [Option.some.injEq, Prod.mk.injEq] at H
  obtain ⟨rfl, rfl⟩ := H
  go_enter Try.func14, Try.ntmps14
  try go_wp2
  replace HB := As.mk (below_drew1 HB.out)
  refine start_ (n := 17) (S := fun w' => True) (ds := []) #[O, O, O, O, O, O, O, O, O, O, O, O, O, O, O, O, O] (by kernel_rfl) rfl rfl trivial (fun hHeld => ?_); refine with_tabW impl_Unsealed.tab2 impl_Unsealed.bits2 (fun HT_ HW_ => ?_)
  generalize w.drew = w3 at HB hHeld ⊢
  refine pure_ (i := 0) (N := some 8) (v := ?_) (a' := ?_) #[I, O, O, O, O, O, O, O, O, O, O, O, O, O, O, O, O] rfl rfl (any_of HT_.out (by kernel_rfl)) (fun _ _ _ h => h) (Or.inl ⟨by rfl, ?_⟩) ?_ ?_
  rotate_left; · intro w'; go_simp; with_reducible rfl
  rotate_left; · simp only [pk, i64_w, i32_w]; rfl
  refine pure_ (i := 1) (N := some 9) (v := ?_) (a' := ?_) #[I, I, O, O, O, O, O, O, O, O, O, O, O, O, O, O, O] rfl rfl (any_of HT_.out (by kernel_rfl)) (fun _ _ _ h => h) (Or.inl ⟨by rfl, ?_⟩) ?_ ?_
  rotate_left; · intro w'; go_simp; with_reducible rfl
  rotate_left; · simp only [pk, i64_w, i32_w]; rfl
  refine pure_ (i := 2) (N := some 10) (v := ?_) (a' := ?_) #[I, I, I, O, O, O, O, O, O, O, O, O, O, O, O, O, O] rfl rfl (any_of HT_.out (by kernel_rfl)) (fun _ _ _ h => h) (Or.inl ⟨by rfl, ?_⟩) ?_ ?_
  rotate_left; · intro w'; go_simp; with_reducible rfl
  rotate_left; · simp only [pk, i64_w, i32_w]; rfl
  refine pure_ (i := 3) (N := some 11) (v := undef) (a' := ?_) #[I, I, I, I, O, O, O, O, O, O, O, O, O, O, O, O, O] rfl rfl (any_of HT_.out (by kernel_rfl)) (fun _ _ _ h => h) (Or.inr ⟨by rfl, rfl⟩) ?_ ?_
  rotate_left; · simp only [pk, i64_w, i32_w]; rfl
  refine pure_ (i := 4) (N := some 12) (v := undef) (a' := ?_) #[I, I, I, I, I, O, O, O, O, O, O, O, O, O, O, O, O] rfl rfl (any_of HT_.out (by kernel_rfl)) (fun _ _ _ h => h) (Or.inr ⟨by rfl, rfl⟩) ?_ ?_
  rotate_left; · simp only [pk, i64_w, i32_w]; rfl
  refine pure_ (i := 5) (N := some 13) (v := ?_) (a' := ?_) #[I, I, I, I, I, I, O, O, O, O, O, O, O, O, O, O, O] rfl rfl (any_of HT_.out (by kernel_rfl)) (fun _ _ _ h => h) (Or.inl ⟨by rfl, ?_⟩) ?_ ?_
  rotate_left; · intro w'; go_simp; with_reducible rfl
  rotate_left; · simp only [pk, i64_w, i32_w]; rfl
  refine pure_ (i := 6) (N := some 14) (v := ?_) (a' := ?_) #[I, I, I, I, I, I, I, O, O, O, O, O, O, O, O, O, O] rfl rfl (any_of HT_.out (by kernel_rfl)) (fun _ _ _ h => h) (Or.inl ⟨by rfl, ?_⟩) ?_ ?_
  rotate_left; · intro w'; go_simp; with_reducible rfl
  rotate_left; · simp only [pk, i64_w, i32_w]; rfl
  refine pure_ (i := 7) (N := some 15) (v := undef) (a' := ?_) #[I, I, I, I, I, I, I, I, O, O, O, O, O, O, O, O, O] rfl rfl (any_of HT_.out (by kernel_rfl)) (fun _ _ _ h => h) (Or.inr ⟨by rfl, rfl⟩) ?_ ?_
  rotate_left; · simp only [pk, i64_w, i32_w]; rfl
  refine pure_ (i := 8) (N := some 16) (v := undef) (a' := ?_) #[I, I, I, I, I, I, I, I, I, O, O, O, O, O, O, O, O] rfl rfl (any_of HT_.out (by kernel_rfl)) (fun _ _ _ h => h) (Or.inr ⟨by rfl, rfl⟩) ?_ ?_
  rotate_left; · simp only [pk, i64_w, i32_w]; rfl
  refine pure_ (i := 9) (N := some 17) (v := undef) (a' := ?_) #[I, I, I, I, I, I, I, I, I, I, O, O, O, O, O, O, O] rfl rfl (any_of HT_.out (by kernel_rfl)) (fun _ _ _ h => h) (Or.inr ⟨by rfl, rfl⟩) ?_ ?_
  rotate_left; · simp only [pk, i64_w, i32_w]; rfl
  refine pure_ (i := 10) (N := some 18) (v := undef) (a' := ?_) #[I, I, I, I, I, I, I, I, I, I, I, O, O, O, O, O, O] rfl rfl (any_of HT_.out (by kernel_rfl)) (fun _ _ _ h => h) (Or.inr ⟨by rfl, rfl⟩) ?_ ?_
  rotate_left; · simp only [pk, i64_w, i32_w]; rfl
  refine pure_ (i := 11) (N := some 19) (v := undef) (a' := ?_) #[I, I, I, I, I, I, I, I, I, I, I, I, O, O, O, O, O] rfl rfl (any_of HT_.out (by kernel_rfl)) (fun _ _ _ h => h) (Or.inr ⟨by rfl, rfl⟩) ?_ ?_
  rotate_left; · simp only [pk, i64_w, i32_w]; rfl
  refine pure_ (i := 12) (N := some 20) (v := undef) (a' := ?_) #[I, I, I, I, I, I, I, I, I, I, I, I, I, O, O, O, O] rfl rfl (any_of HT_.out (by kernel_rfl)) (fun _ _ _ h => h) (Or.inr ⟨by rfl, rfl⟩) ?_ ?_
  rotate_left; · simp only [pk, i64_w, i32_w]; rfl
  refine pure_ (i := 13) (N := some 21) (v := undef) (a' := ?_) #[I, I, I, I, I, I, I, I, I, I, I, I, I, I, O, O, O] rfl rfl (any_of HT_.out (by kernel_rfl)) (fun _ _ _ h => h) (Or.inr ⟨by rfl, rfl⟩) ?_ ?_
  rotate_left; · simp only [pk, i64_w, i32_w]; rfl
  refine pure_ (i := 14) (N := some 22) (v := undef) (a' := ?_) #[I, I, I, I, I, I, I, I, I, I, I, I, I, I, I, O, O] rfl rfl (any_of HT_.out (by kernel_rfl)) (fun _ _ _ h => h) (Or.inr ⟨by rfl, rfl⟩) ?_ ?_
  rotate_left; · simp only [pk, i64_w, i32_w]; rfl
  refine pure_ (i := 15) (N := some 23) (v := undef) (a' := ?_) #[I, I, I, I, I, I, I, I, I, I, I, I, I, I, I, I, O] rfl rfl (any_of HT_.out (by kernel_rfl)) (fun _ _ _ h => h) (Or.inr ⟨by rfl, rfl⟩) ?_ ?_
  rotate_left; · simp only [pk, i64_w, i32_w]; rfl
  refine pure_ (i := 16) (N := some 24) (v := ?_) (a' := ?_) #[I, I, I, I, I, I, I, I, I, I, I, I, I, I, I, I, I] rfl rfl (any_of HT_.out (by kernel_rfl)) (fun _ _ _ h => h) (Or.inl ⟨by rfl, ?_⟩) ?_ ?_
  rotate_left; · intro w'; go_simp; with_reducible rfl
  rotate_left; · simp only [pk, i64_w, i32_w]; rfl
  refine done_ (done_of HT_.out (by kernel_rfl)) ?_
  try go_wp2
  go_ret2
  exact ⟨ez, be w⟩
 rw [if_neg c2] at H
 have c2b0 : decide ((wrap64 ((a0.size : Int) - 4)) < 0) = false := decide_eq_false c2
 clear c2
 by_cases c4 : (wrap64 ((a0.size : Int) - 4)) > 20000
 ·
  rw [if_pos c4] at H
  have c4b0 : decide (20000 < (wrap64 ((a0.size : Int) - 4))) = true := decide_eq_true c4
  clear c4
  simp only [Option.some.injEq, Prod.mk.injEq] at H
  obtain ⟨rfl, rfl⟩ := H
  go_enter Try.func14, Try.ntmps14
  try go_wp2
  replace HB := As.mk (below_drew1 HB.out)
  refine start_ (n := 17) (S := fun w' => True) (ds := []) #[O, O, O, O, O, O, O, O, O, O, O, O, O, O, O, O, O] (by kernel_rfl) rfl rfl trivial (fun hHeld => ?_); refine with_tabW impl_Unsealed.tab2 impl_Unsealed.bits2 (fun HT_ HW_ => ?_)
  generalize w.drew = w5 at HB hHeld ⊢
  refine pure_ (i := 0) (N := some 8) (v := ?_) (a' := ?_) #[I, O, O, O, O, O, O, O, O, O, O, O, O, O, O, O, O] rfl rfl (any_of HT_.out (by kernel_rfl)) (fun _ _ _ h => h) (Or.inl ⟨by rfl, ?_⟩) ?_ ?_
  rotate_left; · intro w'; go_simp; with_reducible rfl
  rotate_left; · simp only [pk, i64_w, i32_w]; rfl
  refine pure_ (i := 1) (N := some 9) (v := ?_) (a' := ?_) #[I, I, O, O, O, O, O, O, O, O, O, O, O, O, O, O, O] rfl rfl (any_of HT_.out (by kernel_rfl)) (fun _ _ _ h => h) (Or.inl ⟨by rfl, ?_⟩) ?_ ?_
  rotate_left; · intro w'; go_simp; with_reducible rfl
  rotate_left; · simp only [pk, i64_w, i32_w]; rfl
  refine pure_ (i := 2) (N := some 10) (v := ?_) (a' := ?_) #[I, I, I, O, O, O, O, O, O, O, O, O, O, O, O, O, O] rfl rfl (any_of HT_.out (by kernel_rfl)) (fun _ _ _ h => h) (Or.inl ⟨by rfl, ?_⟩) ?_ ?_
  rotate_left; · intro w'; go_simp; with_reducible rfl
  rotate_left; · simp only [pk, i64_w, i32_w]; rfl
  refine pure_ (i := 3) (N := some 11) (v := ?_) (a' := ?_) #[I, I, I, I, O, O, O, O, O, O, O, O, O, O, O, O, O] rfl rfl (any_of HT_.out (by kernel_rfl)) (fun _ _ _ h => h) (Or.inl ⟨by rfl, ?_⟩) ?_ ?_
  rotate_left; · intro w'; go_simp; with_reducible rfl
  rotate_left; · simp only [pk, i64_w, i32_w]; rfl
  refine pure_ (i := 4) (N := some 12) (v := ?_) (a' := ?_) #[I, I, I, I, I, O, O, O, O, O, O, O, O, O, O, O, O] rfl rfl (any_of HT_.out (by kernel_rfl)) (fun _ _ _ h => h) (Or.inl ⟨by rfl, ?_⟩) ?_ ?_
  rotate_left; · intro w'; go_simp; with_reducible rfl
  rotate_left; · simp only [pk, i64_w, i32_w]; rfl
  refine pure_ (i := 5) (N := some 13) (v := ?_) (a' := ?_) #[I, I, I, I, I, I, O, O, O, O, O, O, O, O, O, O, O] rfl rfl (any_of HT_.out (by kernel_rfl)) (fun _ _ _ h => h) (Or.inl ⟨by rfl, ?_⟩) ?_ ?_
  rotate_left; · intro w'; go_simp; with_reducible rfl
  rotate_left; · simp only [pk, i64_w, i32_w]; rfl
  refine pure_ (i := 6) (N := some 14) (v := ?_) (a' := ?_) #[I, I, I, I, I, I, I, O, O, O, O, O, O, O, O, O, O] rfl rfl (any_of HT_.out (by kernel_rfl)) (fun _ _ _ h => h) (Or.inl ⟨by rfl, ?_⟩) ?_ ?_
  rotate_left; · intro w'; go_simp; with_reducible rfl
  rotate_left; · simp only [pk, i64_w, i32_w]; rfl
  refine pure_ (i := 7) (N := some 15) (v := undef) (a' := ?_) #[I, I, I, I, I, I, I, I, O, O, O, O, O, O, O, O, O] rfl rfl (any_of HT_.out (by kernel_rfl)) (fun _ _ _ h => h) (Or.inr ⟨by rfl, rfl⟩) ?_ ?_
  rotate_left; · simp only [pk, i64_w, i32_w]; rfl
  refine pure_ (i := 8) (N := some 16) (v := undef) (a' := ?_) #[I, I, I, I, I, I, I, I, I, O, O, O, O, O, O, O, O] rfl rfl (any_of HT_.out (by kernel_rfl)) (fun _ _ _ h => h) (Or.inr ⟨by rfl, rfl⟩) ?_ ?_
  rotate_left; · simp only [pk, i64_w, i32_w]; rfl
  refine pure_ (i := 9) (N := some 17) (v := undef) (a' := ?_) #[I, I, I, I, I, I, I, I, I, I, O, O, O, O, O, O, O] rfl rfl (any_of HT_.out (by kernel_rfl)) (fun _ _ _ h => h) (Or.inr ⟨by rfl, rfl⟩) ?_ ?_
  rotate_left; · simp only [pk, i64_w, i32_w]; rfl
  refine pure_ (i := 10) (N := some 18) (v := undef) (a' := ?_) #[I, I, I, I, I, I, I, I, I, I, I, O, O, O, O, O, O] rfl rfl (any_of HT_.out (by kernel_rfl)) (fun _ _ _ h => h) (Or.inr ⟨by rfl, rfl⟩) ?_ ?_
  rotate_left; · simp only [pk, i64_w, i32_w]; rfl
  refine pure_ (i := 11) (N := some 19) (v := undef) (a' := ?_) #[I, I, I, I, I, I, I, I, I, I, I, I, O, O, O, O, O] rfl rfl (any_of HT_.out (by kernel_rfl)) (fun _ _ _ h => h) (Or.inr ⟨by rfl, rfl⟩) ?_ ?_
  rotate_left; · simp only [pk, i64_w, i32_w]; rfl
  refine pure_ (i := 12) (N := some 20) (v := undef) (a' := ?_) #[I, I, I, I, I, I, I, I, I, I, I, I, I, O, O, O, O] rfl rfl (any_of HT_.out (by kernel_rfl)) (fun _ _ _ h => h) (Or.inr ⟨by rfl, rfl⟩) ?_ ?_
  rotate_left; · simp only [pk, i64_w, i32_w]; rfl
  refine pure_ (i := 13) (N := some 21) (v := undef) (a' := ?_) #[I, I, I, I, I, I, I, I, I, I, I, I, I, I, O, O, O] rfl rfl (any_of HT_.out (by kernel_rfl)) (fun _ _ _ h => h) (Or.inr ⟨by rfl, rfl⟩) ?_ ?_
  rotate_left; · simp only [pk, i64_w, i32_w]; rfl
  refine pure_ (i := 14) (N := some 22) (v := undef) (a' := ?_) #[I, I, I, I, I, I, I, I, I, I, I, I, I, I, I, O, O] rfl rfl (any_of HT_.out (by kernel_rfl)) (fun _ _ _ h => h) (Or.inr ⟨by rfl, rfl⟩) ?_ ?_
  rotate_left; · simp only [pk, i64_w, i32_w]; rfl
  refine pure_ (i := 15) (N := some 23) (v := undef) (a' := ?_) #[I, I, I, I, I, I, I, I, I, I, I, I, I, I, I, I, O] rfl rfl (any_of HT_.out (by kernel_rfl)) (fun _ _ _ h => h) (Or.inr ⟨by rfl, rfl⟩) ?_ ?_
  rotate_left; · simp only [pk, i64_w, i32_w]; rfl
  refine pure_ (i := 16) (N := some 24) (v := ?_) (a' := ?_) #[I, I, I, I, I, I, I, I, I, I, I, I, I, I, I, I, I] rfl rfl (any_of HT_.out (by kernel_rfl)) (fun _ _ _ h => h) (Or.inl ⟨by rfl, ?_⟩) ?_ ?_
  rotate_left; · intro w'; go_simp; with_reducible rfl
  rotate_left; · simp only [pk, i64_w, i32_w]; rfl
  refine done_ (done_of HT_.out (by kernel_rfl)) ?_
  try go_wp2
  go_ret2
  exact ⟨ez, be w⟩
 rw [if_neg c4] at H
 have c4b0 : decide (20000 < (wrap64 ((a0.size : Int) - 4))) = false := decide_eq_false c4
 clear c4
 obtain ⟨ji6, hji6⟩ : ∃ j_ : Int, (wrap64 ((a0.size : Int) - 4)) = j_ := ⟨_, rfl⟩
 replace H : (if 0 ≤ (ji6) then (if (ji6) ≤ (a0.size : Int) then ((impl_SumOf.f k (a0.extract 0 ((ji6) : Int).toNat)).bind fun t161 => ((impl_fourBytes.f t161).bind fun t162 => (if (a0.extract ((ji6) : Int).toNat a0.size).toList = t162.toList then (some (a0.extract 0 ((ji6) : Int).toNat, true)) else (some ((⟨#[]⟩ : ByteArray), false))))) else (none)) else (none)) = some (r1, r2) := by first | (rw [hji6] at H; exact H) | (simp only [hji6] at H ⊢; exact H)
 (try rw [hji6] at c2b0)
 (try rw [hji6] at c4b0)
 have hji6w : (IntKind.i64.wrap ((a0.size : Int) - 4)) = ji6 := (i64_w _).trans hji6
 by_cases c7 : 0 ≤ (ji6)
 rotate_left; · rw [if_neg c7] at H; exact absurd H (by simp)

 rw [if_pos c7] at H
 have c7b0 := eq_true c7
 have c7b1 : decide (0 ≤ (ji6)) = true := decide_eq_true c7
 clear c7
 by_cases c8 : (ji6) ≤ (a0.size : Int)
 rotate_left; · rw [if_neg c8] at H; exact absurd H (by simp)
 rw [if_pos c8] at H
 have c8b0 := eq_true c8
 have c8b1 : decide ((ji6) ≤ (a0.size : Int)) = true := decide_eq_true c8
 clear c8
 have c9b0 := eq_true (of_decide_eq_true (by first | (with_reducible assumption) | assumption) : 0 ≤ (ji6))
 have c10b0 := eq_true (of_decide_eq_true (by first | (with_reducible assumption) | assumption) : (ji6) ≤ (a0.size : Int))
 obtain ⟨t161, A110, H⟩ := Option.bind_eq_some_iff.mp H
 try dsimp only at H
 have A11 := As.mk A110
 clear A110
 obtain ⟨t162, A120, H⟩ := Option.bind_eq_some_iff.mp H
 try dsimp only at H
 have A12 := As.mk A120
 clear A120
 by_cases c13 : (a0.extract ((ji6) : Int).toNat a0.size).toList = t162.toList
 rotate_left
 ·
  rw [if_neg c13] at H
  have c13b0 : ((a0.extract ((ji6) : Int).toNat a0.size).toList == t162.toList) = false := beq_eq_false_iff_ne.mpr c13
  have c13b1 : ((a0.extract ((ji6) : Int).toNat a0.size).toList != t162.toList) = true := bne_iff_ne.mpr c13
  simp only [Option.some.injEq, Prod.mk.injEq] at H
  obtain ⟨rfl, rfl⟩ := H
  go_enter Try.func14, Try.ntmps14
  try go_wp2
  replace HB := As.mk (below_drew1 HB.out)
  refine start_ (n := 17) (S := fun w' => True) (ds := []) #[O, O, O, O, O, O, O, O, O, O, O, O, O, O, O, O, O] (by kernel_rfl) rfl rfl trivial (fun hHeld => ?_); refine with_tabW impl_Unsealed.tab2 impl_Unsealed.bits2 (fun HT_ HW_ => ?_)
  generalize w.drew = w18 at HB hHeld ⊢
  refine pure_ (i := 0) (N := some 8) (v := ?_) (a' := ?_) #[I, O, O, O, O, O, O, O, O, O, O, O, O, O, O, O, O] rfl rfl (any_of HT_.out (by kernel_rfl)) (fun _ _ _ h => h) (Or.inl ⟨by rfl, ?_⟩) ?_ ?_
  rotate_left; · intro w'; go_simp; with_reducible rfl
  rotate_left; · simp only [pk, i64_w, i32_w]; rfl
  refine pure_ (i := 1) (N := some 9) (v := ?_) (a' := ?_) #[I, I, O, O, O, O, O, O, O, O, O, O, O, O, O, O, O] rfl rfl (any_of HT_.out (by kernel_rfl)) (fun _ _ _ h => h) (Or.inl ⟨by rfl, ?_⟩) ?_ ?_
  rotate_left; · intro w'; go_simp; with_reducible rfl
  rotate_left; · simp only [pk, i64_w, i32_w]; rfl
  refine pure_ (i := 2) (N := some 10) (v := ?_) (a' := ?_) #[I, I, I, O, O, O, O, O, O, O, O, O, O, O, O, O, O] rfl rfl (any_of HT_.out (by kernel_rfl)) (fun _ _ _ h => h) (Or.inl ⟨by rfl, ?_⟩) ?_ ?_
  rotate_left; · intro w'; go_simp; with_reducible rfl
  rotate_left; · simp only [pk, i64_w, i32_w]; rfl
  refine pure_ (i := 3) (N := some 11) (v := ?_) (a' := ?_) #[I, I, I, I, O, O, O, O, O, O, O, O, O, O, O, O, O] rfl rfl (any_of HT_.out (by kernel_rfl)) (fun _ _ _ h => h) (Or.inl ⟨by rfl, ?_⟩) ?_ ?_
  rotate_left; · intro w'; go_simp; with_reducible rfl
  rotate_left; · simp only [pk, i64_w, i32_w]; rfl
  refine pure_ (i := 4) (N := some 12) (v := ?_) (a' := ?_) #[I, I, I, I, I, O, O, O, O, O, O, O, O, O, O, O, O] rfl rfl (any_of HT_.out (by kernel_rfl)) (fun _ _ _ h => h) (Or.inl ⟨by rfl, ?_⟩) ?_ ?_
  rotate_left; · intro w'; go_simp; with_reducible rfl
  rotate_left; · simp only [pk, i64_w, i32_w]; rfl
  refine pure_ (i := 5) (N := some 13) (v := ?_) (a' := ?_) #[I, I, I, I, I, I, O, O, O, O, O, O, O, O, O, O, O] rfl rfl (any_of HT_.out (by kernel_rfl)) (fun _ _ _ h => h) (Or.inl ⟨by rfl, ?_⟩) ?_ ?_
  rotate_left; · intro w'; go_simp; with_reducible rfl
  rotate_left; · simp only [pk, i64_w, i32_w]; rfl
  refine pure_ (i := 6) (N := some 14) (v := ?_) (a' := ?_) #[I, I, I, I, I, I, I, O, O, O, O, O, O, O, O, O, O] rfl rfl (any_of HT_.out (by kernel_rfl)) (fun _ _ _ h => h) (Or.inl ⟨by rfl, ?_⟩) ?_ ?_
  rotate_left; · intro w'; go_simp; with_reducible rfl
  rotate_left; · simp only [pk, i64_w, i32_w]; rfl
  refine pure_ (i := 7) (N := some 15) (v := ?_) (a' := ?_) #[I, I, I, I, I, I, I, I, O, O, O, O, O, O, O, O, O] rfl rfl (any_of HT_.out (by kernel_rfl)) (fun _ _ _ h => h) (Or.inl ⟨by rfl, ?_⟩) ?_ ?_
  rotate_left; · intro w'; go_simp; with_reducible rfl
  rotate_left; · simp only [pk, i64_w, i32_w]; rfl
  refine pure_ (i := 8) (N := some 16) (v := ?_) (a' := ?_) #[I, I, I, I, I, I, I, I, I, O, O, O, O, O, O, O, O] rfl rfl (any_of HT_.out (by kernel_rfl)) (fun _ _ _ h => h) (Or.inl ⟨by rfl, ?_⟩) ?_ ?_
  rotate_left; · intro w'; go_simp; with_reducible rfl
  rotate_left; · simp only [pk, i64_w, i32_w]; rfl
  refine pure_ (i := 9) (N := some 17) (v := ?_) (a' := ?_) #[I, I, I, I, I, I, I, I, I, I, O, O, O, O, O, O, O] rfl rfl (any_of HT_.out (by kernel_rfl)) (fun _ _ _ h => h) (Or.inl ⟨by rfl, ?_⟩) ?_ ?_
  rotate_left; · intro w'; go_simp; with_reducible rfl
  rotate_left; · simp only [pk, i64_w, i32_w]; rfl
  refine pure_ (i := 10) (N := some 18) (v := ?_) (a' := ?_) #[I, I, I, I, I, I, I, I, I, I, I, O, O, O, O, O, O] rfl rfl (any_of HT_.out (by kernel_rfl)) (fun _ _ _ h => h) (Or.inl ⟨by rfl, ?_⟩) ?_ ?_
  rotate_left; · intro w'; go_simp; with_reducible rfl
  rotate_left; · simp only [pk, i64_w, i32_w]; rfl
  refine pure_ (i := 11) (N := some 19) (v := ?_) (a' := ?_) #[I, I, I, I, I, I, I, I, I, I, I, I, O, O, O, O, O] rfl rfl (any_of HT_.out (by kernel_rfl)) (fun _ _ _ h => h) (Or.inl ⟨by rfl, ?_⟩) ?_ ?_
  rotate_left; · intro w'; go_simp; with_reducible rfl
  rotate_left; · simp only [pk, i64_w, i32_w]; rfl
  refine pure_ (i := 12) (N := some 20) (v := ?_) (a' := ?_) #[I, I, I, I, I, I, I, I, I, I, I, I, I, O, O, O, O] rfl rfl (any_of HT_.out (by kernel_rfl)) (fun _ _ _ h => h) (Or.inl ⟨by rfl, ?_⟩) ?_ ?_
  rotate_left; · intro w'; go_simp; with_reducible rfl
  rotate_left; · simp only [pk, i64_w, i32_w]; rfl
  refine one_ (i := 13) (N := some 21) #[I, I, I, I, I, I, I, I, I, I, I, I, I, I, O, O, O] rfl rfl (one_of HT_.out (by kernel_rfl)) (by decide) (fun K hK => ?_)
  refine goes_ Try.func16 (by kernel_rfl) rfl #[.string (a0.extract 0 ((ji6) : Int).toNat)] (by rfl) rfl rfl (by (try simp only [lm]); first | done | (simp only [hji6]; rfl) | rfl | (simp only [List.length_drop, List.length_take]; rfl)) ?_
  with_reducible refine (impl_SumOf.calls k (a0.extract 0 ((ji6) : Int).toNat) t161 _ A11.out).mono ?_
  rintro e w' ⟨rfl, ⟨nd, rfl⟩⟩
  refine ⟨_, rfl, ?_⟩
  refine hK.out _ _ trivial (fun hHeld => ?_)
  clear hK K
  refine norm_ (a' := ?_) ?_ ?_
  rotate_left
  ·
   show Act.put _ (some 21) _ = _
   simp only [pk, i64_w, i32_w]
   rfl
  refine one_ (i := 14) (N := some 22) #[I, I, I, I, I, I, I, I, I, I, I, I, I, I, I, O, O] rfl rfl (one_of HT_.out (by kernel_rfl)) (by decide) (fun K hK => ?_)
  refine goes_ Try.func40 (by kernel_rfl) rfl #[.int .u32 t161] (by rfl) rfl rfl (by (try simp only [lm]); first | done | rfl | (simp only [List.length_drop, List.length_take]; rfl)) ?_
  with_reducible refine (impl_fourBytes.calls t161 t162 _ A12.out).mono ?_
  rintro e w19 ⟨rfl, hb⟩
  refine ⟨_, rfl, ?_⟩
  replace HB := As.mk (below_step (be w) hb)
  (try clear hb)
  (try clear hb2)
  (try clear hk)
  (try clear hi)
  refine hK.out _ _ trivial (fun hHeld => ?_)
  clear hK K
  refine norm_ (a' := ?_) ?_ ?_
  rotate_left
  ·
   show Act.put _ (some 22) _ = _
   simp only [pk, i64_w, i32_w]
   rfl
  refine pure_ (i := 15) (N := some 23) (v := ?_) (a' := ?_) #[I, I, I, I, I, I, I, I, I, I, I, I, I, I, I, I, O] rfl rfl (any_of HT_.out (by kernel_rfl)) (fun _ _ _ h => h) (Or.inl ⟨by rfl, ?_⟩) ?_ ?_
  rotate_left; · intro w'; go_simp; with_reducible rfl
  rotate_left; · simp only [pk, i64_w, i32_w]; rfl
  refine pure_ (i := 16) (N := some 24) (v := ?_) (a' := ?_) #[I, I, I, I, I, I, I, I, I, I, I, I, I, I, I, I, I] rfl rfl (any_of HT_.out (by kernel_rfl)) (fun _ _ _ h => h) (Or.inl ⟨by rfl, ?_⟩) ?_ ?_
  rotate_left; · intro w'; go_simp; with_reducible rfl
  rotate_left; · simp only [pk, i64_w, i32_w]; rfl
  refine done_ (done_of HT_.out (by kernel_rfl)) ?_
  try go_wp2
  go_ret2
  exact ⟨by first | rfl | (simp [errW_none, errW_some] <;> rfl) | (simp only [← hji6]; first | rfl | (simp [errW_none, errW_some] <;> rfl)) | (simp [*, errW_none, errW_some] <;> rfl), be w⟩
 rw [if_pos c13] at H
 have c13b0 : ((a0.extract ((ji6) : Int).toNat a0.size).toList == t162.toList) = true := beq_iff_eq.mpr c13
 have c13b1 : ((a0.extract ((ji6) : Int).toNat a0.size).toList != t162.toList) = false := bne_eq_false_iff_eq.mpr c13
 clear c13
 have c14b0 := eq_true (of_decide_eq_true (by first | (with_reducible assumption) | assumption) : 0 ≤ (ji6))
 have c15b0 := eq_true (of_decide_eq_true (by first | (with_reducible assumption) | assumption) : (ji6) ≤ (a0.size : Int))
 simp only [Option.some.injEq, Prod.mk.injEq] at H
 obtain ⟨rfl, rfl⟩ := H
 go_enter Try.func14, Try.ntmps14
 try go_wp2
 replace HB := As.mk (below_drew1 HB.out)
 refine start_ (n := 17) (S := fun w' => True) (ds := []) #[O, O, O, O, O, O, O, O, O, O, O, O, O, O, O, O, O] (by kernel_rfl) rfl rfl trivial (fun hHeld => ?_); refine with_tabW impl_Unsealed.tab2 impl_Unsealed.bits2 (fun HT_ HW_ => ?_)
 generalize w.drew = w16 at HB hHeld ⊢
 refine pure_ (i := 0) (N := some 8) (v := ?_) (a' := ?_) #[I, O, O, O, O, O, O, O, O, O, O, O, O, O, O, O, O] rfl rfl (any_of HT_.out (by kernel_rfl)) (fun _ _ _ h => h) (Or.inl ⟨by rfl, ?_⟩) ?_ ?_
 rotate_left; · intro w'; go_simp; with_reducible rfl
 rotate_left; · simp only [pk, i64_w, i32_w]; rfl
 refine pure_ (i := 1) (N := some 9) (v := ?_) (a' := ?_) #[I, I, O, O, O, O, O, O, O, O, O, O, O, O, O, O, O] rfl rfl (any_of HT_.out (by kernel_rfl)) (fun _ _ _ h => h) (Or.inl ⟨by rfl, ?_⟩) ?_ ?_
 rotate_left; · intro w'; go_simp; with_reducible rfl
 rotate_left; · simp only [pk, i64_w, i32_w]; rfl
 refine pure_ (i := 2) (N := some 10) (v := ?_) (a' := ?_) #[I, I, I, O, O, O, O, O, O, O, O, O, O, O, O, O, O] rfl rfl (any_of HT_.out (by kernel_rfl)) (fun _ _ _ h => h) (Or.inl ⟨by rfl, ?_⟩) ?_ ?_
 rotate_left; · intro w'; go_simp; with_reducible rfl
 rotate_left; · simp only [pk, i64_w, i32_w]; rfl
 refine pure_ (i := 3) (N := some 11) (v := ?_) (a' := ?_) #[I, I, I, I, O, O, O, O, O, O, O, O, O, O, O, O, O] rfl rfl (any_of HT_.out (by kernel_rfl)) (fun _ _ _ h => h) (Or.inl ⟨by rfl, ?_⟩) ?_ ?_
 rotate_left; · intro w'; go_simp; with_reducible rfl
 rotate_left; · simp only [pk, i64_w, i32_w]; rfl
 refine pure_ (i := 4) (N := some 12) (v := ?_) (a' := ?_) #[I, I, I, I, I, O, O, O, O, O, O, O, O, O, O, O, O] rfl rfl (any_of HT_.out (by kernel_rfl)) (fun _ _ _ h => h) (Or.inl ⟨by rfl, ?_⟩) ?_ ?_
 rotate_left; · intro w'; go_simp; with_reducible rfl
 rotate_left; · simp only [pk, i64_w, i32_w]; rfl
 refine pure_ (i := 5) (N := some 13) (v := ?_) (a' := ?_) #[I, I, I, I, I, I, O, O, O, O, O, O, O, O, O, O, O] rfl rfl (any_of HT_.out (by kernel_rfl)) (fun _ _ _ h => h) (Or.inl ⟨by rfl, ?_⟩) ?_ ?_
 rotate_left; · intro w'; go_simp; with_reducible rfl
 rotate_left; · simp only [pk, i64_w, i32_w]; rfl
 refine pure_ (i := 6) (N := some 14) (v := ?_) (a' := ?_) #[I, I, I, I, I, I, I, O, O, O, O, O, O, O, O, O, O] rfl rfl (any_of HT_.out (by kernel_rfl)) (fun _ _ _ h => h) (Or.inl ⟨by rfl, ?_⟩) ?_ ?_
 rotate_left; · intro w'; go_simp; with_reducible rfl
 rotate_left; · simp only [pk, i64_w, i32_w]; rfl
 refine pure_ (i := 7) (N := some 15) (v := ?_) (a' := ?_) #[I, I, I, I, I, I, I, I, O, O, O, O, O, O, O, O, O] rfl rfl (any_of HT_.out (by kernel_rfl)) (fun _ _ _ h => h) (Or.inl ⟨by rfl, ?_⟩) ?_ ?_
 rotate_left; · intro w'; go_simp; with_reducible rfl
 rotate_left; · simp only [pk, i64_w, i32_w]; rfl
 refine pure_ (i := 8) (N := some 16) (v := ?_) (a' := ?_) #[I, I, I, I, I, I, I, I, I, O, O, O, O, O, O, O, O] rfl rfl (any_of HT_.out (by kernel_rfl)) (fun _ _ _ h => h) (Or.inl ⟨by rfl, ?_⟩) ?_ ?_
 rotate_left; · intro w'; go_simp; with_reducible rfl
 rotate_left; · simp only [pk, i64_w, i32_w]; rfl
 refine pure_ (i := 9) (N := some 17) (v := ?_) (a' := ?_) #[I, I, I, I, I, I, I, I, I, I, O, O, O, O, O, O, O] rfl rfl (any_of HT_.out (by kernel_rfl)) (fun _ _ _ h => h) (Or.inl ⟨by rfl, ?_⟩) ?_ ?_
 rotate_left; · intro w'; go_simp; with_reducible rfl
 rotate_left; · simp only [pk, i64_w, i32_w]; rfl
 refine pure_ (i := 10) (N := some 18) (v := ?_) (a' := ?_) #[I, I, I, I, I, I, I, I, I, I, I, O, O, O, O, O, O] rfl rfl (any_of HT_.out (by kernel_rfl)) (fun _ _ _ h => h) (Or.inl ⟨by rfl, ?_⟩) ?_ ?_
 rotate_left; · intro w'; go_simp; with_reducible rfl
 rotate_left; · simp only [pk, i64_w, i32_w]; rfl
 refine pure_ (i := 11) (N := some 19) (v := ?_) (a' := ?_) #[I, I, I, I, I, I, I, I, I, I, I, I, O, O, O, O, O] rfl rfl (any_of HT_.out (by kernel_rfl)) (fun _ _ _ h => h) (Or.inl ⟨by rfl, ?_⟩) ?_ ?_
 rotate_left; · intro w'; go_simp; with_reducible rfl
 rotate_left; · simp only [pk, i64_w, i32_w]; rfl
 refine pure_ (i := 12) (N := some 20) (v := ?_) (a' := ?_) #[I, I, I, I, I, I, I, I, I, I, I, I, I, O, O, O, O] rfl rfl (any_of HT_.out (by kernel_rfl)) (fun _ _ _ h => h) (Or.inl ⟨by rfl, ?_⟩) ?_ ?_
 rotate_left; · intro w'; go_simp; with_reducible rfl
 rotate_left; · simp only [pk, i64_w, i32_w]; rfl
 refine one_ (i := 13) (N := some 21) #[I, I, I, I, I, I, I, I, I, I, I, I, I, I, O, O, O] rfl rfl (one_of HT_.out (by kernel_rfl)) (by decide) (fun K hK => ?_)
 refine goes_ Try.func16 (by kernel_rfl) rfl #[.string (a0.extract 0 ((ji6) : Int).toNat)] (by rfl) rfl rfl (by (try simp only [lm]); first | done | (simp only [hji6]; rfl) | rfl | (simp only [List.length_drop, List.length_take]; rfl)) ?_
 with_reducible refine (impl_SumOf.calls k (a0.extract 0 ((ji6) : Int).toNat) t161 _ A11.out).mono ?_
 rintro e w' ⟨rfl, ⟨nd, rfl⟩⟩
 refine ⟨_, rfl, ?_⟩
 refine hK.out _ _ trivial (fun hHeld => ?_)
 clear hK K
 refine norm_ (a' := ?_) ?_ ?_
 rotate_left
 ·
  show Act.put _ (some 21) _ = _
  simp only [pk, i64_w, i32_w]
  rfl
 refine one_ (i := 14) (N := some 22) #[I, I, I, I, I, I, I, I, I, I, I, I, I, I, I, O, O] rfl rfl (one_of HT_.out (by kernel_rfl)) (by decide) (fun K hK => ?_)
 refine goes_ Try.func40 (by kernel_rfl) rfl #[.int .u32 t161] (by rfl) rfl rfl (by (try simp only [lm]); first | done | rfl | (simp only [List.length_drop, List.length_take]; rfl)) ?_
 with_reducible refine (impl_fourBytes.calls t161 t162 _ A12.out).mono ?_
 rintro e w17 ⟨rfl, hb⟩
 refine ⟨_, rfl, ?_⟩
 replace HB := As.mk (below_step (be w) hb)
 (try clear hb)
 (try clear hb2)
 (try clear hk)
 (try clear hi)
 refine hK.out _ _ trivial (fun hHeld => ?_)
 clear hK K
 refine norm_ (a' := ?_) ?_ ?_
 rotate_left
 ·
  show Act.put _ (some 22) _ = _
  simp only [pk, i64_w, i32_w]
  rfl
 refine pure_ (i := 15) (N := some 23) (v := ?_) (a' := ?_) #[I, I, I, I, I, I, I, I, I, I, I, I, I, I, I, I, O] rfl rfl (any_of HT_.out (by kernel_rfl)) (fun _ _ _ h => h) (Or.inl ⟨by rfl, ?_⟩) ?_ ?_
 rotate_left; · intro w'; go_simp; with_reducible rfl
 rotate_left; · simp only [pk, i64_w, i32_w]; rfl
 refine pure_ (i := 16) (N := some 24) (v := ?_) (a' := ?_) #[I, I, I, I, I, I, I, I, I, I, I, I, I, I, I, I, I] rfl rfl (any_of HT_.out (by kernel_rfl)) (fun _ _ _ h => h) (Or.inl ⟨by rfl, ?_⟩) ?_ ?_
 rotate_left; · intro w'; go_simp; with_reducible rfl
 rotate_left; · simp only [pk, i64_w, i32_w]; rfl
 refine done_ (done_of HT_.out (by kernel_rfl)) ?_
 try go_wp2
 go_ret2
 exact ⟨by first | rfl | (simp [errW_none, errW_some] <;> rfl) | (simp only [← hji6]; first | rfl | (simp [errW_none, errW_some] <;> rfl)) | (simp [*, errW_none, errW_some] <;> rfl), be w⟩
/-! ### laws_FnTurned: function 3 -/
def laws_FnTurned.j0 : Nat → ByteArray → List Int → ByteArray → Bool → Option (Bool)
 | 0, _, _, _, _ => none
 | k + 1, x3, x4, x5, x47 => if x47 = true then (some false) else (if x5.size ≤ 9223372036854775807 then ((some (bytesL x5 : List Int)).bind fun y172 => (if 0 < (x4.length : Int) then (if (y172.length : Int) = 0 then (none) else (if 0 ≤ (Int.tmod (rd x4 0) (y172.length : Int)) then (if (Int.tmod (rd x4 0) (y172.length : Int)) < (y172.length : Int) then (if 1 < (x4.length : Int) then ((impl_Unsealed.f k (strOfNums (y172.set ((Int.tmod (rd x4 0) (y172.length : Int)) : Int).toNat (Go.bits .xor .u8 (rd y172 (Int.tmod (rd x4 0) (y172.length : Int))) ((wrap64 (1 + (Int.tmod (rd x4 1) 255))) % 256))))).bind fun bt179 => (if bt179.2 = true then (some false) else ((impl_SumOf.f k x3).bind fun t181 => ((impl_SumMore.f k t181 (⟨#[120]⟩ : ByteArray)).bind fun t182 => (if x3.size + 1 ≤ 9223372036854775807 then ((impl_SumOf.f k (x3 ++ (⟨#[120]⟩ : ByteArray))).bind fun t183 => (some (t182 == t183))) else (none)))))) else (none)) else (none)) else (none))) else (none))) else (none))
def laws_FnTurned.f (k : Nat) (l0 : List Int) : Option (Bool) := (laws_big.f l0).bind fun t163 => (if t163 = true then (some true) else ((spec_DrawSumOf.f k l0).bind fun t164 => ((spec_DrawPlaces.f k l0).bind fun t165 => ((impl_Sealed.f k t164).bind fun bt168 => ((impl_Unsealed.f k bt168.1).bind fun bt170 => (if bt168.2 = true then (if bt170.2 = true then (if bt170.1.toList = t164.toList then (laws_FnTurned.j0 k t164 t165 bt168.1 ((bt168.1.size : Int) != (wrap64 ((t164.size : Int) + 4)))) else (laws_FnTurned.j0 k t164 t165 bt168.1 true)) else (laws_FnTurned.j0 k t164 t165 bt168.1 true)) else (laws_FnTurned.j0 k t164 t165 bt168.1 true)))))))
theorem laws_FnTurned.mono_l : ∀ k, (∀ y0 y1 y2 y3, LeO (laws_FnTurned.j0 k y0 y1 y2 y3) (laws_FnTurned.j0 (k + 1) y0 y1 y2 y3))
 | 0 => fun _ _ _ _ r h => by simp [laws_FnTurned.j0] at h
 | k + 1 => by
  have ih0 := laws_FnTurned.mono_l k
  ·
   intro y0 y1 y2 y3
   unfold laws_FnTurned.j0
   with_reducible repeat' first | exact ih0 _ _ _ _ | exact impl_Sealed.mono _ _ | exact impl_SumMore.mono _ _ _ | exact impl_SumOf.mono _ _ | exact impl_Unsealed.mono _ _ | exact spec_DrawPlaces.mono _ _ | exact spec_DrawSumOf.mono _ _ | exact LeO.refl _ | exact LeO.none _ | refine LeO.ite ?_ ?_ | refine LeO.bind ?_ (fun _ => ?_)
theorem laws_FnTurned.mono : ∀ a0 k, LeO (laws_FnTurned.f k a0) (laws_FnTurned.f (k + 1) a0) := by
 intro a0 k
 have ih0 := laws_FnTurned.mono_l k
 unfold laws_FnTurned.f
 with_reducible repeat' first | exact ih0 _ _ _ _ | exact impl_Sealed.mono _ _ | exact impl_SumMore.mono _ _ _ | exact impl_SumOf.mono _ _ | exact impl_Unsealed.mono _ _ | exact spec_DrawPlaces.mono _ _ | exact spec_DrawSumOf.mono _ _ | exact LeO.refl _ | exact LeO.none _ | refine LeO.ite ?_ ?_ | refine LeO.bind ?_ (fun _ => ?_)
def laws_FnTurned.T11 : Bool × List (List Nat × List Nat) := (true, [([], []), ([], []), ([], []), ([], []), ([2, 3], [2, 3]), ([4], [4]), ([], []), ([6], [6]), ([7], [7]), ([8], [8]), ([9], [9]), ([10], [10]), ([5, 11], [5, 11]), ([0, 1, 0, 1, 2, 3, 4, 5, 6, 7, 8, 9, 10, 11, 12], [0, 1]), ([13, 12, 0, 1, 2, 3, 4, 5, 6, 7, 8, 9, 10, 11, 12], [12, 13])])
def laws_FnTurned.B11 : List Nat := [0, 0, 0, 0, 12, 28, 0, 64, 192, 448, 960, 1984, 4092, 8191, 16383]
theorem laws_FnTurned.tab11 : rtab .any (opsOf Try.f3 11) = laws_FnTurned.T11 := by kernel_rfl
theorem laws_FnTurned.bits11 : waitsOk laws_FnTurned.T11.2 laws_FnTurned.B11 = true := by kernel_rfl
set_option maxHeartbeats 8000000 in
set_option maxRecDepth 100000 in
theorem laws_FnTurned.calls (k : Nat) (A0 : Option Addr) (c0 : Nat) (l0 : List Int) (r : Bool) (w : World) (hr0 : Kd.C (Kd.int .u8) w A0 l0.length l0) (hc0 : l0.length ≤ c0) (h : laws_FnTurned.f k l0 = some r) :
  Calls Try.prog 3 #[.slice A0 l0.length c0] w fun e w' => e = .returned (.bool r) ∧ Below w.heap.size w w' := by
 have HR0 := As.mk hr0
 have HC0 := As.mk hc0
 clear hr0 hc0
 have HB := As.mk (Below.refl w.heap.size w)
 have H : ((laws_big.f l0).bind fun t163 => (if t163 = true then (some true) else ((spec_DrawSumOf.f k l0).bind fun t164 => ((spec_DrawPlaces.f k l0).bind fun t165 => ((impl_Sealed.f k t164).bind fun bt168 => ((impl_Unsealed.f k bt168.1).bind fun bt170 => (if bt168.2 = true then (if bt170.2 = true then (if bt170.1.toList = t164.toList then (laws_FnTurned.j0 k t164 t165 bt168.1 ((bt168.1.size : Int) != (wrap64 ((t164.size : Int) + 4)))) else (laws_FnTurned.j0 k t164 t165 bt168.1 true)) else (laws_FnTurned.j0 k t164 t165 bt168.1 true)) else (laws_FnTurned.j0 k t164 t165 bt168.1 true)))))))) = some r := h
 clear h
 obtain ⟨t163, A20, H⟩ := Option.bind_eq_some_iff.mp H
 try dsimp only at H
 have A2 := As.mk A20
 clear A20
 by_cases c3 : t163 = true
 ·
  subst c3
  rw [if_pos rfl] at H
  obtain rfl := Option.some.inj H
  go_enter Try.func3, Try.ntmps3
  go_wp2_with (first | ((with_reducible refine gate_callee (f := 10) rfl ?_); refine goesL_ (some 14) rfl rfl Try.func10 (by kernel_rfl) rfl #[.slice A0 l0.length c0] rfl (by (try simp only [lm]); first | done | rfl | (simp only [List.length_drop, List.length_take]; rfl)) ?_; (with_reducible refine (laws_big.calls _ _ l0 true _ ?side1 ?side2 A2.out).mono ?_); (case side1 => repeat (first | exact HR0.out | (with_reducible refine Kd.C_alloc ?_ _) | (with_reducible refine Kd.C_drewN ?_ _) | (with_reducible refine Kd.C_drew ?_))); (case side2 => exact HC0.out); rintro e w' ⟨rfl, ⟨nd, rfl⟩⟩; refine ⟨_, rfl, ?_⟩))
  go_ret
  exact ⟨ez, be w⟩
 replace c3 := Bool.eq_false_iff.mpr c3
 subst c3
 rw [if_neg (show ¬ (false = true) by decide)] at H
 obtain ⟨t164, A40, H⟩ := Option.bind_eq_some_iff.mp H
 try dsimp only at H
 have A4 := As.mk A40
 clear A40
 obtain ⟨t165, A50, H⟩ := Option.bind_eq_some_iff.mp H
 try dsimp only at H
 have A5 := As.mk A50
 clear A50
 obtain ⟨⟨t168, t169⟩, A60, H⟩ := Option.bind_eq_some_iff.mp H
 try dsimp only at H
 have A6 := As.mk A60
 clear A60
 obtain ⟨⟨t170, t171⟩, A70, H⟩ := Option.bind_eq_some_iff.mp H
 try dsimp only at H
 have A7 := As.mk A70
 clear A70
 have HC8 := As.mk H
 clear H
 go_enter Try.func3, Try.ntmps3
 go_upto_region 7 with (first | ((with_reducible refine gate_callee (f := 10) rfl ?_); refine goesL_ (some 14) rfl rfl Try.func10 (by kernel_rfl) rfl #[.slice A0 l0.length c0] rfl (by (try simp only [lm]); first | done | rfl | (simp only [List.length_drop, List.length_take]; rfl)) ?_; (with_reducible refine (laws_big.calls _ _ l0 false _ ?side1 ?side2 A2.out).mono ?_); (case side1 => repeat (first | exact HR0.out | (with_reducible refine Kd.C_alloc ?_ _) | (with_reducible refine Kd.C_drewN ?_ _) | (with_reducible refine Kd.C_drew ?_))); (case side2 => exact HC0.out); rintro e w' ⟨rfl, ⟨nd, rfl⟩⟩; refine ⟨_, rfl, ?_⟩) | ((with_reducible refine gate_callee (f := 11) rfl ?_); refine goesL_ (some 16) rfl rfl Try.func11 (by kernel_rfl) rfl #[.slice A0 l0.length c0] rfl (by (try simp only [lm]); first | done | rfl | (simp only [List.length_drop, List.length_take]; rfl)) ?_; (with_reducible refine (spec_DrawSumOf.calls k _ _ l0 t164 _ ?side1 ?side2 A4.out).mono ?_); (case side1 => repeat (first | exact HR0.out | (with_reducible refine Kd.C_alloc ?_ _) | (with_reducible refine Kd.C_drewN ?_ _) | (with_reducible refine Kd.C_drew ?_))); (case side2 => exact HC0.out); rintro e w9 ⟨rfl, hb⟩; refine ⟨_, rfl, ?_⟩; replace HB := As.mk (below_step (be w) hb); (try clear hb); (try clear hb2); (try clear hk); (try clear hi)) | ((with_reducible refine gate_callee (f := 12) rfl ?_); refine goesL_ (some 18) rfl rfl Try.func12 (by kernel_rfl) rfl #[.slice A0 l0.length c0] rfl (by (try simp only [lm]); first | done | rfl | (simp only [List.length_drop, List.length_take]; rfl)) ?_; (with_reducible refine (spec_DrawPlaces.calls k _ _ l0 t165 _ ?side1 ?side2 A5.out).mono ?_); (case side1 => exact Kd.C_below HR0.out (be w)); (case side2 => exact HC0.out); rintro e w10 ⟨v166, rfl, ho0, hb⟩; refine ⟨_, rfl, ?_⟩; have HO167 := As.mk (Kd.R_lower ho0 (below_size (be w))); replace HB := As.mk (below_step (be w) hb); (try clear hb); (try clear hb2); (try clear hk); (try clear hi); (try clear ho0)) | ((with_reducible refine gate_callee (f := 13) rfl ?_); refine goesL_ (some 21) rfl rfl Try.func13 (by kernel_rfl) rfl #[.string t164] rfl (by (try simp only [lm]); first | done | rfl | (simp only [List.length_drop, List.length_take]; rfl)) ?_; (with_reducible refine (impl_Sealed.calls k t164 t168 t169 _ A6.out).mono ?_); rintro e w11 ⟨rfl, hb⟩; refine ⟨_, rfl, ?_⟩; replace HO167 := As.mk (Kd.R_below (by (with_reducible repeat (first | apply Kd.R_alloc | apply Kd.R_drewN | apply Kd.R_drew)); exact HO167.out) hb); replace HB := As.mk (below_step (be w) hb); (try clear hb); (try clear hb2); (try clear hk); (try clear hi)) | ((with_reducible refine gate_callee (f := 14) rfl ?_); refine goesL_ (some 26) rfl rfl Try.func14 (by kernel_rfl) rfl #[.string t168] rfl (by (try simp only [lm]); first | done | rfl | (simp only [List.length_drop, List.length_take]; rfl)) ?_; (with_reducible refine (impl_Unsealed.calls k t168 t170 t171 _ A7.out).mono ?_); rintro e w12 ⟨rfl, hb⟩; refine ⟨_, rfl, ?_⟩; replace HO167 := As.mk (Kd.R_below (by (with_reducible repeat (first | apply Kd.R_alloc | apply Kd.R_drewN | apply Kd.R_drew)); exact HO167.out) hb); replace HB := As.mk (below_step (be w) hb); (try clear hb); (try clear hb2); (try clear hk); (try clear hi)))
 (try simp only [pk])
 go_cut [47] (fun v47 wc => ∃ (kq : Nat) (x47_7 : Bool), v47 = .bool x47_7 ∧ As (laws_FnTurned.j0 kq t164 t165 t168 x47_7 = some r) ∧ As (kq ≤ k) ∧ As (Kd.R (Kd.int .i64) 3 wc w.heap.size (fun _ => True) v166 t165) ∧ As (Below w.heap.size w wc))
 case first =>
  have H := HC8.out
  clear HC8
  by_cases c13 : t169 = true
  rotate_left
  ·
   replace c13 := Bool.eq_false_iff.mpr c13
   subst c13
   rw [if_neg (show ¬ (false = true) by decide)] at H
   have H' := As.mk H
   clear H
   go_wp2
   go_meet
   case rel => exact ⟨_, (true), (by first | rfl | (simp; done) | (simp [*]; done)), H', ⟨by first | omega | exact Nat.le_refl _⟩, ⟨by (with_reducible repeat (first | apply Kd.R_alloc | apply Kd.R_drewN | apply Kd.R_drew)); exact HO167.out⟩, ⟨be w⟩⟩
  subst c13
  rw [if_pos rfl] at H
  by_cases c14 : t171 = true
  rotate_left
  ·
   replace c14 := Bool.eq_false_iff.mpr c14
   subst c14
   rw [if_neg (show ¬ (false = true) by decide)] at H
   have H' := As.mk H
   clear H
   go_wp2
   go_meet
   case rel => exact ⟨_, (true), (by first | rfl | (simp; done) | (simp [*]; done)), H', ⟨by first | omega | exact Nat.le_refl _⟩, ⟨by (with_reducible repeat (first | apply Kd.R_alloc | apply Kd.R_drewN | apply Kd.R_drew)); exact HO167.out⟩, ⟨be w⟩⟩
  subst c14
  rw [if_pos rfl] at H
  by_cases c15 : t170.toList = t164.toList
  rotate_left
  ·
   rw [if_neg c15] at H
   have c15b0 : (t170.toList == t164.toList) = false := beq_eq_false_iff_ne.mpr c15
   have c15b1 : (t170.toList != t164.toList) = true := bne_iff_ne.mpr c15
   (first | rw [c15b0] | (simp only [i64_w, i32_w]; rw [c15b0]) | skip)
   have H' := As.mk H
   clear H
   go_wp2
   go_meet
   case rel => exact ⟨_, (true), (by first | rfl | (simp; done) | (simp [*]; done)), H', ⟨by first | omega | exact Nat.le_refl _⟩, ⟨by (with_reducible repeat (first | apply Kd.R_alloc | apply Kd.R_drewN | apply Kd.R_drew)); exact HO167.out⟩, ⟨be w⟩⟩
  rw [if_pos c15] at H
  have c15b0 : (t170.toList == t164.toList) = true := beq_iff_eq.mpr c15
  have c15b1 : (t170.toList != t164.toList) = false := bne_eq_false_iff_eq.mpr c15
  clear c15
  (first | rw [c15b0] | (simp only [i64_w, i32_w]; rw [c15b0]) | skip)
  have H' := As.mk H
  clear H
  go_wp2
  go_meet
  case rel => exact ⟨_, (((t168.size : Int) != (wrap64 ((t164.size : Int) + 4)))), (by first | rfl | (simp; done) | (simp [*]; done)), H', ⟨by first | omega | exact Nat.le_refl _⟩, ⟨by (with_reducible repeat (first | apply Kd.R_alloc | apply Kd.R_drewN | apply Kd.R_drew)); exact HO167.out⟩, ⟨be w⟩⟩
 case rest =>
  clear HC8
  (try clear c3)
  obtain ⟨kq, x47_7, rfl, HA, HJ7, HO_4, HB⟩ := hcut
  cases kq with
  | zero => exact absurd HA.out (by simp [laws_FnTurned.j0])
  | succ kj7 =>
   have H := HA.out
   clear HA
   simp only [laws_FnTurned.j0] at H
   by_cases c16 : x47_7 = true
   ·
    subst c16
    rw [if_pos rfl] at H
    obtain rfl := Option.some.inj H
    go_wp2
    go_ret
    exact ⟨ez, be w⟩
   replace c16 := Bool.eq_false_iff.mpr c16
   subst c16
   rw [if_neg (show ¬ (false = true) by decide)] at H
   by_cases c17 : t168.size ≤ 9223372036854775807
   rotate_left; · rw [if_neg c17] at H; exact absurd H (by simp)

   rw [if_pos c17] at H
   have c17b0 := eq_true c17
   have c17b1 : decide (t168.size ≤ 9223372036854775807) = true := decide_eq_true c17
   try have c17b2 : (9223372036854775807 < t168.size) = False := eq_false (Nat.not_lt.2 c17)
   clear c17
   obtain ⟨y172, hy172⟩ : ∃ y_ : List Int, y_ = (bytesL t168) := ⟨_, rfl⟩
   replace H : (if 0 < (t165.length : Int) then (if (y172.length : Int) = 0 then (none) else (if 0 ≤ (Int.tmod (rd t165 0) (y172.length : Int)) then (if (Int.tmod (rd t165 0) (y172.length : Int)) < (y172.length : Int) then (if 1 < (t165.length : Int) then ((impl_Unsealed.f kj7 (strOfNums (y172.set ((Int.tmod (rd t165 0) (y172.length : Int)) : Int).toNat (Go.bits .xor .u8 (rd y172 (Int.tmod (rd t165 0) (y172.length : Int))) ((wrap64 (1 + (Int.tmod (rd t165 1) 255))) % 256))))).bind fun bt179 => (if bt179.2 = true then (some false) else ((impl_SumOf.f kj7 t164).bind fun t181 => ((impl_SumMore.f kj7 t181 (⟨#[120]⟩ : ByteArray)).bind fun t182 => (if t164.size + 1 ≤ 9223372036854775807 then ((impl_SumOf.f kj7 (t164 ++ (⟨#[120]⟩ : ByteArray))).bind fun t183 => (some (t182 == t183))) else (none)))))) else (none)) else (none)) else (none))) else (none)) = some r := by first | (rw [hy172]; with_reducible exact H) | (have H2_ := (Option.bind_some _ _).symm.trans H; rw [hy172]; with_reducible exact H2_) | (have H2_ := (Option.bind_some _ _).symm.trans H; with_reducible exact H2_) | with_reducible exact H | (rw [hy172]; exact H) | exact H
   have Ny172 := As.mk hy172
   clear hy172
   by_cases c18 : 0 < (t165.length : Int)
   rotate_left; · rw [if_neg c18] at H; exact absurd H (by simp)
   rw [if_pos c18] at H
   have c18b0 : decide (0 < (t165.length : Int)) = true := decide_eq_true c18
   have c18b1 : decide (0 < t165.length) = true := decide_eq_true (by omega)
   clear c18
   by_cases c19 : (y172.length : Int) = 0
   · rw [if_pos c19] at H; exact absurd H (by simp)
   rw [if_neg c19] at H
   have c19b0 : ((y172.length : Int) == 0) = false := beq_eq_false_iff_ne.mpr c19
   have c19b1 : ((y172.length : Int) != 0) = true := bne_iff_ne.mpr c19
   have c19b2 : ¬ (y172 = []) := fun h_ => c19 (by rw [h_]; rfl)
   obtain ⟨ji20, hji20⟩ : ∃ j_ : Int, (Int.tmod (rd t165 0) (y172.length : Int)) = j_ := ⟨_, rfl⟩
   replace H : (if 0 ≤ (ji20) then (if (ji20) < (y172.length : Int) then (if 1 < (t165.length : Int) then ((impl_Unsealed.f kj7 (strOfNums (y172.set ((ji20) : Int).toNat (Go.bits .xor .u8 (rd y172 (ji20)) ((wrap64 (1 + (Int.tmod (rd t165 1) 255))) % 256))))).bind fun bt179 => (if bt179.2 = true then (some false) else ((impl_SumOf.f kj7 t164).bind fun t181 => ((impl_SumMore.f kj7 t181 (⟨#[120]⟩ : ByteArray)).bind fun t182 => (if t164.size + 1 ≤ 9223372036854775807 then ((impl_SumOf.f kj7 (t164 ++ (⟨#[120]⟩ : ByteArray))).bind fun t183 => (some (t182 == t183))) else (none)))))) else (none)) else (none)) else (none)) = some r := by first | (rw [hji20] at H; exact H) | (simp only [hji20] at H ⊢; exact H)
   by_cases c21 : 0 ≤ (ji20)
   rotate_left; · rw [if_neg c21] at H; exact absurd H (by simp)
   rw [if_pos c21] at H
   have c21b0 : decide (0 ≤ (ji20)) = true := decide_eq_true c21
   clear c21
   by_cases c22 : (ji20) < (y172.length : Int)
   rotate_left; · rw [if_neg c22] at H; exact absurd H (by simp)
   rw [if_pos c22] at H
   have c22b0 : decide ((ji20) < (y172.length : Int)) = true := decide_eq_true c22
   clear c22
   by_cases c23 : 1 < (t165.length : Int)
   rotate_left; · rw [if_neg c23] at H; exact absurd H (by simp)
   rw [if_pos c23] at H
   have c23b0 : decide (1 < (t165.length : Int)) = true := decide_eq_true c23
   have c23b1 : decide (1 < t165.length) = true := decide_eq_true (by omega)
   clear c23
   obtain ⟨y178, hy178⟩ : ∃ y_ : List Int, y_ = (y172.set ((ji20) : Int).toNat (Go.bits .xor .u8 (rd y172 (ji20)) ((wrap64 (1 + (Int.tmod (rd t165 1) 255))) % 256))) := ⟨_, rfl⟩
   replace H : ((impl_Unsealed.f kj7 (strOfNums y178)).bind fun bt179 => (if bt179.2 = true then (some false) else ((impl_SumOf.f kj7 t164).bind fun t181 => ((impl_SumMore.f kj7 t181 (⟨#[120]⟩ : ByteArray)).bind fun t182 => (if t164.size + 1 ≤ 9223372036854775807 then ((impl_SumOf.f kj7 (t164 ++ (⟨#[120]⟩ : ByteArray))).bind fun t183 => (some (t182 == t183))) else (none)))))) = some r := by first | (rw [hy178]; with_reducible exact H) | (have H2_ := (Option.bind_some _ _).symm.trans H; rw [hy178]; with_reducible exact H2_) | (have H2_ := (Option.bind_some _ _).symm.trans H; with_reducible exact H2_) | with_reducible exact H | (rw [hy178]; exact H) | exact H
   have Ny178 := As.mk hy178
   clear hy178
   obtain ⟨⟨t179, t180⟩, A250, H⟩ := Option.bind_eq_some_iff.mp H
   try dsimp only at H
   have A25 := As.mk A250
   clear A250
   by_cases c26 : t180 = true
   ·
    subst c26
    rw [if_pos rfl] at H
    obtain rfl := Option.some.inj H
    go_wp2
    have hcvb := Lib.run_convert_string_bytes (P := Try.prog) wc 9 22 5 t168 Try.underlying9 Try.underlying22 Try.underlying5
    have ho28 := BR_new (e := 5) wc t168 (of_decide_eq_true (by assumption))
    have hb := bytes_below (e := 5) wc t168
    rw [hcvb]
    clear hcvb
    generalize Lib.bytesWorld wc 5 t168 = w27 at ho28 hb ⊢
    generalize (Value.slice (some ⟨wc.heap.size, 0, none⟩) t168.size (grownCap wc t168.size 0 5)) = v173 at ho28 ⊢
    (first | rw [← Ny172.out] at ho28 | (simp only [Int.reduceToNat] at ho28; rw [← Ny172.out] at ho28)); replace HO_4 := As.mk (Kd.R_below (by (with_reducible repeat (first | apply Kd.R_alloc | apply Kd.R_drewN | apply Kd.R_drew)); exact HO_4.out) hb); have HO174 := As.mk (BR_lower ho28 (below_size (be w))); replace HB := As.mk (below_step (be w) hb); clear hb ho28; obtain ⟨Ao29, co29, eo29⟩ := Kd.R_slice HO_4.out; subst eo29; have p175 : 0 ≤ (0 : Int) := (by omega); have q175 : 0 < (t165.length : Int) := od; obtain ⟨ad175, e175, hx175_0⟩ := Kd.at_int (Kd.R_reads' HO_4.out).2.2 0 p175 q175; cases e175; have qi175 : (0 < t165.length) = True := eq_true (by omega); (try rw [show ((0 : Int)).toNat = 0 from rfl] at hx175_0); (try rw [Addr.add_zero'] at hx175_0); replace p175 := eq_true p175; replace q175 := eq_true q175; obtain ⟨Ao30, co30, eo30⟩ := BR_slice HO174.out; subst eo30
    go_wp2
    replace HO_4 := As.mk (Kd.R_drew HO_4.out)
    replace HO174 := As.mk (BR_drew HO174.out)
    replace HB := As.mk (below_drew1 HB.out)
    have p176 : 0 ≤ ((ji20) : Int) := od
    have q176 : (ji20) < (y172.length : Int) := od
    obtain ⟨ad176, e176, hx176_0⟩ := Kd.at_int (BR_reads HO174.out).2.2 (ji20) p176 q176
    cases e176
    replace p176 := eq_true p176
    replace q176 := eq_true q176
    have p177 : 0 ≤ (1 : Int) := (by omega)
    have q177 : 1 < (t165.length : Int) := od
    obtain ⟨ad177, e177, hx177_0⟩ := Kd.at_int (Kd.R_reads' HO_4.out).2.2 1 p177 q177
    obtain rfl : ad175 = ad177 := (by injection e177)
    (try simp only [show (1 : Int).toNat = 1 from rfl, Nat.reduceMul, Nat.reduceEqDiff, Go.Addr.add, ↓reduceIte] at hx177_0)
    have qi177 : (1 < t165.length) = True := eq_true (by omega)
    (try rw [show ((1 : Int)).toNat = 1 from rfl] at hx177_0)
    replace p177 := eq_true p177
    replace q177 := eq_true q177
    have p24 : 0 ≤ ((ji20) : Int) := od
    have q24 : ((ji20) : Int) < ((y172.length : Int) : Int) := od
    obtain ⟨go24, co24, eo24, gb24, gl24, cl24, HG24⟩ := BR_form HO174.out (by omega)
    (first | cases eo24 | (injection eo24 with ea_ en_ ec_; (first | subst ea_ | (injection ea_ with ea_; subst ea_)); subst ec_; clear en_))
    have GB24 := As.mk gb24
    have GG24 := As.mk HG24
    clear gb24 gl24 HG24
    (first | simp only [add_plain] at hx176_0 | skip)
    obtain ⟨hx24_0, hf24_0⟩ := BR_celln HO174.out ((ji20) : Int) p24 q24
    replace p24 := eq_true p24
    replace q24 := eq_true q24
    have HP32 := BR_putn HO174.out ((ji20) : Int) (Go.bits .xor .u8 (rd y172 (ji20)) ((wrap64 (1 + (Int.tmod (rd t165 1) 255))) % 256))
    rw [← Ny178.out] at HP32
    have HQ32 := As.mk HP32
    clear HP32
    refine start_ (n := 15) (S := fun w' => w'.cell? ⟨go24, ((ji20)).toNat, none⟩ = some (.int .u8 (rd y172 (ji20))) ∧ w'.cell? ⟨ad175.block, ad175.off + 1, none⟩ = some (.int .i64 (rd t165 1))) (ds := [14]) #[O, O, O, O, O, O, O, O, O, O, O, O, O, O, O] (by kernel_rfl) rfl rfl ⟨hx176_0, hx177_0⟩ (fun hHeld => ?_); refine with_tabW laws_FnTurned.tab11 laws_FnTurned.bits11 (fun HT_ HW_ => ?_)
    generalize w27.drew = w31 at HO_4 HO174 HB GG24 HQ32 hf24_0 hx176_0 hx177_0 hx24_0 hHeld ⊢
    refine pure_ (i := 0) (N := some 56) (v := ?_) (a' := ?_) #[I, O, O, O, O, O, O, O, O, O, O, O, O, O, O] rfl rfl (any_of HT_.out (by kernel_rfl)) (fun _ _ _ h => h) (Or.inl ⟨by rfl, ?_⟩) ?_ ?_
    rotate_left; · intro w'; go_simp; with_reducible rfl
    rotate_left; · simp only [pk, i64_w, i32_w]; rfl
    refine pure_ (i := 1) (N := some 57) (v := ?_) (a' := ?_) #[I, I, O, O, O, O, O, O, O, O, O, O, O, O, O] rfl rfl (any_of HT_.out (by kernel_rfl)) (fun _ _ _ h => h) (Or.inl ⟨by rfl, ?_⟩) ?_ ?_
    rotate_left; · intro w'; go_simp; with_reducible rfl
    rotate_left; · simp only [pk, i64_w, i32_w]; rfl
    refine pure_ (i := 2) (N := some 58) (v := ?_) (a' := ?_) #[I, I, I, O, O, O, O, O, O, O, O, O, O, O, O] rfl rfl (any_of HT_.out (by kernel_rfl)) (fun _ _ _ h => h) (Or.inl ⟨by rfl, ?_⟩) ?_ ?_
    rotate_left; · intro w'; go_simp; with_reducible rfl
    rotate_left; · simp only [pk, i64_w, i32_w]; rfl
    refine pure_ (i := 3) (N := some 59) (v := ?_) (a' := ?_) #[I, I, I, I, O, O, O, O, O, O, O, O, O, O, O] rfl rfl (any_of HT_.out (by kernel_rfl)) (fun _ _ _ h => h) (Or.inl ⟨by rfl, ?_⟩) ?_ ?_
    rotate_left; · intro w'; go_simp; with_reducible rfl
    rotate_left; · simp only [pk, i64_w, i32_w]; rfl
    refine pure_ (i := 4) (N := some 60) (v := ?_) (a' := ?_) #[I, I, I, I, I, O, O, O, O, O, O, O, O, O, O] rfl rfl (any_of HT_.out (by kernel_rfl)) (fun _ _ _ h => h) (Or.inl ⟨by rfl, ?_⟩) ?_ ?_
    rotate_left; · intro w'; go_simp; with_reducible rfl
    rotate_left; · simp only [pk, i64_w, i32_w]; rfl
    refine pure_ (i := 6) (N := some 62) (v := ?_) (a' := ?_) #[I, I, I, I, I, O, I, O, O, O, O, O, O, O, O] rfl rfl (any_of HT_.out (by kernel_rfl)) (fun _ _ _ h => h) (Or.inl ⟨by rfl, ?_⟩) ?_ ?_
    rotate_left; · intro w'; go_simp; with_reducible rfl
    rotate_left; · simp only [pk, i64_w, i32_w]; rfl
    refine pure_ (i := 7) (N := some 63) (v := ?_) (a' := ?_) #[I, I, I, I, I, O, I, I, O, O, O, O, O, O, O] rfl rfl (any_of HT_.out (by kernel_rfl)) (fun _ _ _ h => h) (Or.inl ⟨by rfl, ?_⟩) ?_ ?_
    rotate_left; · intro w'; go_simp; with_reducible rfl
    rotate_left; · simp only [pk, i64_w, i32_w]; rfl
    refine take_ (i := 5) (N := some 61) (v := ?_) (a' := ?_) #[I, I, I, I, I, I, I, I, O, O, O, O, O, O, O] rfl rfl (take_ofW HT_.out HW_.out (by kernel_rfl)) (fun _ _ _ h => h) (Or.inl ⟨by rfl, ?_⟩) hHeld ?_ ?_
    rotate_left; · rintro w' ⟨s0, s1⟩; go_simp; with_reducible rfl
    rotate_left; · simp only [pk, i64_w, i32_w]; rfl
    refine take_ (i := 8) (N := some 64) (v := ?_) (a' := ?_) #[I, I, I, I, I, I, I, I, I, O, O, O, O, O, O] rfl rfl (take_ofW HT_.out HW_.out (by kernel_rfl)) (fun _ _ _ h => h) (Or.inl ⟨by rfl, ?_⟩) hHeld ?_ ?_
    rotate_left; · rintro w' ⟨s0, s1⟩; go_simp; with_reducible rfl
    rotate_left; · simp only [pk, i64_w, i32_w]; rfl
    refine pure_ (i := 9) (N := some 65) (v := ?_) (a' := ?_) #[I, I, I, I, I, I, I, I, I, I, O, O, O, O, O] rfl rfl (any_of HT_.out (by kernel_rfl)) (fun _ _ _ h => h) (Or.inl ⟨by rfl, ?_⟩) ?_ ?_
    rotate_left; · intro w'; go_simp; with_reducible rfl
    rotate_left; · simp only [pk, i64_w, i32_w]; rfl
    refine pure_ (i := 10) (N := some 66) (v := ?_) (a' := ?_) #[I, I, I, I, I, I, I, I, I, I, I, O, O, O, O] rfl rfl (any_of HT_.out (by kernel_rfl)) (fun _ _ _ h => h) (Or.inl ⟨by rfl, ?_⟩) ?_ ?_
    rotate_left; · intro w'; go_simp; with_reducible rfl
    rotate_left; · simp only [pk, i64_w, i32_w]; rfl
    refine pure_ (i := 11) (N := some 67) (v := ?_) (a' := ?_) #[I, I, I, I, I, I, I, I, I, I, I, I, O, O, O] rfl rfl (any_of HT_.out (by kernel_rfl)) (fun _ _ _ h => h) (Or.inl ⟨by rfl, ?_⟩) ?_ ?_
    rotate_left; · intro w'; go_simp; with_reducible rfl
    rotate_left; · simp only [pk, i64_w, i32_w]; rfl
    refine pure_ (i := 12) (N := some 68) (v := ?_) (a' := ?_) #[I, I, I, I, I, I, I, I, I, I, I, I, I, O, O] rfl rfl (any_of HT_.out (by kernel_rfl)) (fun _ _ _ h => h) (Or.inl ⟨by rfl, ?_⟩) ?_ ?_
    rotate_left; · intro w'; go_simp; with_reducible rfl
    rotate_left; · simp only [pk, i64_w, i32_w]; rfl
    refine pure_ (i := 13) (N := some 69) (v := ?_) (a' := ?_) #[I, I, I, I, I, I, I, I, I, I, I, I, I, I, O] rfl rfl (any_of HT_.out (by kernel_rfl)) (fun _ _ _ h => h) (Or.inl ⟨by rfl, ?_⟩) ?_ ?_
    rotate_left; · intro w'; go_simp; with_reducible rfl
    rotate_left; · simp only [pk, i64_w, i32_w]; rfl
    refine last_ (i := 14) (N := none) #[I, I, I, I, I, I, I, I, I, I, I, I, I, I, I] rfl rfl (one_of HT_.out (by kernel_rfl)) (by decide) (fun K hK => ?_)
    refine skip_ (w1 := ?_) (by rfl) rfl ?_ ?_
    rotate_left; · go_simp; rfl
    refine hK.out _ _ ?_
    clear hK K
    refine done_ (done_of HT_.out (by kernel_rfl)) ?_
    have hcv33 := BR_string (P := Try.prog) Try.underlying22 Try.underlying5 Try.underlying9 HQ32.out
    try go_wp2_with (first | ((with_reducible refine gate_callee (f := 14) rfl ?_); refine goesL_ (some 73) rfl rfl Try.func14 (by kernel_rfl) rfl #[.string (strOfNums y178)] rfl (by (try simp only [lm]); first | done | rfl | (simp only [List.length_drop, List.length_take]; rfl)) ?_; (with_reducible refine (impl_Unsealed.calls kj7 (strOfNums y178) t179 true _ A25.out).mono ?_); rintro e w34 ⟨rfl, hb⟩; refine ⟨_, rfl, ?_⟩; replace HO_4 := As.mk (Kd.R_below (by (with_reducible repeat (first | apply Kd.R_alloc | apply Kd.R_drewN | apply Kd.R_drew)); exact (Kd.R_mono (Kd.R_far (p := ⟨go24, ((ji20) : Int).toNat, none⟩) (BR_types HO_4.out GG24.out (by decide)) (fun _ hk => hk.2) (.int .u8 (Go.bits .xor .u8 (rd y172 (ji20)) ((wrap64 (1 + (Int.tmod (rd t165 1) 255))) % 256)))) (fun _ h_ => h_.1))) hb); replace HO174 := As.mk (BR_below (by (with_reducible repeat (first | apply BR_alloc | apply BR_drewN | apply BR_drew)); exact HQ32.out) hb); replace HB := As.mk (below_step (be w) hb); (try clear hb); (try clear hb2); (try clear hk); (try clear hi)))
    go_ret
    exact ⟨by first | rfl | (simp [errW_none, errW_some] <;> rfl) | (simp only [← hji20]; first | rfl | (simp [errW_none, errW_some] <;> rfl)) | (simp [*, errW_none, errW_some] <;> rfl), be w⟩
   replace c26 := Bool.eq_false_iff.mpr c26
   subst c26
   rw [if_neg (show ¬ (false = true) by decide)] at H
   obtain ⟨t181, A350, H⟩ := Option.bind_eq_some_iff.mp H
   try dsimp only at H
   have A35 := As.mk A350
   clear A350
   obtain ⟨t182, A360, H⟩ := Option.bind_eq_some_iff.mp H
   try dsimp only at H
   have A36 := As.mk A360
   clear A360
   by_cases c37 : t164.size + 1 ≤ 9223372036854775807
   rotate_left; · rw [if_neg c37] at H; exact absurd H (by simp)
   rw [if_pos c37] at H
   have c37b0 := eq_true c37
   have c37b1 : decide (t164.size + 1 ≤ 9223372036854775807) = true := decide_eq_true c37
   try have c37b2 : (9223372036854775807 < t164.size + 1) = False := eq_false (Nat.not_lt.2 c37)
   obtain ⟨t183, A380, H⟩ := Option.bind_eq_some_iff.mp H
   try dsimp only at H
   have A38 := As.mk A380
   clear A380
   obtain rfl := Option.some.inj H
   go_wp2
   have hcvb := Lib.run_convert_string_bytes (P := Try.prog) wc 9 22 5 t168 Try.underlying9 Try.underlying22 Try.underlying5
   have ho40 := BR_new (e := 5) wc t168 (of_decide_eq_true (by assumption))
   have hb := bytes_below (e := 5) wc t168
   rw [hcvb]
   clear hcvb
   generalize Lib.bytesWorld wc 5 t168 = w39 at ho40 hb ⊢
   generalize (Value.slice (some ⟨wc.heap.size, 0, none⟩) t168.size (grownCap wc t168.size 0 5)) = v173 at ho40 ⊢
   (first | rw [← Ny172.out] at ho40 | (simp only [Int.reduceToNat] at ho40; rw [← Ny172.out] at ho40)); replace HO_4 := As.mk (Kd.R_below (by (with_reducible repeat (first | apply Kd.R_alloc | apply Kd.R_drewN | apply Kd.R_drew)); exact HO_4.out) hb); have HO174 := As.mk (BR_lower ho40 (below_size (be w))); replace HB := As.mk (below_step (be w) hb); clear hb ho40; obtain ⟨Ao41, co41, eo41⟩ := Kd.R_slice HO_4.out; subst eo41; have p175 : 0 ≤ (0 : Int) := (by omega); have q175 : 0 < (t165.length : Int) := od; obtain ⟨ad175, e175, hx175_0⟩ := Kd.at_int (Kd.R_reads' HO_4.out).2.2 0 p175 q175; cases e175; have qi175 : (0 < t165.length) = True := eq_true (by omega); (try rw [show ((0 : Int)).toNat = 0 from rfl] at hx175_0); (try rw [Addr.add_zero'] at hx175_0); replace p175 := eq_true p175; replace q175 := eq_true q175; obtain ⟨Ao42, co42, eo42⟩ := BR_slice HO174.out; subst eo42
   go_wp2
   replace HO_4 := As.mk (Kd.R_drew HO_4.out)
   replace HO174 := As.mk (BR_drew HO174.out)
   replace HB := As.mk (below_drew1 HB.out)
   have p176 : 0 ≤ ((ji20) : Int) := od
   have q176 : (ji20) < (y172.length : Int) := od
   obtain ⟨ad176, e176, hx176_0⟩ := Kd.at_int (BR_reads HO174.out).2.2 (ji20) p176 q176
   cases e176
   replace p176 := eq_true p176
   replace q176 := eq_true q176
   have p177 : 0 ≤ (1 : Int) := (by omega)
   have q177 : 1 < (t165.length : Int) := od
   obtain ⟨ad177, e177, hx177_0⟩ := Kd.at_int (Kd.R_reads' HO_4.out).2.2 1 p177 q177
   obtain rfl : ad175 = ad177 := (by injection e177)
   (try simp only [show (1 : Int).toNat = 1 from rfl, Nat.reduceMul, Nat.reduceEqDiff, Go.Addr.add, ↓reduceIte] at hx177_0)
   have qi177 : (1 < t165.length) = True := eq_true (by omega)
   (try rw [show ((1 : Int)).toNat = 1 from rfl] at hx177_0)
   replace p177 := eq_true p177
   replace q177 := eq_true q177
   have p24 : 0 ≤ ((ji20) : Int) := od
   have q24 : ((ji20) : Int) < ((y172.length : Int) : Int) := od
   obtain ⟨go24, co24, eo24, gb24, gl24, cl24, HG24⟩ := BR_form HO174.out (by omega)
   (first | cases eo24 | (injection eo24 with ea_ en_ ec_; (first | subst ea_ | (injection ea_ with ea_; subst ea_)); subst ec_; clear en_))
   have GB24 := As.mk gb24
   have GG24 := As.mk HG24
   clear gb24 gl24 HG24
   (first | simp only [add_plain] at hx176_0 | skip)
   obtain ⟨hx24_0, hf24_0⟩ := BR_celln HO174.out ((ji20) : Int) p24 q24
   replace p24 := eq_true p24
   replace q24 := eq_true q24
   have HP44 := BR_putn HO174.out ((ji20) : Int) (Go.bits .xor .u8 (rd y172 (ji20)) ((wrap64 (1 + (Int.tmod (rd t165 1) 255))) % 256))
   rw [← Ny178.out] at HP44
   have HQ44 := As.mk HP44
   clear HP44
   refine start_ (n := 15) (S := fun w' => w'.cell? ⟨go24, ((ji20)).toNat, none⟩ = some (.int .u8 (rd y172 (ji20))) ∧ w'.cell? ⟨ad175.block, ad175.off + 1, none⟩ = some (.int .i64 (rd t165 1))) (ds := [14]) #[O, O, O, O, O, O, O, O, O, O, O, O, O, O, O] (by kernel_rfl) rfl rfl ⟨hx176_0, hx177_0⟩ (fun hHeld => ?_); refine with_tabW laws_FnTurned.tab11 laws_FnTurned.bits11 (fun HT_ HW_ => ?_)
   generalize w39.drew = w43 at HO_4 HO174 HB GG24 HQ44 hf24_0 hx176_0 hx177_0 hx24_0 hHeld ⊢
   refine pure_ (i := 0) (N := some 56) (v := ?_) (a' := ?_) #[I, O, O, O, O, O, O, O, O, O, O, O, O, O, O] rfl rfl (any_of HT_.out (by kernel_rfl)) (fun _ _ _ h => h) (Or.inl ⟨by rfl, ?_⟩) ?_ ?_
   rotate_left; · intro w'; go_simp; with_reducible rfl
   rotate_left; · simp only [pk, i64_w, i32_w]; rfl
   refine pure_ (i := 1) (N := some 57) (v := ?_) (a' := ?_) #[I, I, O, O, O, O, O, O, O, O, O, O, O, O, O] rfl rfl (any_of HT_.out (by kernel_rfl)) (fun _ _ _ h => h) (Or.inl ⟨by rfl, ?_⟩) ?_ ?_
   rotate_left; · intro w'; go_simp; with_reducible rfl
   rotate_left; · simp only [pk, i64_w, i32_w]; rfl
   refine pure_ (i := 2) (N := some 58) (v := ?_) (a' := ?_) #[I, I, I, O, O, O, O, O, O, O, O, O, O, O, O] rfl rfl (any_of HT_.out (by kernel_rfl)) (fun _ _ _ h => h) (Or.inl ⟨by rfl, ?_⟩) ?_ ?_
   rotate_left; · intro w'; go_simp; with_reducible rfl
   rotate_left; · simp only [pk, i64_w, i32_w]; rfl
   refine pure_ (i := 3) (N := some 59) (v := ?_) (a' := ?_) #[I, I, I, I, O, O, O, O, O, O, O, O, O, O, O] rfl rfl (any_of HT_.out (by kernel_rfl)) (fun _ _ _ h => h) (Or.inl ⟨by rfl, ?_⟩) ?_ ?_
   rotate_left; · intro w'; go_simp; with_reducible rfl
   rotate_left; · simp only [pk, i64_w, i32_w]; rfl
   refine pure_ (i := 4) (N := some 60) (v := ?_) (a' := ?_) #[I, I, I, I, I, O, O, O, O, O, O, O, O, O, O] rfl rfl (any_of HT_.out (by kernel_rfl)) (fun _ _ _ h => h) (Or.inl ⟨by rfl, ?_⟩) ?_ ?_
   rotate_left; · intro w'; go_simp; with_reducible rfl
   rotate_left; · simp only [pk, i64_w, i32_w]; rfl
   refine pure_ (i := 6) (N := some 62) (v := ?_) (a' := ?_) #[I, I, I, I, I, O, I, O, O, O, O, O, O, O, O] rfl rfl (any_of HT_.out (by kernel_rfl)) (fun _ _ _ h => h) (Or.inl ⟨by rfl, ?_⟩) ?_ ?_
   rotate_left; · intro w'; go_simp; with_reducible rfl
   rotate_left; · simp only [pk, i64_w, i32_w]; rfl
   refine pure_ (i := 7) (N := some 63) (v := ?_) (a' := ?_) #[I, I, I, I, I, O, I, I, O, O, O, O, O, O, O] rfl rfl (any_of HT_.out (by kernel_rfl)) (fun _ _ _ h => h) (Or.inl ⟨by rfl, ?_⟩) ?_ ?_
   rotate_left; · intro w'; go_simp; with_reducible rfl
   rotate_left; · simp only [pk, i64_w, i32_w]; rfl
   refine take_ (i := 5) (N := some 61) (v := ?_) (a' := ?_) #[I, I, I, I, I, I, I, I, O, O, O, O, O, O, O] rfl rfl (take_ofW HT_.out HW_.out (by kernel_rfl)) (fun _ _ _ h => h) (Or.inl ⟨by rfl, ?_⟩) hHeld ?_ ?_
   rotate_left; · rintro w' ⟨s0, s1⟩; go_simp; with_reducible rfl
   rotate_left; · simp only [pk, i64_w, i32_w]; rfl
   refine take_ (i := 8) (N := some 64) (v := ?_) (a' := ?_) #[I, I, I, I, I, I, I, I, I, O, O, O, O, O, O] rfl rfl (take_ofW HT_.out HW_.out (by kernel_rfl)) (fun _ _ _ h => h) (Or.inl ⟨by rfl, ?_⟩) hHeld ?_ ?_
   rotate_left; · rintro w' ⟨s0, s1⟩; go_simp; with_reducible rfl
   rotate_left; · simp only [pk, i64_w, i32_w]; rfl
   refine pure_ (i := 9) (N := some 65) (v := ?_) (a' := ?_) #[I, I, I, I, I, I, I, I, I, I, O, O, O, O, O] rfl rfl (any_of HT_.out (by kernel_rfl)) (fun _ _ _ h => h) (Or.inl ⟨by rfl, ?_⟩) ?_ ?_
   rotate_left; · intro w'; go_simp; with_reducible rfl
   rotate_left; · simp only [pk, i64_w, i32_w]; rfl
   refine pure_ (i := 10) (N := some 66) (v := ?_) (a' := ?_) #[I, I, I, I, I, I, I, I, I, I, I, O, O, O, O] rfl rfl (any_of HT_.out (by kernel_rfl)) (fun _ _ _ h => h) (Or.inl ⟨by rfl, ?_⟩) ?_ ?_
   rotate_left; · intro w'; go_simp; with_reducible rfl
   rotate_left; · simp only [pk, i64_w, i32_w]; rfl
   refine pure_ (i := 11) (N := some 67) (v := ?_) (a' := ?_) #[I, I, I, I, I, I, I, I, I, I, I, I, O, O, O] rfl rfl (any_of HT_.out (by kernel_rfl)) (fun _ _ _ h => h) (Or.inl ⟨by rfl, ?_⟩) ?_ ?_
   rotate_left; · intro w'; go_simp; with_reducible rfl
   rotate_left; · simp only [pk, i64_w, i32_w]; rfl
   refine pure_ (i := 12) (N := some 68) (v := ?_) (a' := ?_) #[I, I, I, I, I, I, I, I, I, I, I, I, I, O, O] rfl rfl (any_of HT_.out (by kernel_rfl)) (fun _ _ _ h => h) (Or.inl ⟨by rfl, ?_⟩) ?_ ?_
   rotate_left; · intro w'; go_simp; with_reducible rfl
   rotate_left; · simp only [pk, i64_w, i32_w]; rfl
   refine pure_ (i := 13) (N := some 69) (v := ?_) (a' := ?_) #[I, I, I, I, I, I, I, I, I, I, I, I, I, I, O] rfl rfl (any_of HT_.out (by kernel_rfl)) (fun _ _ _ h => h) (Or.inl ⟨by rfl, ?_⟩) ?_ ?_
   rotate_left; · intro w'; go_simp; with_reducible rfl
   rotate_left; · simp only [pk, i64_w, i32_w]; rfl
   refine last_ (i := 14) (N := none) #[I, I, I, I, I, I, I, I, I, I, I, I, I, I, I] rfl rfl (one_of HT_.out (by kernel_rfl)) (by decide) (fun K hK => ?_)
   refine skip_ (w1 := ?_) (by rfl) rfl ?_ ?_
   rotate_left; · go_simp; rfl
   refine hK.out _ _ ?_
   clear hK K
   refine done_ (done_of HT_.out (by kernel_rfl)) ?_
   have hcv45 := BR_string (P := Try.prog) Try.underlying22 Try.underlying5 Try.underlying9 HQ44.out
   try go_wp2_with (first | ((with_reducible refine gate_callee (f := 14) rfl ?_); refine goesL_ (some 73) rfl rfl Try.func14 (by kernel_rfl) rfl #[.string (strOfNums y178)] rfl (by (try simp only [lm]); first | done | rfl | (simp only [List.length_drop, List.length_take]; rfl)) ?_; (with_reducible refine (impl_Unsealed.calls kj7 (strOfNums y178) t179 false _ A25.out).mono ?_); rintro e w46 ⟨rfl, hb⟩; refine ⟨_, rfl, ?_⟩; replace HO_4 := As.mk (Kd.R_below (by (with_reducible repeat (first | apply Kd.R_alloc | apply Kd.R_drewN | apply Kd.R_drew)); exact (Kd.R_mono (Kd.R_far (p := ⟨go24, ((ji20) : Int).toNat, none⟩) (BR_types HO_4.out GG24.out (by decide)) (fun _ hk => hk.2) (.int .u8 (Go.bits .xor .u8 (rd y172 (ji20)) ((wrap64 (1 + (Int.tmod (rd t165 1) 255))) % 256)))) (fun _ h_ => h_.1))) hb); replace HO174 := As.mk (BR_below (by (with_reducible repeat (first | apply BR_alloc | apply BR_drewN | apply BR_drew)); exact HQ44.out) hb); replace HB := As.mk (below_step (be w) hb); (try clear hb); (try clear hb2); (try clear hk); (try clear hi)) | (go_at_call 16; (with_reducible refine (impl_SumOf.calls kj7 t164 t181 _ A35.out).mono ?_); rintro e w' ⟨rfl, ⟨nd, rfl⟩⟩) | (go_at_call 15; (with_reducible refine (impl_SumMore.calls kj7 t181 (⟨#[120]⟩ : ByteArray) t182 _ A36.out).mono ?_); rintro e w' ⟨rfl, ⟨nd, rfl⟩⟩) | (go_at_call 16; (with_reducible refine (impl_SumOf.calls kj7 (t164 ++ (⟨#[120]⟩ : ByteArray)) t183 _ A38.out).mono ?_); rintro e w' ⟨rfl, ⟨nd, rfl⟩⟩))
   go_ret
   exact ⟨by first | rfl | (simp [errW_none, errW_some] <;> rfl) | (simp only [← hji20]; first | rfl | (simp [errW_none, errW_some] <;> rfl)) | (simp [*, errW_none, errW_some] <;> rfl), be w⟩
/-- THE ONE PURE STATEMENT of laws_FnTurned: yours. -/
def laws_FnTurned.Pure : Prop := ∀ (l0 : List Int), l0.length ≤ maxLen → l0.length * 1 ≤ 140737488351232 → (∀ x ∈ l0, (Lit.int .u8 x).wf = true) → ∃ k, laws_FnTurned.f k l0 = some true
theorem laws_FnTurned.walk (P : laws_FnTurned.Pure) (a0 : Option Addr) (len0 cap0 : Nat) (z0 : List Int) (w : World) (w0 : (a0 = none ∧ len0 = 0 ∧ cap0 = 0 ∧ z0 = []) ∨ ∃ x, a0 = some x ∧ len0 ≤ cap0 ∧ cap0 ≤ maxLen ∧ z0.length = cap0 ∧ (∀ i, i < z0.length → w.cell? (x.add i) = some (.int .u8 (z0.getD i 0))) ∧ ∀ n ∈ z0, (Lit.int .u8 n).wf = true) (y0 : len0 * 1 ≤ 140737488351232) :
  Calls Try.prog 3 #[.slice a0 len0 cap0] w fun e w' => e = .returned (.bool true) ∧ Below w.heap.size w w' := by
 obtain ⟨l0, rfl, hr0, hm0, hw0, hc0⟩ := ReadsInt.ofRowC w0
 obtain ⟨k, h⟩ := P l0 hm0 y0 hw0
 refine (laws_FnTurned.calls k _ _ l0 true w (Kd.C_of_reads (d := (0 : Int)) (h1 := fun _ => rfl) hr0) hc0 h).mono ?_
 rintro e w' ⟨rfl, hd⟩
 exact ⟨rfl, hd⟩

end Go.Proofs.Ytnlhjblfemgggaa.PFnTurned
