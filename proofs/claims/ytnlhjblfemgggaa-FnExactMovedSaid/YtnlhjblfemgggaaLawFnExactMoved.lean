/- The law FnExactMoved returns true for every input that can be read, and its arguments read afterwards as before: the row, over the pure statement and the printed walk. No condition beside the statement's own. -/
import Derived.Test.YtnlhjblfemgggaaRows
import Derived.Test.YtnlhjblfemgggaaPFnExactMovedx7
import Derived.Test.YtnlhjblfemgggaaRdFnExactMoved
import Derived.Test.YtnlhjblfemgggaaPureFnExactMoved
import Derived.WalkKit
import Derived.ProofKit
import Derived.OpenShut
import Derived.ShutString
import Derived.ChangeOld
import Derived.Below
import Derived.SizedLaws
import Derived.Carry
namespace Go.Proofs.Ytnlhjblfemgggaa.fnExactMoved
open Go.ChangeShapes Go.WideShapes Go.ChangeAt Go.RowKit Go.Deep Go.Proofs.Ytnlhjblfemgggaa.MRead Go.Proofs.Ytnlhjblfemgggaa.RdFnExactMoved Go.Proofs.YtnlhjblfemgggaaW.PrintWords Go.Proofs.Ytnlhjblfemgggaa.PFnExactMoved
open Go.ChangeMaps (open_string shut_string)
set_option linter.unusedVariables false
theorem own : ownKnob Try.prog.godebug = none := by kernel_rfl
theorem laidOut : laidOutB Try.prog = true := by kernel_rfl
set_option maxRecDepth 100000 in
theorem lifted (os : Os) (started : os.Started) (H : Type) (enc : TypeId × Value → H) :
    ReturnsInHanded {} Try.checked os 9 .any (Rows.fnExactMovedSpec.pre6 enc Try.prog Try.f9 Rows.fnExactMovedRow.domain false) (Rows.fnExactMovedSpec.post enc Try.prog Try.f9 false true false false) := by
  refine returnsInHanded_of_change_sized (C := Try.checked) own started (by kernel_rfl) Try.func9
    (ChangeSpec.witness6 (enc := enc) (C := Try.checked) false ⟨#[], #[.agg #[.slice none 0 0, .slice none 0 0, .slice none 0 0, .int .i64 0, .int .i64 0], .agg #[.int .i64 0, .int .i64 0]], []⟩ 8 (by kernel_rfl) (by kernel_rfl) (by kernel_rfl) (by kernel_rfl)) ?_
  intro W base args ds gs before hval0 hW hcnd hsz0 _
  have hsz : (DataW.weightsEach Try.prog (Try.f9.params.toList ++ Rows.fnExactMovedSpec.plain.varTypes Try.prog) (ds ++ gs)).all (· ≤ reachBytes) = true := hsz0
  have hval : ∀ (j : Nat) t v, Try.f9.params[j]? = some t → args[j]? = some v → Value.okWide Try.prog W .any base t v := hval0
  have hW' := hW
  obtain ⟨p, q, hA0, hV, rfl, hfz, hnd⟩ := hW
  have hA : DataW.TrodAll enc Try.prog W 0 (fun _ => true) true Try.f9.params.toList args.toList ds p := hA0
  rw [Try.params9] at hA hval hsz
  obtain ⟨v0, vs0, d0, ds0, p0, q0, hargs, rfl, rfl, h0, r0⟩ := trodAll_cons hA
  obtain ⟨v1, vs1, d1, ds1, p1, q1, rfl, rfl, rfl, h1, r1⟩ := trodAll_cons r0
  obtain ⟨rfl, rfl, rfl⟩ := trodAll_nil r1
  obtain rfl : args = #[v0, v1] := by cases args; simp_all
  obtain ⟨rfl, rfl⟩ := trodVars_none hV
  have k0 := h0
  have lt0 : ∀ x ∈ p0, x.block < W.heap.size := by obtain ⟨m, hm⟩ := k0; exact DataW.trod_lt m _ _ _ hm
  obtain ⟨cs0, rfl, hcs0⟩ := okWide_struct Try.underlying47 (hval 0 47 v0 rfl rfl)
  obtain ⟨fu0, hf0⟩ := h0
  obtain ⟨cl0⟩ := cs0
  obtain ⟨hl0, hg0⟩ := rd_fields Try.underlying47 (by kernel_rfl) (by kernel_rfl) hf0
  have hn0 : cl0.length = 5 := hl0
  obtain ⟨c0_0, c0_1, c0_2, c0_3, c0_4, rfl⟩ := list5 hn0
  obtain ⟨n0_0, y0_0, h0_0⟩ := hg0 0 _ c0_0 rfl rfl
  obtain ⟨l0_0, ⟨A0_0, cc0_0, e0_0, hc0_0, hr0_0⟩, g0_0⟩ := (rd_slice 98 Try.underlying45 (by kernel_rfl) rd_k98) h0_0
  obtain rfl : c0_0 = .slice A0_0 l0_0.length cc0_0 := by simpa using e0_0
  obtain ⟨n0_1, y0_1, h0_1⟩ := hg0 1 _ c0_1 rfl rfl
  obtain ⟨l0_1, ⟨A0_1, cc0_1, e0_1, hc0_1, hr0_1⟩, g0_1⟩ := (rd_slice 3 Try.underlying25 (by kernel_rfl) (rd_int Try.underlying3)) h0_1
  obtain rfl : c0_1 = .slice A0_1 l0_1.length cc0_1 := by simpa using e0_1
  obtain ⟨n0_2, y0_2, h0_2⟩ := hg0 2 _ c0_2 rfl rfl
  obtain ⟨l0_2, ⟨A0_2, cc0_2, e0_2, hc0_2, hr0_2⟩, g0_2⟩ := (rd_slice 3 Try.underlying25 (by kernel_rfl) (rd_int Try.underlying3)) h0_2
  obtain rfl : c0_2 = .slice A0_2 l0_2.length cc0_2 := by simpa using e0_2
  obtain ⟨n0_3, y0_3, h0_3⟩ := hg0 3 _ c0_3 rfl rfl
  obtain ⟨a0_3, e0_3, g0_3⟩ := (rd_int Try.underlying3) h0_3
  obtain rfl : c0_3 = .int .i64 a0_3 := by simpa [Kd.int, Kd.bool, Kd.string, Kd.scalar] using e0_3
  obtain ⟨n0_4, y0_4, h0_4⟩ := hg0 4 _ c0_4 rfl rfl
  obtain ⟨a0_4, e0_4, g0_4⟩ := (rd_int Try.underlying3) h0_4
  obtain rfl : c0_4 = .int .i64 a0_4 := by simpa [Kd.int, Kd.bool, Kd.string, Kd.scalar] using e0_4
  have k1 := h1
  have lt1 : ∀ x ∈ p1, x.block < W.heap.size := by obtain ⟨m, hm⟩ := k1; exact DataW.trod_lt m _ _ _ hm
  obtain ⟨cs1, rfl, hcs1⟩ := okWide_struct Try.underlying48 (hval 1 48 v1 rfl rfl)
  obtain ⟨fu1, hf1⟩ := h1
  obtain ⟨cl1⟩ := cs1
  obtain ⟨hl1, hg1⟩ := rd_fields Try.underlying48 (by kernel_rfl) (by kernel_rfl) hf1
  have hn1 : cl1.length = 2 := hl1
  obtain ⟨c1_0, c1_1, rfl⟩ := list2 hn1
  obtain ⟨n1_0, y1_0, h1_0⟩ := hg1 0 _ c1_0 rfl rfl
  obtain ⟨a1_0, e1_0, g1_0⟩ := (rd_int Try.underlying3) h1_0
  obtain rfl : c1_0 = .int .i64 a1_0 := by simpa [Kd.int, Kd.bool, Kd.string, Kd.scalar] using e1_0
  obtain ⟨n1_1, y1_1, h1_1⟩ := hg1 1 _ c1_1 rfl rfl
  obtain ⟨a1_1, e1_1, g1_1⟩ := (rd_int Try.underlying3) h1_1
  obtain rfl : c1_1 = .int .i64 a1_1 := by simpa [Kd.int, Kd.bool, Kd.string, Kd.scalar] using e1_1
  clear hA0 hval0 hsz0 hsz
  obtain ⟨k, hp⟩ := Pure.FnExactMoved l0_0 l0_1 l0_2 a0_3 a0_4 a1_0 a1_1 g0_0 g0_1 g0_2 g0_3 g0_4 g1_0 g1_1
  refine (laws_FnExactMoved.calls (k := k) (r := true) (w := W) (l0_0 := l0_0) (hr0_0 := hr0_0) (hc0_0 := hc0_0) (l0_1 := l0_1) (hr0_1 := hr0_1) (hc0_1 := hc0_1) (l0_2 := l0_2) (hr0_2 := hr0_2) (hc0_2 := hc0_2) (a0_3 := a0_3) (a0_4 := a0_4) (a1_0 := a1_0) (a1_1 := a1_1) (hrt := ⟨rfl⟩) (h := hp)).mono fun e W' hz => ?_
  obtain ⟨he, bel0⟩ := hz
  have bel : Below W.heap.size W W' := bel0
  subst he
  exact ⟨_, rfl, _, _, _, [], _, [], hW', trodAll_mk1 (shut_bool Try.underlying4 _), (trodAll_cons_mk (Below.trod laidOut (by kernel_rfl) (of_decide_eq_true (by kernel_rfl)) k0 bel lt0) (trodAll_cons_mk (Below.trod laidOut (by kernel_rfl) (of_decide_eq_true (by kernel_rfl)) k1 bel lt1) trodAll_mk0)), rfl, bel.frame _, fun h => by cases h⟩
theorem over : Rows.fnExactMovedRow.holds Try.pinned (OpenSpec.ofChange Rows.fnExactMovedSpec) :=
  OpenClaim.holds_of_wide 9 Try.f9 rfl rfl rfl rfl rfl rfl rfl ⟨rfl, rfl, rfl, rfl, rfl⟩ rfl rfl rfl rfl rfl (by kernel_rfl) Try.func9 (by kernel_rfl)
    (of_decide_eq_true (by kernel_rfl)) (by unfold Func.isWrapper; first | (rw [if_pos (by decide +kernel)]; kernel_rfl) | (rw [if_neg (by decide +kernel)]; exact ⟨rfl, rfl⟩))
    (fun os started H enc _ => lifted os started H enc)
theorem proved : Rows.FnExactMovedSaid := over
#print axioms proved
end Go.Proofs.Ytnlhjblfemgggaa.fnExactMoved
namespace Go.Proofs.Ytnlhjblfemgggaa
/-- The row, under a short name, for the claim. -/
theorem fnExactMoved_holds : Rows.FnExactMovedSaid := fnExactMoved.proved
end Go.Proofs.Ytnlhjblfemgggaa
