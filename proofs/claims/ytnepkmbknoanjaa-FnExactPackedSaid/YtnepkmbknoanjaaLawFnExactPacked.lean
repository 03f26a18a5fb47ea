/- The law FnExactPacked returns true for every input that can be read, and its arguments read afterwards as before: the row, over the pure statement and the printed walk. No condition beside the statement's own. -/
import Derived.Test.YtnepkmbknoanjaaRows
import Derived.Test.YtnepkmbknoanjaaPFnExactPackedx9
import Derived.Test.YtnepkmbknoanjaaRdFnExactPacked
import Derived.Test.YtnepkmbknoanjaaPureFnExactPacked
import Derived.WalkKit
import Derived.ProofKit
import Derived.OpenShut
import Derived.ShutString
import Derived.ChangeOld
import Derived.Below
import Derived.SizedLaws
import Derived.Carry
namespace Go.Proofs.Ytnepkmbknoanjaa.fnExactPacked
open Go.ChangeShapes Go.WideShapes Go.ChangeAt Go.RowKit Go.Deep Go.Proofs.Ytnepkmbknoanjaa.MRead Go.Proofs.Ytnepkmbknoanjaa.RdFnExactPacked Go.Proofs.YtnepkmbknoanjaaW.PrintWords Go.Proofs.Ytnepkmbknoanjaa.PFnExactPacked
open Go.ChangeMaps (open_string shut_string)
set_option linter.unusedVariables false
theorem own : ownKnob Try.prog.godebug = none := by kernel_rfl
theorem laidOut : laidOutB Try.prog = true := by kernel_rfl
set_option maxRecDepth 100000 in
theorem lifted (os : Os) (started : os.Started) (H : Type) (enc : TypeId × Value → H) :
    ReturnsInHanded {} Try.checked os 3 .any (Rows.fnExactPackedSpec.pre6 enc Try.prog Try.f3 Rows.fnExactPackedRow.domain false) (Rows.fnExactPackedSpec.post enc Try.prog Try.f3 false true false false) := by
  refine returnsInHanded_of_change_sized (C := Try.checked) own started (by kernel_rfl) Try.func3
    (ChangeSpec.witness6 (enc := enc) (C := Try.checked) false ⟨#[], #[.agg #[.slice none 0 0, .slice none 0 0]], []⟩ 8 (by kernel_rfl) (by kernel_rfl) (by kernel_rfl) (by kernel_rfl)) ?_
  intro W base args ds gs before hval0 hW hcnd hsz0 _
  have hsz : (DataW.weightsEach Try.prog (Try.f3.params.toList ++ Rows.fnExactPackedSpec.plain.varTypes Try.prog) (ds ++ gs)).all (· ≤ reachBytes) = true := hsz0
  have hval : ∀ (j : Nat) t v, Try.f3.params[j]? = some t → args[j]? = some v → Value.okWide Try.prog W .any base t v := hval0
  have hW' := hW
  obtain ⟨p, q, hA0, hV, rfl, hfz, hnd⟩ := hW
  have hA : DataW.TrodAll enc Try.prog W 0 (fun _ => true) true Try.f3.params.toList args.toList ds p := hA0
  rw [Try.params3] at hA hval hsz
  obtain ⟨v0, vs0, d0, ds0, p0, q0, hargs, rfl, rfl, h0, r0⟩ := trodAll_cons hA
  obtain ⟨rfl, rfl, rfl⟩ := trodAll_nil r0
  obtain rfl : args = #[v0] := by cases args; simp_all
  obtain ⟨rfl, rfl⟩ := trodVars_none hV
  have k0 := h0
  have lt0 : ∀ x ∈ p0, x.block < W.heap.size := by obtain ⟨m, hm⟩ := k0; exact DataW.trod_lt m _ _ _ hm
  obtain ⟨cs0, rfl, hcs0⟩ := okWide_struct Try.underlying25 (hval 0 25 v0 rfl rfl)
  obtain ⟨fu0, hf0⟩ := h0
  obtain ⟨cl0⟩ := cs0
  obtain ⟨hl0, hg0⟩ := rd_fields Try.underlying25 (by kernel_rfl) (by kernel_rfl) hf0
  have hn0 : cl0.length = 2 := hl0
  obtain ⟨c0_0, c0_1, rfl⟩ := list2 hn0
  obtain ⟨n0_0, y0_0, h0_0⟩ := hg0 0 _ c0_0 rfl rfl
  obtain ⟨l0_0, ⟨A0_0, cc0_0, e0_0, hc0_0, hr0_0⟩, g0_0⟩ := (rd_slice 58 Try.underlying22 (by kernel_rfl) rd_k58) h0_0
  obtain rfl : c0_0 = .slice A0_0 l0_0.length cc0_0 := by simpa using e0_0
  obtain ⟨n0_1, y0_1, h0_1⟩ := hg0 1 _ c0_1 rfl rfl
  obtain ⟨l0_1, ⟨A0_1, cc0_1, e0_1, hc0_1, hr0_1⟩, g0_1⟩ := (rd_slice 62 Try.underlying23 (by kernel_rfl) rd_k62) h0_1
  obtain rfl : c0_1 = .slice A0_1 l0_1.length cc0_1 := by simpa using e0_1
  clear hA0 hval0 hsz0 hsz
  obtain ⟨k, hp⟩ := Pure.FnExactPacked l0_0 l0_1 g0_0 g0_1
  refine (laws_FnExactPacked.calls (k := k) (r := true) (w := W) (l0_0 := l0_0) (hr0_0 := hr0_0) (hc0_0 := hc0_0) (l0_1 := l0_1) (hr0_1 := hr0_1) (hc0_1 := hc0_1) (hrt := ⟨rfl⟩) (h := hp)).mono fun e W' hz => ?_
  obtain ⟨he, bel0⟩ := hz
  have bel : Below W.heap.size W W' := bel0
  subst he
  exact ⟨_, rfl, _, _, _, [], _, [], hW', trodAll_mk1 (shut_bool Try.underlying4 _), (trodAll_cons_mk (Below.trod laidOut (by kernel_rfl) (of_decide_eq_true (by kernel_rfl)) k0 bel lt0) trodAll_mk0), rfl, bel.frame _, fun h => by cases h⟩
theorem over : Rows.fnExactPackedRow.holds Try.pinned (OpenSpec.ofChange Rows.fnExactPackedSpec) :=
  OpenClaim.holds_of_wide 3 Try.f3 rfl rfl rfl rfl rfl rfl rfl ⟨rfl, rfl, rfl, rfl, rfl⟩ rfl rfl rfl rfl rfl (by kernel_rfl) Try.func3 (by kernel_rfl)
    (of_decide_eq_true (by kernel_rfl)) (by unfold Func.isWrapper; first | (rw [if_pos (by decide +kernel)]; kernel_rfl) | (rw [if_neg (by decide +kernel)]; exact ⟨rfl, rfl⟩))
    (fun os started H enc _ => lifted os started H enc)
theorem proved : Rows.FnExactPackedSaid := over
#print axioms proved
end Go.Proofs.Ytnepkmbknoanjaa.fnExactPacked
namespace Go.Proofs.Ytnepkmbknoanjaa
/-- The row, under a short name, for the claim. -/
theorem fnExactPacked_holds : Rows.FnExactPackedSaid := fnExactPacked.proved
end Go.Proofs.Ytnepkmbknoanjaa
