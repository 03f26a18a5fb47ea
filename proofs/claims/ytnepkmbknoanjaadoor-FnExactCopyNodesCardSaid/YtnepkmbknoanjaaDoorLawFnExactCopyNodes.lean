/- The law FnExactCopyNodes returns true for every input that can be read, and its arguments read afterwards as before: the row, over the pure statement and the printed walk. No condition beside the statement's own. -/
import Derived.Test.YtnepkmbknoanjaaDoorRows
import Derived.Test.YtnepkmbknoanjaaDoorPFnExactCopyNodesx14
import Derived.Test.YtnepkmbknoanjaaDoorRdFnExactCopyNodes
import Derived.Test.YtnepkmbknoanjaaDoorPureFnExactCopyNodes
import Derived.WalkKit
import Derived.ProofKit
import Derived.OpenShut
import Derived.ShutString
import Derived.ChangeOld
import Derived.Below
import Derived.SizedLaws
import Derived.LaidMore
import Derived.Lay
import Derived.SevenTiedAt
import Derived.Stop.Joined
import Derived.Test.YtnepkmbknoanjaaDoorTie
import Derived.Test.YtnepkmbknoanjaaDoorCards
import Derived.Carry
namespace Go.Proofs.YtnepkmbknoanjaaDoor.fnExactCopyNodes
open Go.ChangeShapes Go.WideShapes Go.ChangeAt Go.RowKit Go.Deep Go.Proofs.YtnepkmbknoanjaaDoor.MRead Go.Proofs.YtnepkmbknoanjaaDoor.RdFnExactCopyNodes Go.Proofs.YtnepkmbknoanjaaDoorW.PrintWords Go.Proofs.YtnepkmbknoanjaaDoor.PFnExactCopyNodes
open Go.ChangeMaps (open_string shut_string)
set_option linter.unusedVariables false
theorem own : ownKnob Tryd.prog.godebug = none := by kernel_rfl
theorem laidOut : laidOutB Tryd.prog = true := by kernel_rfl
set_option maxRecDepth 100000 in
theorem lifted (os : Os) (started : os.Started) (H : Type) (enc : TypeId × Value → H) :
    ReturnsInHanded {} Tryd.checked os 3 .any (fun w args => (Rows.fnExactCopyNodesSpec.pre enc Tryd.prog Tryd.f3 Rows.fnExactCopyNodesRow.domain false w args ∧ laidMetH Tryd.prog Rows.fnExactCopyNodesRow.laid w) ∧ sizedMet enc Tryd.prog Tryd.f3 (OpenSpec.ofChange Rows.fnExactCopyNodesSpec) false w args) (Rows.fnExactCopyNodesSpec.post enc Tryd.prog Tryd.f3 false true false false) := by
  refine returnsInHanded_of_change_and (C := Tryd.checked) (X := fun w _ => laidMetH Tryd.prog Rows.fnExactCopyNodesRow.laid w) (fun _ _ _ hh h => h.of_heap hh) own started (by kernel_rfl) Tryd.func3
    (ChangeSpec.witness_shaped (enc := enc) (C := Tryd.checked) (os := os) (X := fun w _ => laidMetH Tryd.prog Rows.fnExactCopyNodesRow.laid w) false (World.laidAll Tryd.prog os Rows.fnExactCopyNodesRow.laid) #[.agg #[.slice none 0 0, .slice none 0 0], .int .i64 0, .slice none 0 0] 8 (World.laidAll_os _ _ _)
      (World.shaped_of_ZipB (by kernel_rfl) (by kernel_rfl)) (by kernel_rfl) (by kernel_rfl) (by kernel_rfl)
      (by rw [MakeChecks.laidMetH_plain _ _ _ (by kernel_rfl)]; exact laidMet_laidAll _ (by kernel_rfl) (by kernel_rfl))) ?_
  intro W base args ds gs before hval0 hW hcnd hsz0 hL _
  have hsz : (DataW.weightsEach Tryd.prog (Tryd.f3.params.toList ++ Rows.fnExactCopyNodesSpec.plain.varTypes Tryd.prog) (ds ++ gs)).all (· ≤ reachBytes) = true := hsz0
  have hval : ∀ (j : Nat) t v, Tryd.f3.params[j]? = some t → args[j]? = some v → Value.okWide Tryd.prog W .any base t v := hval0
  have hW' := hW
  obtain ⟨p, q, hA0, hV, rfl, hfz, hnd⟩ := hW
  have hA : DataW.TrodAll enc Tryd.prog W 0 (fun _ => true) true Tryd.f3.params.toList args.toList ds p := hA0
  rw [Tryd.params3] at hA hval hsz
  obtain ⟨v0, vs0, d0, ds0, p0, q0, hargs, rfl, rfl, h0, r0⟩ := trodAll_cons hA
  obtain ⟨v1, vs1, d1, ds1, p1, q1, rfl, rfl, rfl, h1, r1⟩ := trodAll_cons r0
  obtain ⟨v2, vs2, d2, ds2, p2, q2, rfl, rfl, rfl, h2, r2⟩ := trodAll_cons r1
  obtain ⟨rfl, rfl, rfl⟩ := trodAll_nil r2
  obtain rfl : args = #[v0, v1, v2] := by cases args; simp_all
  obtain ⟨rfl, rfl⟩ := trodVars_none hV
  have k0 := h0
  have lt0 : ∀ x ∈ p0, x.block < W.heap.size := by obtain ⟨m, hm⟩ := k0; exact DataW.trod_lt m _ _ _ hm
  obtain ⟨cs0, rfl, hcs0⟩ := okWide_struct Tryd.underlying25 (hval 0 25 v0 rfl rfl)
  obtain ⟨fu0, hf0⟩ := h0
  obtain ⟨cl0⟩ := cs0
  obtain ⟨hl0, hg0⟩ := rd_fields Tryd.underlying25 (by kernel_rfl) (by kernel_rfl) hf0
  have hn0 : cl0.length = 2 := hl0
  obtain ⟨c0_0, c0_1, rfl⟩ := list2 hn0
  obtain ⟨n0_0, y0_0, h0_0⟩ := hg0 0 _ c0_0 rfl rfl
  obtain ⟨l0_0, ⟨A0_0, cc0_0, e0_0, hc0_0, hr0_0⟩, g0_0⟩ := (rd_slice 45 Tryd.underlying22 (by kernel_rfl) rd_k45) h0_0
  obtain rfl : c0_0 = .slice A0_0 l0_0.length cc0_0 := by simpa using e0_0
  obtain ⟨n0_1, y0_1, h0_1⟩ := hg0 1 _ c0_1 rfl rfl
  obtain ⟨l0_1, ⟨A0_1, cc0_1, e0_1, hc0_1, hr0_1⟩, g0_1⟩ := (rd_slice 64 Tryd.underlying23 (by kernel_rfl) rd_k64) h0_1
  obtain rfl : c0_1 = .slice A0_1 l0_1.length cc0_1 := by simpa using e0_1
  obtain ⟨a1, rfl, rfl, rfl, w1⟩ := open_int Tryd.underlying3 (hval 1 3 v1 rfl rfl) h1
  have k2 := h2
  have lt2 : ∀ x ∈ p2, x.block < W.heap.size := by obtain ⟨m, hm⟩ := k2; exact DataW.trod_lt m _ _ _ hm
  obtain ⟨b2, len2, cap2, rfl⟩ := okWide_slice Tryd.underlying22 (hval 2 22 v2 rfl rfl)
  obtain ⟨fu2, hf2⟩ := h2
  obtain ⟨l2, ⟨A2, c2, e2, hc2, hr2⟩, g2⟩ := (rd_slice 45 Tryd.underlying22 (by kernel_rfl) rd_k45) hf2
  obtain ⟨rfl, rfl, rfl⟩ : b2 = A2 ∧ len2 = l2.length ∧ cap2 = c2 := by simpa [Value.cells] using e2
  clear hA0 hval0 hsz0 hsz
  obtain ⟨k, hp⟩ := Pure.FnExactCopyNodes l0_0 l0_1 a1 l2 g0_0 g0_1 w1 g2
  refine (laws_FnExactCopyNodes.calls (k := k) (r := true) (w := W) (l0_0 := l0_0) (hr0_0 := hr0_0) (hc0_0 := hc0_0) (l0_1 := l0_1) (hr0_1 := hr0_1) (hc0_1 := hc0_1) (a1 := a1) (l2 := l2) (hr2 := hr2) (hc2 := hc2) (hrt := ⟨rfl⟩) (h := hp)).mono fun e W' hz => ?_
  obtain ⟨he, bel0⟩ := hz
  have bel : Below W.heap.size W W' := bel0
  subst he
  exact ⟨_, rfl, _, _, _, [], _, [], hW', trodAll_mk1 (shut_bool Tryd.underlying4 _), (trodAll_cons_mk (Below.trod laidOut (by kernel_rfl) (of_decide_eq_true (by kernel_rfl)) k0 bel lt0) (trodAll_cons_mk (shut_int Tryd.underlying3 w1) (trodAll_cons_mk (Below.trod laidOut (by kernel_rfl) (of_decide_eq_true (by kernel_rfl)) k2 bel lt2) trodAll_mk0))), rfl, bel.frame _, fun h => by cases h⟩
theorem over : Rows.fnExactCopyNodesRow.holds Tryd.pinned (OpenSpec.ofChange Rows.fnExactCopyNodesSpec) :=
  OpenClaim.holds_of_wide 3 Tryd.f3 rfl rfl rfl rfl rfl rfl rfl ⟨rfl, rfl, rfl, rfl, rfl⟩ rfl rfl rfl rfl rfl (by kernel_rfl) Tryd.func3 (by kernel_rfl)
    (of_decide_eq_true (by kernel_rfl)) (by unfold Func.isWrapper; first | (rw [if_pos (by decide +kernel)]; kernel_rfl) | (rw [if_neg (by decide +kernel)]; exact ⟨rfl, rfl⟩))
    (fun os started H enc _ => lifted os started H enc)
theorem proved : Rows.FnExactCopyNodesSaid := over
#print axioms proved
end Go.Proofs.YtnepkmbknoanjaaDoor.fnExactCopyNodes
namespace Go.Proofs.YtnepkmbknoanjaaDoor
set_option maxRecDepth 100000 in
/-- The tied card: the row, its listed variables tied to the program's text by the given tie. -/
theorem fnExactCopyNodes_card_holds : Rows.FnExactCopyNodesCardSaid :=
  Claim7.holds_tied_plain_at .later [] [.data, .pinned] true (true, "a5119bbbb6d5407208221cc7bb5bca30745c336c382231ccadfad53698d79a83") false fnExactCopyNodes.proved (fun _ h => by cases h) (by kernel_rfl) (fun _ h => by cases h) fnExactCopyNodes_row_tie rfl ⟨rfl, rfl⟩ (by kernel_rfl) rfl
    (fun f fn hf hfn => by
      obtain rfl : f = 3 := Option.some.inj ((show Tryd.prog.funcNamed "loop.example/g00423/laws.FnExactCopyNodes" = some 3 by kernel_rfl).symm.trans hf) |>.symm
      obtain rfl : fn = Tryd.f3 := (Option.some.inj (Tryd.func3.symm.trans hfn)).symm
      exact ⟨by kernel_rfl, fun j t ht => by
        rw [Tryd.params3] at ht
        have hm : t ∈ [25, 3, 22] := by simpa using Array.mem_of_getElem? ht
        have hall : ([25, 3, 22].all fun u => !Tryd.prog.wantsStandIn u) = true := by kernel_rfl
        exact (show Tryd.prog.wantsStandIn t = false by simpa using List.all_eq_true.1 hall t hm)⟩)
    (by kernel_rfl)
#print axioms fnExactCopyNodes_card_holds
end Go.Proofs.YtnepkmbknoanjaaDoor
