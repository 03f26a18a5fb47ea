/- The law FnExactSameProgram returns true for every input that can be read, and its arguments read afterwards as before: the row, over the pure statement and the printed walk. No condition beside the statement's own. -/
import Derived.Test.YtmdpggibcjkfoaaDoorRows
import Derived.Test.YtmdpggibcjkfoaaDoorPFnExactSameProgramx17
import Derived.Test.YtmdpggibcjkfoaaDoorRdFnExactSameProgram
import Derived.Test.YtmdpggibcjkfoaaDoorPureFnExactSameProgram
import Derived.WalkKit
import Derived.ProofKit
import Derived.OpenShut
import Derived.ShutString
import Derived.ChangeOld
import Derived.Below
import Derived.SizedLaws
import Derived.LaidMore
import Derived.Lay
import Derived.SevenTiedAt
import Derived.Stop.Joined
import Derived.Test.YtmdpggibcjkfoaaDoorTie
import Derived.Test.YtmdpggibcjkfoaaDoorCards
import Derived.Carry
namespace Go.Proofs.YtmdpggibcjkfoaaDoor.fnExactSameProgram
open Go.ChangeShapes Go.WideShapes Go.ChangeAt Go.RowKit Go.Deep Go.Proofs.YtmdpggibcjkfoaaDoor.MRead Go.Proofs.YtmdpggibcjkfoaaDoor.RdFnExactSameProgram Go.Proofs.YtmdpggibcjkfoaaDoorW.PrintWords Go.Proofs.YtmdpggibcjkfoaaDoor.PFnExactSameProgram
open Go.ChangeMaps (open_string shut_string)
set_option linter.unusedVariables false
theorem own : ownKnob Tryd.prog.godebug = none := by kernel_rfl
theorem laidOut : laidOutB Tryd.prog = true := by kernel_rfl
set_option maxRecDepth 100000 in
theorem lifted (os : Os) (started : os.Started) (H : Type) (enc : TypeId × Value → H) :
    ReturnsInHanded {} Tryd.checked os 8 .any (fun w args => (Rows.fnExactSameProgramSpec.pre enc Tryd.prog Tryd.f8 Rows.fnExactSameProgramRow.domain false w args ∧ laidMetH Tryd.prog Rows.fnExactSameProgramRow.laid w) ∧ sizedMet enc Tryd.prog Tryd.f8 (OpenSpec.ofChange Rows.fnExactSameProgramSpec) false w args) (Rows.fnExactSameProgramSpec.post enc Tryd.prog Tryd.f8 false true false false) := by
  refine returnsInHanded_of_change_and (C := Tryd.checked) (X := fun w _ => laidMetH Tryd.prog Rows.fnExactSameProgramRow.laid w) (fun _ _ _ hh h => h.of_heap hh) own started (by kernel_rfl) Tryd.func8
    (ChangeSpec.witness_shaped (enc := enc) (C := Tryd.checked) (os := os) (X := fun w _ => laidMetH Tryd.prog Rows.fnExactSameProgramRow.laid w) false (World.laidAll Tryd.prog os Rows.fnExactSameProgramRow.laid) #[.agg #[.slice none 0 0, .slice none 0 0], .agg #[.slice none 0 0, .slice none 0 0]] 8 (World.laidAll_os _ _ _)
      (World.shaped_of_ZipB (by kernel_rfl) (by kernel_rfl)) (by kernel_rfl) (by kernel_rfl) (by kernel_rfl)
      (by rw [MakeChecks.laidMetH_plain _ _ _ (by kernel_rfl)]; exact laidMet_laidAll _ (by kernel_rfl) (by kernel_rfl))) ?_
  intro W base args ds gs before hval0 hW hcnd hsz0 hL _
  have hsz : (DataW.weightsEach Tryd.prog (Tryd.f8.params.toList ++ Rows.fnExactSameProgramSpec.plain.varTypes Tryd.prog) (ds ++ gs)).all (· ≤ reachBytes) = true := hsz0
  have hval : ∀ (j : Nat) t v, Tryd.f8.params[j]? = some t → args[j]? = some v → Value.okWide Tryd.prog W .any base t v := hval0
  have hW' := hW
  obtain ⟨p, q, hA0, hV, rfl, hfz, hnd⟩ := hW
  have hA : DataW.TrodAll enc Tryd.prog W 0 (fun _ => true) true Tryd.f8.params.toList args.toList ds p := hA0
  rw [Tryd.params8] at hA hval hsz
  obtain ⟨v0, vs0, d0, ds0, p0, q0, hargs, rfl, rfl, h0, r0⟩ := trodAll_cons hA
  obtain ⟨v1, vs1, d1, ds1, p1, q1, rfl, rfl, rfl, h1, r1⟩ := trodAll_cons r0
  obtain ⟨rfl, rfl, rfl⟩ := trodAll_nil r1
  obtain rfl : args = #[v0, v1] := by cases args; simp_all
  obtain ⟨rfl, rfl⟩ := trodVars_none hV
  have k0 := h0
  have lt0 : ∀ x ∈ p0, x.block < W.heap.size := by obtain ⟨m, hm⟩ := k0; exact DataW.trod_lt m _ _ _ hm
  obtain ⟨cs0, rfl, hcs0⟩ := okWide_struct Tryd.underlying47 (hval 0 47 v0 rfl rfl)
  obtain ⟨fu0, hf0⟩ := h0
  obtain ⟨cl0⟩ := cs0
  obtain ⟨hl0, hg0⟩ := rd_fields Tryd.underlying47 (by kernel_rfl) (by kernel_rfl) hf0
  have hn0 : cl0.length = 2 := hl0
  obtain ⟨c0_0, c0_1, rfl⟩ := list2 hn0
  obtain ⟨n0_0, y0_0, h0_0⟩ := hg0 0 _ c0_0 rfl rfl
  obtain ⟨l0_0, ⟨A0_0, cc0_0, e0_0, hc0_0, hr0_0⟩, g0_0⟩ := (rd_slice 62 Tryd.underlying22 (by kernel_rfl) rd_k62) h0_0
  obtain rfl : c0_0 = .slice A0_0 l0_0.length cc0_0 := by simpa using e0_0
  obtain ⟨n0_1, y0_1, h0_1⟩ := hg0 1 _ c0_1 rfl rfl
  obtain ⟨l0_1, ⟨A0_1, cc0_1, e0_1, hc0_1, hr0_1⟩, g0_1⟩ := (rd_slice 114 Tryd.underlying45 (by kernel_rfl) rd_k114) h0_1
  obtain rfl : c0_1 = .slice A0_1 l0_1.length cc0_1 := by simpa using e0_1
  have k1 := h1
  have lt1 : ∀ x ∈ p1, x.block < W.heap.size := by obtain ⟨m, hm⟩ := k1; exact DataW.trod_lt m _ _ _ hm
  obtain ⟨cs1, rfl, hcs1⟩ := okWide_struct Tryd.underlying47 (hval 1 47 v1 rfl rfl)
  obtain ⟨fu1, hf1⟩ := h1
  obtain ⟨cl1⟩ := cs1
  obtain ⟨hl1, hg1⟩ := rd_fields Tryd.underlying47 (by kernel_rfl) (by kernel_rfl) hf1
  have hn1 : cl1.length = 2 := hl1
  obtain ⟨c1_0, c1_1, rfl⟩ := list2 hn1
  obtain ⟨n1_0, y1_0, h1_0⟩ := hg1 0 _ c1_0 rfl rfl
  obtain ⟨l1_0, ⟨A1_0, cc1_0, e1_0, hc1_0, hr1_0⟩, g1_0⟩ := (rd_slice 62 Tryd.underlying22 (by kernel_rfl) rd_k62) h1_0
  obtain rfl : c1_0 = .slice A1_0 l1_0.length cc1_0 := by simpa using e1_0
  obtain ⟨n1_1, y1_1, h1_1⟩ := hg1 1 _ c1_1 rfl rfl
  obtain ⟨l1_1, ⟨A1_1, cc1_1, e1_1, hc1_1, hr1_1⟩, g1_1⟩ := (rd_slice 114 Tryd.underlying45 (by kernel_rfl) rd_k114) h1_1
  obtain rfl : c1_1 = .slice A1_1 l1_1.length cc1_1 := by simpa using e1_1
  clear hA0 hval0 hsz0 hsz
  obtain ⟨k, hp⟩ := Pure.FnExactSameProgram l0_0 l0_1 l1_0 l1_1 g0_0 g0_1 g1_0 g1_1
  refine (laws_FnExactSameProgram.calls (k := k) (r := true) (w := W) (l0_0 := l0_0) (hr0_0 := hr0_0) (hc0_0 := hc0_0) (l0_1 := l0_1) (hr0_1 := hr0_1) (hc0_1 := hc0_1) (l1_0 := l1_0) (hr1_0 := hr1_0) (hc1_0 := hc1_0) (l1_1 := l1_1) (hr1_1 := hr1_1) (hc1_1 := hc1_1) (hrt := ⟨rfl⟩) (h := hp)).mono fun e W' hz => ?_
  obtain ⟨he, bel0⟩ := hz
  have bel : Below W.heap.size W W' := bel0
  subst he
  exact ⟨_, rfl, _, _, _, [], _, [], hW', trodAll_mk1 (shut_bool Tryd.underlying4 _), (trodAll_cons_mk (Below.trod laidOut (by kernel_rfl) (of_decide_eq_true (by kernel_rfl)) k0 bel lt0) (trodAll_cons_mk (Below.trod laidOut (by kernel_rfl) (of_decide_eq_true (by kernel_rfl)) k1 bel lt1) trodAll_mk0)), rfl, bel.frame _, fun h => by cases h⟩
theorem over : Rows.fnExactSameProgramRow.holds Tryd.pinned (OpenSpec.ofChange Rows.fnExactSameProgramSpec) :=
  OpenClaim.holds_of_wide 8 Tryd.f8 rfl rfl rfl rfl rfl rfl rfl ⟨rfl, rfl, rfl, rfl, rfl⟩ rfl rfl rfl rfl rfl (by kernel_rfl) Tryd.func8 (by kernel_rfl)
    (of_decide_eq_true (by kernel_rfl)) (by unfold Func.isWrapper; first | (rw [if_pos (by decide +kernel)]; kernel_rfl) | (rw [if_neg (by decide +kernel)]; exact ⟨rfl, rfl⟩))
    (fun os started H enc _ => lifted os started H enc)
theorem proved : Rows.FnExactSameProgramSaid := over
#print axioms proved
end Go.Proofs.YtmdpggibcjkfoaaDoor.fnExactSameProgram
namespace Go.Proofs.YtmdpggibcjkfoaaDoor
set_option maxRecDepth 100000 in
/-- The tied card: the row, its listed variables tied to the program's text by the given tie. -/
theorem fnExactSameProgram_card_holds : Rows.FnExactSameProgramCardSaid :=
  Claim7.holds_tied_plain_at .later [] [.data, .pinned] true (true, "1c1065bf1f72a10d891e9be10998de40eeb4dd10b1c753a56892c12dd6b864d0") true fnExactSameProgram.proved (fun _ h => by cases h) (by kernel_rfl) (fun _ h => by cases h) fnExactSameProgram_row_tie rfl ⟨rfl, rfl⟩ (by kernel_rfl) rfl
    (fun f fn hf hfn => by
      obtain rfl : f = 8 := Option.some.inj ((show Tryd.prog.funcNamed "loop.example/g00423/laws.FnExactSameProgram" = some 8 by kernel_rfl).symm.trans hf) |>.symm
      obtain rfl : fn = Tryd.f8 := (Option.some.inj (Tryd.func8.symm.trans hfn)).symm
      exact ⟨by kernel_rfl, fun j t ht => by
        rw [Tryd.params8] at ht
        have hm : t ∈ [47, 47] := by simpa using Array.mem_of_getElem? ht
        have hall : ([47, 47].all fun u => !Tryd.prog.wantsStandIn u) = true := by kernel_rfl
        exact (show Tryd.prog.wantsStandIn t = false by simpa using List.all_eq_true.1 hall t hm)⟩)
    (by kernel_rfl)
#print axioms fnExactSameProgram_card_holds
end Go.Proofs.YtmdpggibcjkfoaaDoor
