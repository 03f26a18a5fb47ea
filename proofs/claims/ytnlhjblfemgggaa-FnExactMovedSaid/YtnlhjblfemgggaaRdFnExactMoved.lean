/- What is known of each part of what the law FnExactMoved is handed, and that the reading tells it. No condition. -/
import Derived.Test.YtnlhjblfemgggaaVRFnExactMoved
import Derived.Test.YtnlhjblfemgggaaPFnExactMovedx0
set_option linter.unusedVariables false
namespace Go.Proofs.Ytnlhjblfemgggaa.RdFnExactMoved
open Go.RowKit Go.ChangeShapes Go.WideShapes Go.Deep Go.Proofs.YtnlhjblfemgggaaW.PrintWords Go.Proofs.Ytnlhjblfemgggaa.MRead Go.Proofs.Ytnlhjblfemgggaa.PFnExactMoved
def G98 (x : S98) : Prop := True ∧ (Lit.int .i64 x.f1).wf = true
theorem rd_k98 : Rd Try.prog 98 k98 (fun x => G98 x) := by
  intro H enc w base spare held fuel cs y h
  obtain ⟨hl, hf⟩ := rd_fields Try.underlying98 (by kernel_rfl) (by kernel_rfl) h
  match cs, hl with
  | [c0, c1], _ =>
    obtain ⟨n0, y0, h0⟩ := hf 0 _ c0 rfl rfl
    obtain ⟨a0, K0, G0⟩ := (rd_bool Try.underlying4) h0
    obtain ⟨n1, y1, h1⟩ := hf 1 _ c1 rfl rfl
    obtain ⟨a1, K1, G1⟩ := (rd_int Try.underlying3) h1
    exact ⟨⟨a0, a1⟩, ⟨[c0], [c1], rfl, K0, K1⟩, G0, G1⟩
end Go.Proofs.Ytnlhjblfemgggaa.RdFnExactMoved
