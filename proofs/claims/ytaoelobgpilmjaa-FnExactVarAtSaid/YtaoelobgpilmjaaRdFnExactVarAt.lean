/- What is known of each part of what the law FnExactVarAt is handed, and that the reading tells it. No condition. -/
import Derived.Test.YtaoelobgpilmjaaMRead
import Derived.Test.YtaoelobgpilmjaaPFnExactVarAtx0
set_option linter.unusedVariables false
namespace Go.Proofs.Ytaoelobgpilmjaa.RdFnExactVarAt
open Go.RowKit Go.ChangeShapes Go.WideShapes Go.Deep Go.Proofs.YtaoelobgpilmjaaW.PrintWords Go.Proofs.Ytaoelobgpilmjaa.MRead Go.Proofs.Ytaoelobgpilmjaa.PFnExactVarAt
def G91 (x : S91) : Prop := x.f0.size ≤ maxLen ∧ (Lit.int .i64 x.f1).wf = true ∧ (Lit.int .i64 x.f2).wf = true
theorem rd_k91 : Rd Try.prog 91 k91 (fun x => G91 x) := by
  intro H enc w base spare held fuel cs y h
  obtain ⟨hl, hf⟩ := rd_fields Try.underlying91 (by kernel_rfl) (by kernel_rfl) h
  match cs, hl with
  | [c0, c1, c2], _ =>
    obtain ⟨n0, y0, h0⟩ := hf 0 _ c0 rfl rfl
    obtain ⟨a0, K0, G0⟩ := (rd_string Try.underlying9) h0
    obtain ⟨n1, y1, h1⟩ := hf 1 _ c1 rfl rfl
    obtain ⟨a1, K1, G1⟩ := (rd_int Try.underlying3) h1
    obtain ⟨n2, y2, h2⟩ := hf 2 _ c2 rfl rfl
    obtain ⟨a2, K2, G2⟩ := (rd_int Try.underlying3) h2
    exact ⟨⟨a0, a1, a2⟩, ⟨[c0], [c1, c2], rfl, K0, ⟨[c1], [c2], rfl, K1, K2⟩⟩, G0, G1, G2⟩
end Go.Proofs.Ytaoelobgpilmjaa.RdFnExactVarAt
