/- What is known of each part of what the law FnExactSignText is handed, and that the reading tells it. No condition. -/
import Derived.Test.YtodicbbeaidibaaDoorMRead
import Derived.Test.YtodicbbeaidibaaDoorPFnExactSignTextx0
set_option linter.unusedVariables false
namespace Go.Proofs.YtodicbbeaidibaaDoor.RdFnExactSignText
open Go.RowKit Go.ChangeShapes Go.WideShapes Go.Deep Go.Proofs.YtodicbbeaidibaaDoorW.PrintWords Go.Proofs.YtodicbbeaidibaaDoor.MRead Go.Proofs.YtodicbbeaidibaaDoor.PFnExactSignText
def G44 (x : S44) : Prop := (Lit.int .i64 x.f0).wf = true ∧ x.f1.size ≤ maxLen ∧ (Lit.int .i64 x.f2).wf = true
theorem rd_k44 : Rd Tryd.prog 44 k44 (fun x => G44 x) := by
  intro H enc w base spare held fuel cs y h
  obtain ⟨hl, hf⟩ := rd_fields Tryd.underlying44 (by kernel_rfl) (by kernel_rfl) h
  match cs, hl with
  | [c0, c1, c2], _ =>
    obtain ⟨n0, y0, h0⟩ := hf 0 _ c0 rfl rfl
    obtain ⟨a0, K0, G0⟩ := (rd_int Tryd.underlying3) h0
    obtain ⟨n1, y1, h1⟩ := hf 1 _ c1 rfl rfl
    obtain ⟨a1, K1, G1⟩ := (rd_string Tryd.underlying9) h1
    obtain ⟨n2, y2, h2⟩ := hf 2 _ c2 rfl rfl
    obtain ⟨a2, K2, G2⟩ := (rd_int Tryd.underlying3) h2
    exact ⟨⟨a0, a1, a2⟩, ⟨[c0], [c1, c2], rfl, K0, ⟨[c1], [c2], rfl, K1, K2⟩⟩, G0, G1, G2⟩
end Go.Proofs.YtodicbbeaidibaaDoor.RdFnExactSignText
