/- What is known of each part of what the law FnExactCopyNodes is handed, and that the reading tells it. No condition. -/
import Derived.Test.YtnepkmbknoanjaaDoorVRFnExactCopyNodes
import Derived.Test.YtnepkmbknoanjaaDoorPFnExactCopyNodesx0
set_option linter.unusedVariables false
namespace Go.Proofs.YtnepkmbknoanjaaDoor.RdFnExactCopyNodes
open Go.RowKit Go.ChangeShapes Go.WideShapes Go.Deep Go.Proofs.YtnepkmbknoanjaaDoorW.PrintWords Go.Proofs.YtnepkmbknoanjaaDoor.MRead Go.Proofs.YtnepkmbknoanjaaDoor.PFnExactCopyNodes
def G45 (x : S45) : Prop := (Lit.int .i64 x.f0).wf = true ∧ (Lit.int .i64 x.f1).wf = true ∧ x.f2.size ≤ maxLen ∧ (x.f3.length ≤ maxLen ∧ ∀ a ∈ x.f3, (Lit.int .i64 a).wf = true)
theorem rd_k45 : Rd Tryd.prog 45 k45 (fun x => G45 x) := by
  intro H enc w base spare held fuel cs y h
  obtain ⟨hl, hf⟩ := rd_fields Tryd.underlying45 (by kernel_rfl) (by kernel_rfl) h
  match cs, hl with
  | [c0, c1, c2, c3], _ =>
    obtain ⟨n0, y0, h0⟩ := hf 0 _ c0 rfl rfl
    obtain ⟨a0, K0, G0⟩ := (rd_int Tryd.underlying3) h0
    obtain ⟨n1, y1, h1⟩ := hf 1 _ c1 rfl rfl
    obtain ⟨a1, K1, G1⟩ := (rd_int Tryd.underlying3) h1
    obtain ⟨n2, y2, h2⟩ := hf 2 _ c2 rfl rfl
    obtain ⟨a2, K2, G2⟩ := (rd_string Tryd.underlying9) h2
    obtain ⟨n3, y3, h3⟩ := hf 3 _ c3 rfl rfl
    obtain ⟨a3, K3, G3⟩ := (rd_slice 3 Tryd.underlying43 (by kernel_rfl) (rd_int Tryd.underlying3)) h3
    exact ⟨⟨a0, a1, a2, a3⟩, ⟨[c0], [c1, c2, c3], rfl, K0, ⟨[c1], [c2, c3], rfl, K1, ⟨[c2], [c3], rfl, K2, K3⟩⟩⟩, G0, G1, G2, G3⟩
def G86 (x : S86) : Prop := x.f0.size ≤ maxLen ∧ (Lit.int .i64 x.f1).wf = true
theorem rd_k86 : Rd Tryd.prog 86 k86 (fun x => G86 x) := by
  intro H enc w base spare held fuel cs y h
  obtain ⟨hl, hf⟩ := rd_fields Tryd.underlying86 (by kernel_rfl) (by kernel_rfl) h
  match cs, hl with
  | [c0, c1], _ =>
    obtain ⟨n0, y0, h0⟩ := hf 0 _ c0 rfl rfl
    obtain ⟨a0, K0, G0⟩ := (rd_string Tryd.underlying9) h0
    obtain ⟨n1, y1, h1⟩ := hf 1 _ c1 rfl rfl
    obtain ⟨a1, K1, G1⟩ := (rd_int Tryd.underlying3) h1
    exact ⟨⟨a0, a1⟩, ⟨[c0], [c1], rfl, K0, K1⟩, G0, G1⟩
def G64 (x : S64) : Prop := x.f0.size ≤ maxLen ∧ (x.f1.length ≤ maxLen ∧ ∀ a ∈ x.f1, G86 a) ∧ (Lit.int .i64 x.f2).wf = true ∧ (Lit.int .i64 x.f3).wf = true ∧ (Lit.int .i64 x.f4).wf = true
theorem rd_k64 : Rd Tryd.prog 64 k64 (fun x => G64 x) := by
  intro H enc w base spare held fuel cs y h
  obtain ⟨hl, hf⟩ := rd_fields Tryd.underlying64 (by kernel_rfl) (by kernel_rfl) h
  match cs, hl with
  | [c0, c1, c2, c3, c4], _ =>
    obtain ⟨n0, y0, h0⟩ := hf 0 _ c0 rfl rfl
    obtain ⟨a0, K0, G0⟩ := (rd_string Tryd.underlying9) h0
    obtain ⟨n1, y1, h1⟩ := hf 1 _ c1 rfl rfl
    obtain ⟨a1, K1, G1⟩ := (rd_slice 86 Tryd.underlying62 (by kernel_rfl) rd_k86) h1
    obtain ⟨n2, y2, h2⟩ := hf 2 _ c2 rfl rfl
    obtain ⟨a2, K2, G2⟩ := (rd_int Tryd.underlying3) h2
    obtain ⟨n3, y3, h3⟩ := hf 3 _ c3 rfl rfl
    obtain ⟨a3, K3, G3⟩ := (rd_int Tryd.underlying3) h3
    obtain ⟨n4, y4, h4⟩ := hf 4 _ c4 rfl rfl
    obtain ⟨a4, K4, G4⟩ := (rd_int Tryd.underlying3) h4
    exact ⟨⟨a0, a1, a2, a3, a4⟩, ⟨[c0], [c1, c2, c3, c4], rfl, K0, ⟨[c1], [c2, c3, c4], rfl, K1, ⟨[c2], [c3, c4], rfl, K2, ⟨[c3], [c4], rfl, K3, K4⟩⟩⟩⟩, G0, G1, G2, G3, G4⟩
end Go.Proofs.YtnepkmbknoanjaaDoor.RdFnExactCopyNodes
