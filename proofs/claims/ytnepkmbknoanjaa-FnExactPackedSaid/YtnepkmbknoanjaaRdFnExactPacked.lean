/- What is known of each part of what the law FnExactPacked is handed, and that the reading tells it. No condition. -/
import Derived.Test.YtnepkmbknoanjaaVRFnExactPacked
import Derived.Test.YtnepkmbknoanjaaPFnExactPackedx0
set_option linter.unusedVariables false
namespace Go.Proofs.Ytnepkmbknoanjaa.RdFnExactPacked
open Go.RowKit Go.ChangeShapes Go.WideShapes Go.Deep Go.Proofs.YtnepkmbknoanjaaW.PrintWords Go.Proofs.Ytnepkmbknoanjaa.MRead Go.Proofs.Ytnepkmbknoanjaa.PFnExactPacked
def G58 (x : S58) : Prop := (Lit.int .i64 x.f0).wf = true ∧ (Lit.int .i64 x.f1).wf = true ∧ x.f2.size ≤ maxLen ∧ (x.f3.length ≤ maxLen ∧ ∀ a ∈ x.f3, (Lit.int .i64 a).wf = true)
theorem rd_k58 : Rd Try.prog 58 k58 (fun x => G58 x) := by
  intro H enc w base spare held fuel cs y h
  obtain ⟨hl, hf⟩ := rd_fields Try.underlying58 (by kernel_rfl) (by kernel_rfl) h
  match cs, hl with
  | [c0, c1, c2, c3], _ =>
    obtain ⟨n0, y0, h0⟩ := hf 0 _ c0 rfl rfl
    obtain ⟨a0, K0, G0⟩ := (rd_int Try.underlying3) h0
    obtain ⟨n1, y1, h1⟩ := hf 1 _ c1 rfl rfl
    obtain ⟨a1, K1, G1⟩ := (rd_int Try.underlying3) h1
    obtain ⟨n2, y2, h2⟩ := hf 2 _ c2 rfl rfl
    obtain ⟨a2, K2, G2⟩ := (rd_string Try.underlying9) h2
    obtain ⟨n3, y3, h3⟩ := hf 3 _ c3 rfl rfl
    obtain ⟨a3, K3, G3⟩ := (rd_slice 3 Try.underlying56 (by kernel_rfl) (rd_int Try.underlying3)) h3
    exact ⟨⟨a0, a1, a2, a3⟩, ⟨[c0], [c1, c2, c3], rfl, K0, ⟨[c1], [c2, c3], rfl, K1, ⟨[c2], [c3], rfl, K2, K3⟩⟩⟩, G0, G1, G2, G3⟩
def G82 (x : S82) : Prop := x.f0.size ≤ maxLen ∧ (Lit.int .i64 x.f1).wf = true
theorem rd_k82 : Rd Try.prog 82 k82 (fun x => G82 x) := by
  intro H enc w base spare held fuel cs y h
  obtain ⟨hl, hf⟩ := rd_fields Try.underlying82 (by kernel_rfl) (by kernel_rfl) h
  match cs, hl with
  | [c0, c1], _ =>
    obtain ⟨n0, y0, h0⟩ := hf 0 _ c0 rfl rfl
    obtain ⟨a0, K0, G0⟩ := (rd_string Try.underlying9) h0
    obtain ⟨n1, y1, h1⟩ := hf 1 _ c1 rfl rfl
    obtain ⟨a1, K1, G1⟩ := (rd_int Try.underlying3) h1
    exact ⟨⟨a0, a1⟩, ⟨[c0], [c1], rfl, K0, K1⟩, G0, G1⟩
def G62 (x : S62) : Prop := x.f0.size ≤ maxLen ∧ (x.f1.length ≤ maxLen ∧ ∀ a ∈ x.f1, G82 a) ∧ (Lit.int .i64 x.f2).wf = true ∧ (Lit.int .i64 x.f3).wf = true ∧ (Lit.int .i64 x.f4).wf = true
theorem rd_k62 : Rd Try.prog 62 k62 (fun x => G62 x) := by
  intro H enc w base spare held fuel cs y h
  obtain ⟨hl, hf⟩ := rd_fields Try.underlying62 (by kernel_rfl) (by kernel_rfl) h
  match cs, hl with
  | [c0, c1, c2, c3, c4], _ =>
    obtain ⟨n0, y0, h0⟩ := hf 0 _ c0 rfl rfl
    obtain ⟨a0, K0, G0⟩ := (rd_string Try.underlying9) h0
    obtain ⟨n1, y1, h1⟩ := hf 1 _ c1 rfl rfl
    obtain ⟨a1, K1, G1⟩ := (rd_slice 82 Try.underlying60 (by kernel_rfl) rd_k82) h1
    obtain ⟨n2, y2, h2⟩ := hf 2 _ c2 rfl rfl
    obtain ⟨a2, K2, G2⟩ := (rd_int Try.underlying3) h2
    obtain ⟨n3, y3, h3⟩ := hf 3 _ c3 rfl rfl
    obtain ⟨a3, K3, G3⟩ := (rd_int Try.underlying3) h3
    obtain ⟨n4, y4, h4⟩ := hf 4 _ c4 rfl rfl
    obtain ⟨a4, K4, G4⟩ := (rd_int Try.underlying3) h4
    exact ⟨⟨a0, a1, a2, a3, a4⟩, ⟨[c0], [c1, c2, c3, c4], rfl, K0, ⟨[c1], [c2, c3, c4], rfl, K1, ⟨[c2], [c3, c4], rfl, K2, ⟨[c3], [c4], rfl, K3, K4⟩⟩⟩⟩, G0, G1, G2, G3, G4⟩
end Go.Proofs.Ytnepkmbknoanjaa.RdFnExactPacked
