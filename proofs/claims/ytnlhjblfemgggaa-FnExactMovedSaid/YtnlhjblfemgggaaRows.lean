/-
  No cell of these rows narrows 'for every input' (looked for: loops, veiled, ifaces, maps, wideKeys, modest, calm, conditions, laid).
  DERIVED. THE GIVEN ROWS OF THIS SEAT. 7 by the template 'for every input the law returns true; each argument reads behind the call as it read before'; 0 by the template 'total and deterministic' (their statements: YtnlhjblfemgggaaTotals.lean).
  GIVEN WITH THE SEED: the statements are not yours to turn. If you find one false, say at which input.
  Laid BY PROGRAM, IN A SANDBOX (cutbox-rows.mjs): the forced cells as the released guide's own fill.sh prints them over the translation fbbfbe99555ae90f… (all of the seat's roots in one cut). By AI agents, Wed Nov 11 2026. No macro, syntax, notation, axiom, sorry.
-/
import Derived.Test.YtnlhjblfemgggaaChecked
import GoSem.Claim
import GoSem.ClaimJoined
import GoSem.ClaimMapViews
import Derived.JoinedTies
import Derived.KernelRfl
namespace Go.Proofs.Ytnlhjblfemgggaa
/- THE CELL 'sum', in the pinned program and in every row, IS THE sha256 OF THE DUMP (.gsa) THAT YtnlhjblfemgggaaProg.lean LOADS. Nothing in Lean hashes anything: it is a label: what it is worth is what the hold of that sum in a sandbox is worth. -/
noncomputable def Try.pinned : Pinned := { name := "ytnlhjblfemgggaa", sum := "fbbfbe99555ae90f5176de5e892664d0e9abf9c4c98bbff601731c22d2efecbc", checked := Try.checked }
namespace Rows
def none {H : Type} : Left H := { results := [], args := [] }

/-- 'laws.FnTurned': WHATEVER THE INPUT: true; the input reads as it did. -/
def fnTurnedSpec : ChangeSpec := { name := "fnTurned", fn := fun _ => fun
  | [d] => { results := [.lit (.bool true)], args := [d] }
  | _ => none }
def fnTurnedRow : OpenClaim := { program := "ytnlhjblfemgggaa", sum := "fbbfbe99555ae90f5176de5e892664d0e9abf9c4c98bbff601731c22d2efecbc", func := "loop.example/g00423/laws.FnTurned", spec := "fnTurned", apart := false }
def FnTurnedSaid : Prop := fnTurnedRow.holds Try.pinned (OpenSpec.ofChange fnTurnedSpec)

/-- ITS FALSE NEIGHBOUR: 'it returns false'. Refute it at one input. -/
def fnTurnedWrong : ChangeSpec := { name := "fnTurned", fn := fun _ => fun
  | [d] => { results := [.lit (.bool false)], args := [d] }
  | _ => none }
def FnTurnedWrongFalsely : Prop := fnTurnedRow.holds Try.pinned (OpenSpec.ofChange fnTurnedWrong)

/-- 'laws.FnMemories': WHATEVER THE INPUT: true; the input reads as it did. -/
def fnMemoriesSpec : ChangeSpec := { name := "fnMemories", fn := fun _ => fun
  | [d] => { results := [.lit (.bool true)], args := [d] }
  | _ => none }
def fnMemoriesRow : OpenClaim := { program := "ytnlhjblfemgggaa", sum := "fbbfbe99555ae90f5176de5e892664d0e9abf9c4c98bbff601731c22d2efecbc", func := "loop.example/g00423/laws.FnMemories", spec := "fnMemories", apart := false }
def FnMemoriesSaid : Prop := fnMemoriesRow.holds Try.pinned (OpenSpec.ofChange fnMemoriesSpec)

/-- ITS FALSE NEIGHBOUR: 'it returns false'. Refute it at one input. -/
def fnMemoriesWrong : ChangeSpec := { name := "fnMemories", fn := fun _ => fun
  | [d] => { results := [.lit (.bool false)], args := [d] }
  | _ => none }
def FnMemoriesWrongFalsely : Prop := fnMemoriesRow.holds Try.pinned (OpenSpec.ofChange fnMemoriesWrong)

/-- 'laws.FnExactFreed': WHATEVER THE INPUT: true; the input reads as it did. -/
def fnExactFreedSpec : ChangeSpec := { name := "fnExactFreed", fn := fun _ => fun
  | [d1, d2] => { results := [.lit (.bool true)], args := [d1, d2] }
  | _ => none }
def fnExactFreedRow : OpenClaim := { program := "ytnlhjblfemgggaa", sum := "fbbfbe99555ae90f5176de5e892664d0e9abf9c4c98bbff601731c22d2efecbc", func := "loop.example/g00423/laws.FnExactFreed", spec := "fnExactFreed", apart := false }
def FnExactFreedSaid : Prop := fnExactFreedRow.holds Try.pinned (OpenSpec.ofChange fnExactFreedSpec)

/-- ITS FALSE NEIGHBOUR: 'it returns false'. Refute it at one input. -/
def fnExactFreedWrong : ChangeSpec := { name := "fnExactFreed", fn := fun _ => fun
  | [d1, d2] => { results := [.lit (.bool false)], args := [d1, d2] }
  | _ => none }
def FnExactFreedWrongFalsely : Prop := fnExactFreedRow.holds Try.pinned (OpenSpec.ofChange fnExactFreedWrong)

/-- 'laws.FnExactAsked': WHATEVER THE INPUT: true; the input reads as it did. -/
def fnExactAskedSpec : ChangeSpec := { name := "fnExactAsked", fn := fun _ => fun
  | [d] => { results := [.lit (.bool true)], args := [d] }
  | _ => none }
def fnExactAskedRow : OpenClaim := { program := "ytnlhjblfemgggaa", sum := "fbbfbe99555ae90f5176de5e892664d0e9abf9c4c98bbff601731c22d2efecbc", func := "loop.example/g00423/laws.FnExactAsked", spec := "fnExactAsked", apart := false }
def FnExactAskedSaid : Prop := fnExactAskedRow.holds Try.pinned (OpenSpec.ofChange fnExactAskedSpec)

/-- ITS FALSE NEIGHBOUR: 'it returns false'. Refute it at one input. -/
def fnExactAskedWrong : ChangeSpec := { name := "fnExactAsked", fn := fun _ => fun
  | [d] => { results := [.lit (.bool false)], args := [d] }
  | _ => none }
def FnExactAskedWrongFalsely : Prop := fnExactAskedRow.holds Try.pinned (OpenSpec.ofChange fnExactAskedWrong)

/-- 'laws.FnExactWritten': WHATEVER THE INPUT: true; the input reads as it did. -/
def fnExactWrittenSpec : ChangeSpec := { name := "fnExactWritten", fn := fun _ => fun
  | [d1, d2, d3] => { results := [.lit (.bool true)], args := [d1, d2, d3] }
  | _ => none }
def fnExactWrittenRow : OpenClaim := { program := "ytnlhjblfemgggaa", sum := "fbbfbe99555ae90f5176de5e892664d0e9abf9c4c98bbff601731c22d2efecbc", func := "loop.example/g00423/laws.FnExactWritten", spec := "fnExactWritten", apart := false }
def FnExactWrittenSaid : Prop := fnExactWrittenRow.holds Try.pinned (OpenSpec.ofChange fnExactWrittenSpec)

/-- ITS FALSE NEIGHBOUR: 'it returns false'. Refute it at one input. -/
def fnExactWrittenWrong : ChangeSpec := { name := "fnExactWritten", fn := fun _ => fun
  | [d1, d2, d3] => { results := [.lit (.bool false)], args := [d1, d2, d3] }
  | _ => none }
def FnExactWrittenWrongFalsely : Prop := fnExactWrittenRow.holds Try.pinned (OpenSpec.ofChange fnExactWrittenWrong)

/-- 'laws.FnExactLooked': WHATEVER THE INPUT: true; the input reads as it did. -/
def fnExactLookedSpec : ChangeSpec := { name := "fnExactLooked", fn := fun _ => fun
  | [d1, d2] => { results := [.lit (.bool true)], args := [d1, d2] }
  | _ => none }
def fnExactLookedRow : OpenClaim := { program := "ytnlhjblfemgggaa", sum := "fbbfbe99555ae90f5176de5e892664d0e9abf9c4c98bbff601731c22d2efecbc", func := "loop.example/g00423/laws.FnExactLooked", spec := "fnExactLooked", apart := false }
def FnExactLookedSaid : Prop := fnExactLookedRow.holds Try.pinned (OpenSpec.ofChange fnExactLookedSpec)

/-- ITS FALSE NEIGHBOUR: 'it returns false'. Refute it at one input. -/
def fnExactLookedWrong : ChangeSpec := { name := "fnExactLooked", fn := fun _ => fun
  | [d1, d2] => { results := [.lit (.bool false)], args := [d1, d2] }
  | _ => none }
def FnExactLookedWrongFalsely : Prop := fnExactLookedRow.holds Try.pinned (OpenSpec.ofChange fnExactLookedWrong)

/-- 'laws.FnExactMoved': WHATEVER THE INPUT: true; the input reads as it did. -/
def fnExactMovedSpec : ChangeSpec := { name := "fnExactMoved", fn := fun _ => fun
  | [d1, d2] => { results := [.lit (.bool true)], args := [d1, d2] }
  | _ => none }
def fnExactMovedRow : OpenClaim := { program := "ytnlhjblfemgggaa", sum := "fbbfbe99555ae90f5176de5e892664d0e9abf9c4c98bbff601731c22d2efecbc", func := "loop.example/g00423/laws.FnExactMoved", spec := "fnExactMoved", apart := false }
def FnExactMovedSaid : Prop := fnExactMovedRow.holds Try.pinned (OpenSpec.ofChange fnExactMovedSpec)

/-- ITS FALSE NEIGHBOUR: 'it returns false'. Refute it at one input. -/
def fnExactMovedWrong : ChangeSpec := { name := "fnExactMoved", fn := fun _ => fun
  | [d1, d2] => { results := [.lit (.bool false)], args := [d1, d2] }
  | _ => none }
def FnExactMovedWrongFalsely : Prop := fnExactMovedRow.holds Try.pinned (OpenSpec.ofChange fnExactMovedWrong)

/- THE SECOND FORM. 'bulk': how many values and letters a reading holds, each counted each time it is reached (what is shared counts as often as it is met; a slice's spare places count too). A statement '..UptoSaid' is the law's where the arguments, and the package variables that the reading takes, are together of bulk at most 1048576: NARROWER than '..Said'. Prove '..Said' where nothing that the law and all that it calls make is longer than what came in: it says more and counts as full. Else prove '..UptoSaid'. A law counts once. -/
mutual
def uptoBulk {H : Type} : DataW H → Nat
  | .lit (.string bytes) => bytes.length + 1
  | .lit _ => 1
  | .nil => 1
  | .ptr d => uptoBulk d + 1
  | .slice elems spare => uptoBulkAll elems + uptoBulkAll spare + 1
  | .agg parts => uptoBulkAll parts + 1
  | .iface _ d => uptoBulk d + 1
  | .map entries => uptoBulkEntries entries + 1
  | .held _ => 1
def uptoBulkAll {H : Type} : List (DataW H) → Nat
  | [] => 0
  | d :: r => uptoBulk d + uptoBulkAll r
def uptoBulkEntries {H : Type} : List (Lit × DataW H) → Nat
  | [] => 0
  | x :: r => uptoBulkEntry x + uptoBulkEntries r
def uptoBulkEntry {H : Type} : Lit × DataW H → Nat
  | (.string bytes, d) => bytes.length + uptoBulk d + 1
  | (_, d) => uptoBulk d + 1
 end
def uptoSmall : (H : Type) → List (DataW H) → Bool := fun _ ds => decide (uptoBulkAll ds ≤ 1048576)
def OpenSpec.upto (s : _root_.Go.ChangeSpec) : _root_.Go.OpenSpec := { _root_.Go.OpenSpec.ofChange s with cond := some uptoSmall }

/-- 'laws.FnTurned', WHERE WHAT IT READS IS OF BULK AT MOST 1048576: true; the input reads as it did. -/
def fnTurnedUptoRow : OpenClaim := { program := "ytnlhjblfemgggaa", sum := "fbbfbe99555ae90f5176de5e892664d0e9abf9c4c98bbff601731c22d2efecbc", func := "loop.example/g00423/laws.FnTurned", spec := "fnTurned", apart := false, narrowed := true }
def FnTurnedUptoSaid : Prop := fnTurnedUptoRow.holds Try.pinned (OpenSpec.upto fnTurnedSpec)

/-- 'laws.FnMemories', WHERE WHAT IT READS IS OF BULK AT MOST 1048576: true; the input reads as it did. -/
def fnMemoriesUptoRow : OpenClaim := { program := "ytnlhjblfemgggaa", sum := "fbbfbe99555ae90f5176de5e892664d0e9abf9c4c98bbff601731c22d2efecbc", func := "loop.example/g00423/laws.FnMemories", spec := "fnMemories", apart := false, narrowed := true }
def FnMemoriesUptoSaid : Prop := fnMemoriesUptoRow.holds Try.pinned (OpenSpec.upto fnMemoriesSpec)

/-- 'laws.FnExactFreed', WHERE WHAT IT READS IS OF BULK AT MOST 1048576: true; the input reads as it did. -/
def fnExactFreedUptoRow : OpenClaim := { program := "ytnlhjblfemgggaa", sum := "fbbfbe99555ae90f5176de5e892664d0e9abf9c4c98bbff601731c22d2efecbc", func := "loop.example/g00423/laws.FnExactFreed", spec := "fnExactFreed", apart := false, narrowed := true }
def FnExactFreedUptoSaid : Prop := fnExactFreedUptoRow.holds Try.pinned (OpenSpec.upto fnExactFreedSpec)

/-- 'laws.FnExactAsked', WHERE WHAT IT READS IS OF BULK AT MOST 1048576: true; the input reads as it did. -/
def fnExactAskedUptoRow : OpenClaim := { program := "ytnlhjblfemgggaa", sum := "fbbfbe99555ae90f5176de5e892664d0e9abf9c4c98bbff601731c22d2efecbc", func := "loop.example/g00423/laws.FnExactAsked", spec := "fnExactAsked", apart := false, narrowed := true }
def FnExactAskedUptoSaid : Prop := fnExactAskedUptoRow.holds Try.pinned (OpenSpec.upto fnExactAskedSpec)

/-- 'laws.FnExactWritten', WHERE WHAT IT READS IS OF BULK AT MOST 1048576: true; the input reads as it did. -/
def fnExactWrittenUptoRow : OpenClaim := { program := "ytnlhjblfemgggaa", sum := "fbbfbe99555ae90f5176de5e892664d0e9abf9c4c98bbff601731c22d2efecbc", func := "loop.example/g00423/laws.FnExactWritten", spec := "fnExactWritten", apart := false, narrowed := true }
def FnExactWrittenUptoSaid : Prop := fnExactWrittenUptoRow.holds Try.pinned (OpenSpec.upto fnExactWrittenSpec)

/-- 'laws.FnExactLooked', WHERE WHAT IT READS IS OF BULK AT MOST 1048576: true; the input reads as it did. -/
def fnExactLookedUptoRow : OpenClaim := { program := "ytnlhjblfemgggaa", sum := "fbbfbe99555ae90f5176de5e892664d0e9abf9c4c98bbff601731c22d2efecbc", func := "loop.example/g00423/laws.FnExactLooked", spec := "fnExactLooked", apart := false, narrowed := true }
def FnExactLookedUptoSaid : Prop := fnExactLookedUptoRow.holds Try.pinned (OpenSpec.upto fnExactLookedSpec)

/-- 'laws.FnExactMoved', WHERE WHAT IT READS IS OF BULK AT MOST 1048576: true; the input reads as it did. -/
def fnExactMovedUptoRow : OpenClaim := { program := "ytnlhjblfemgggaa", sum := "fbbfbe99555ae90f5176de5e892664d0e9abf9c4c98bbff601731c22d2efecbc", func := "loop.example/g00423/laws.FnExactMoved", spec := "fnExactMoved", apart := false, narrowed := true }
def FnExactMovedUptoSaid : Prop := fnExactMovedUptoRow.holds Try.pinned (OpenSpec.upto fnExactMovedSpec)

end Rows
end Go.Proofs.Ytnlhjblfemgggaa
