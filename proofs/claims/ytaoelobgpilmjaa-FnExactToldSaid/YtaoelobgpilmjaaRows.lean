/-
  No cell of these rows narrows 'for every input' (looked for: loops, veiled, ifaces, maps, wideKeys, modest, calm, conditions, laid).
  DERIVED. THE GIVEN ROWS OF THIS SEAT. 10 by the template 'for every input the law returns true; each argument reads behind the call as it read before'; 0 by the template 'total and deterministic' (their statements: YtaoelobgpilmjaaTotals.lean).
  GIVEN WITH THE SEED: the statements are not yours to turn. If you find one false, say at which input.
  Laid BY PROGRAM, IN A SANDBOX (cutbox-rows.mjs): the forced cells as the released guide's own fill.sh prints them over the translation 5f44b38614909f54… (all of the seat's roots in one cut). By AI agents, Wed Nov 11 2026. No macro, syntax, notation, axiom, sorry.
-/
import Derived.Test.YtaoelobgpilmjaaChecked
import GoSem.Claim
import GoSem.ClaimJoined
import GoSem.ClaimMapViews
import Derived.JoinedTies
import Derived.KernelRfl
namespace Go.Proofs.Ytaoelobgpilmjaa
/- THE CELL 'sum', in the pinned program and in every row, IS THE sha256 OF THE DUMP (.gsa) THAT YtaoelobgpilmjaaProg.lean LOADS. Nothing in Lean hashes anything: it is a label: what it is worth is what the hold of that sum in a sandbox is worth. -/
noncomputable def Try.pinned : Pinned := { name := "ytaoelobgpilmjaa", sum := "5f44b38614909f54f0e13f79eeb35c7c2ee1482a101028f69a1b3c4cb90cfd2d", checked := Try.checked }
namespace Rows
def none {H : Type} : Left H := { results := [], args := [] }

/-- 'laws.FnExactReadShort': WHATEVER THE INPUT: true; the input reads as it did. -/
def fnExactReadShortSpec : ChangeSpec := { name := "fnExactReadShort", fn := fun _ => fun
  | [d1, d2] => { results := [.lit (.bool true)], args := [d1, d2] }
  | _ => none }
def fnExactReadShortRow : OpenClaim := { program := "ytaoelobgpilmjaa", sum := "5f44b38614909f54f0e13f79eeb35c7c2ee1482a101028f69a1b3c4cb90cfd2d", func := "loop.example/g00423/laws.FnExactReadShort", spec := "fnExactReadShort", apart := false }
def FnExactReadShortSaid : Prop := fnExactReadShortRow.holds Try.pinned (OpenSpec.ofChange fnExactReadShortSpec)

/-- ITS FALSE NEIGHBOUR: 'it returns false'. Refute it at one input. -/
def fnExactReadShortWrong : ChangeSpec := { name := "fnExactReadShort", fn := fun _ => fun
  | [d1, d2] => { results := [.lit (.bool false)], args := [d1, d2] }
  | _ => none }
def FnExactReadShortWrongFalsely : Prop := fnExactReadShortRow.holds Try.pinned (OpenSpec.ofChange fnExactReadShortWrong)

/-- 'laws.FnExactSameEnding': WHATEVER THE INPUT: true; the input reads as it did. -/
def fnExactSameEndingSpec : ChangeSpec := { name := "fnExactSameEnding", fn := fun _ => fun
  | [d1, d2] => { results := [.lit (.bool true)], args := [d1, d2] }
  | _ => none }
def fnExactSameEndingRow : OpenClaim := { program := "ytaoelobgpilmjaa", sum := "5f44b38614909f54f0e13f79eeb35c7c2ee1482a101028f69a1b3c4cb90cfd2d", func := "loop.example/g00423/laws.FnExactSameEnding", spec := "fnExactSameEnding", apart := false }
def FnExactSameEndingSaid : Prop := fnExactSameEndingRow.holds Try.pinned (OpenSpec.ofChange fnExactSameEndingSpec)

/-- ITS FALSE NEIGHBOUR: 'it returns false'. Refute it at one input. -/
def fnExactSameEndingWrong : ChangeSpec := { name := "fnExactSameEnding", fn := fun _ => fun
  | [d1, d2] => { results := [.lit (.bool false)], args := [d1, d2] }
  | _ => none }
def FnExactSameEndingWrongFalsely : Prop := fnExactSameEndingRow.holds Try.pinned (OpenSpec.ofChange fnExactSameEndingWrong)

/-- 'laws.FnExactVarAt': WHATEVER THE INPUT: true; the input reads as it did. -/
def fnExactVarAtSpec : ChangeSpec := { name := "fnExactVarAt", fn := fun _ => fun
  | [d1, d2] => { results := [.lit (.bool true)], args := [d1, d2] }
  | _ => none }
def fnExactVarAtRow : OpenClaim := { program := "ytaoelobgpilmjaa", sum := "5f44b38614909f54f0e13f79eeb35c7c2ee1482a101028f69a1b3c4cb90cfd2d", func := "loop.example/g00423/laws.FnExactVarAt", spec := "fnExactVarAt", apart := false }
def FnExactVarAtSaid : Prop := fnExactVarAtRow.holds Try.pinned (OpenSpec.ofChange fnExactVarAtSpec)

/-- ITS FALSE NEIGHBOUR: 'it returns false'. Refute it at one input. -/
def fnExactVarAtWrong : ChangeSpec := { name := "fnExactVarAt", fn := fun _ => fun
  | [d1, d2] => { results := [.lit (.bool false)], args := [d1, d2] }
  | _ => none }
def FnExactVarAtWrongFalsely : Prop := fnExactVarAtRow.holds Try.pinned (OpenSpec.ofChange fnExactVarAtWrong)

/-- 'laws.FnTurned': WHATEVER THE INPUT: true; the input reads as it did. -/
def fnTurnedSpec : ChangeSpec := { name := "fnTurned", fn := fun _ => fun
  | [d] => { results := [.lit (.bool true)], args := [d] }
  | _ => none }
def fnTurnedRow : OpenClaim := { program := "ytaoelobgpilmjaa", sum := "5f44b38614909f54f0e13f79eeb35c7c2ee1482a101028f69a1b3c4cb90cfd2d", func := "loop.example/g00423/laws.FnTurned", spec := "fnTurned", apart := false }
def FnTurnedSaid : Prop := fnTurnedRow.holds Try.pinned (OpenSpec.ofChange fnTurnedSpec)

/-- ITS FALSE NEIGHBOUR: 'it returns false'. Refute it at one input. -/
def fnTurnedWrong : ChangeSpec := { name := "fnTurned", fn := fun _ => fun
  | [d] => { results := [.lit (.bool false)], args := [d] }
  | _ => none }
def FnTurnedWrongFalsely : Prop := fnTurnedRow.holds Try.pinned (OpenSpec.ofChange fnTurnedWrong)

/-- 'laws.FnExactPartsOf': WHATEVER THE INPUT: true; the input reads as it did. -/
def fnExactPartsOfSpec : ChangeSpec := { name := "fnExactPartsOf", fn := fun _ => fun
  | [d] => { results := [.lit (.bool true)], args := [d] }
  | _ => none }
def fnExactPartsOfRow : OpenClaim := { program := "ytaoelobgpilmjaa", sum := "5f44b38614909f54f0e13f79eeb35c7c2ee1482a101028f69a1b3c4cb90cfd2d", func := "loop.example/g00423/laws.FnExactPartsOf", spec := "fnExactPartsOf", apart := false }
def FnExactPartsOfSaid : Prop := fnExactPartsOfRow.holds Try.pinned (OpenSpec.ofChange fnExactPartsOfSpec)

/-- ITS FALSE NEIGHBOUR: 'it returns false'. Refute it at one input. -/
def fnExactPartsOfWrong : ChangeSpec := { name := "fnExactPartsOf", fn := fun _ => fun
  | [d] => { results := [.lit (.bool false)], args := [d] }
  | _ => none }
def FnExactPartsOfWrongFalsely : Prop := fnExactPartsOfRow.holds Try.pinned (OpenSpec.ofChange fnExactPartsOfWrong)

/-- 'laws.FnExactMemoryNew': WHATEVER THE INPUT: true; the input reads as it did. -/
def fnExactMemoryNewSpec : ChangeSpec := { name := "fnExactMemoryNew", fn := fun _ => fun
  | [d1, d2] => { results := [.lit (.bool true)], args := [d1, d2] }
  | _ => none }
def fnExactMemoryNewRow : OpenClaim := { program := "ytaoelobgpilmjaa", sum := "5f44b38614909f54f0e13f79eeb35c7c2ee1482a101028f69a1b3c4cb90cfd2d", func := "loop.example/g00423/laws.FnExactMemoryNew", spec := "fnExactMemoryNew", apart := false }
def FnExactMemoryNewSaid : Prop := fnExactMemoryNewRow.holds Try.pinned (OpenSpec.ofChange fnExactMemoryNewSpec)

/-- ITS FALSE NEIGHBOUR: 'it returns false'. Refute it at one input. -/
def fnExactMemoryNewWrong : ChangeSpec := { name := "fnExactMemoryNew", fn := fun _ => fun
  | [d1, d2] => { results := [.lit (.bool false)], args := [d1, d2] }
  | _ => none }
def FnExactMemoryNewWrongFalsely : Prop := fnExactMemoryNewRow.holds Try.pinned (OpenSpec.ofChange fnExactMemoryNewWrong)

/-- 'laws.FnMemories': WHATEVER THE INPUT: true; the input reads as it did. -/
def fnMemoriesSpec : ChangeSpec := { name := "fnMemories", fn := fun _ => fun
  | [d] => { results := [.lit (.bool true)], args := [d] }
  | _ => none }
def fnMemoriesRow : OpenClaim := { program := "ytaoelobgpilmjaa", sum := "5f44b38614909f54f0e13f79eeb35c7c2ee1482a101028f69a1b3c4cb90cfd2d", func := "loop.example/g00423/laws.FnMemories", spec := "fnMemories", apart := false }
def FnMemoriesSaid : Prop := fnMemoriesRow.holds Try.pinned (OpenSpec.ofChange fnMemoriesSpec)

/-- ITS FALSE NEIGHBOUR: 'it returns false'. Refute it at one input. -/
def fnMemoriesWrong : ChangeSpec := { name := "fnMemories", fn := fun _ => fun
  | [d] => { results := [.lit (.bool false)], args := [d] }
  | _ => none }
def FnMemoriesWrongFalsely : Prop := fnMemoriesRow.holds Try.pinned (OpenSpec.ofChange fnMemoriesWrong)

/-- 'laws.FnExactTold': WHATEVER THE INPUT: true; the input reads as it did. -/
def fnExactToldSpec : ChangeSpec := { name := "fnExactTold", fn := fun _ => fun
  | [d1, d2] => { results := [.lit (.bool true)], args := [d1, d2] }
  | _ => none }
def fnExactToldRow : OpenClaim := { program := "ytaoelobgpilmjaa", sum := "5f44b38614909f54f0e13f79eeb35c7c2ee1482a101028f69a1b3c4cb90cfd2d", func := "loop.example/g00423/laws.FnExactTold", spec := "fnExactTold", apart := false }
def FnExactToldSaid : Prop := fnExactToldRow.holds Try.pinned (OpenSpec.ofChange fnExactToldSpec)

/-- ITS FALSE NEIGHBOUR: 'it returns false'. Refute it at one input. -/
def fnExactToldWrong : ChangeSpec := { name := "fnExactTold", fn := fun _ => fun
  | [d1, d2] => { results := [.lit (.bool false)], args := [d1, d2] }
  | _ => none }
def FnExactToldWrongFalsely : Prop := fnExactToldRow.holds Try.pinned (OpenSpec.ofChange fnExactToldWrong)

/-- 'laws.FnExactFreed': WHATEVER THE INPUT: true; the input reads as it did. -/
def fnExactFreedSpec : ChangeSpec := { name := "fnExactFreed", fn := fun _ => fun
  | [d1, d2] => { results := [.lit (.bool true)], args := [d1, d2] }
  | _ => none }
def fnExactFreedRow : OpenClaim := { program := "ytaoelobgpilmjaa", sum := "5f44b38614909f54f0e13f79eeb35c7c2ee1482a101028f69a1b3c4cb90cfd2d", func := "loop.example/g00423/laws.FnExactFreed", spec := "fnExactFreed", apart := false }
def FnExactFreedSaid : Prop := fnExactFreedRow.holds Try.pinned (OpenSpec.ofChange fnExactFreedSpec)

/-- ITS FALSE NEIGHBOUR: 'it returns false'. Refute it at one input. -/
def fnExactFreedWrong : ChangeSpec := { name := "fnExactFreed", fn := fun _ => fun
  | [d1, d2] => { results := [.lit (.bool false)], args := [d1, d2] }
  | _ => none }
def FnExactFreedWrongFalsely : Prop := fnExactFreedRow.holds Try.pinned (OpenSpec.ofChange fnExactFreedWrong)

/-- 'laws.FnExactSpend': WHATEVER THE INPUT: true; the input reads as it did. -/
def fnExactSpendSpec : ChangeSpec := { name := "fnExactSpend", fn := fun _ => fun
  | [d] => { results := [.lit (.bool true)], args := [d] }
  | _ => none }
def fnExactSpendRow : OpenClaim := { program := "ytaoelobgpilmjaa", sum := "5f44b38614909f54f0e13f79eeb35c7c2ee1482a101028f69a1b3c4cb90cfd2d", func := "loop.example/g00423/laws.FnExactSpend", spec := "fnExactSpend", apart := false }
def FnExactSpendSaid : Prop := fnExactSpendRow.holds Try.pinned (OpenSpec.ofChange fnExactSpendSpec)

/-- ITS FALSE NEIGHBOUR: 'it returns false'. Refute it at one input. -/
def fnExactSpendWrong : ChangeSpec := { name := "fnExactSpend", fn := fun _ => fun
  | [d] => { results := [.lit (.bool false)], args := [d] }
  | _ => none }
def FnExactSpendWrongFalsely : Prop := fnExactSpendRow.holds Try.pinned (OpenSpec.ofChange fnExactSpendWrong)

/- THE SECOND FORM. 'bulk': how many values and letters a reading holds, each counted each time it is reached (what is shared counts as often as it is met; a slice's spare places count too). A statement '..UptoSaid' is the law's where the arguments, and the package variables that the reading takes, are together of bulk at most 1048576: NARROWER than '..Said'. Prove '..Said' where nothing that the law and all that it calls make is longer than what came in: it says more and counts as full. Else prove '..UptoSaid'. A law counts once. -/
mutual
def uptoBulk {H : Type} : DataW H → Nat
  | .lit (.string bytes) => bytes.length + 1
  | .lit _ => 1
  | .nil => 1
  | .ptr d => uptoBulk d + 1
  | .slice elems spare => uptoBulkAll elems + uptoBulkAll spare + 1
  | .agg parts => uptoBulkAll parts + 1
  | .iface _ d => uptoBulk d + 1
  | .map entries => uptoBulkEntries entries + 1
  | .held _ => 1
def uptoBulkAll {H : Type} : List (DataW H) → Nat
  | [] => 0
  | d :: r => uptoBulk d + uptoBulkAll r
def uptoBulkEntries {H : Type} : List (Lit × DataW H) → Nat
  | [] => 0
  | x :: r => uptoBulkEntry x + uptoBulkEntries r
def uptoBulkEntry {H : Type} : Lit × DataW H → Nat
  | (.string bytes, d) => bytes.length + uptoBulk d + 1
  | (_, d) => uptoBulk d + 1
 end
def uptoSmall : (H : Type) → List (DataW H) → Bool := fun _ ds => decide (uptoBulkAll ds ≤ 1048576)
def OpenSpec.upto (s : _root_.Go.ChangeSpec) : _root_.Go.OpenSpec := { _root_.Go.OpenSpec.ofChange s with cond := some uptoSmall }

/-- 'laws.FnExactReadShort', WHERE WHAT IT READS IS OF BULK AT MOST 1048576: true; the input reads as it did. -/
def fnExactReadShortUptoRow : OpenClaim := { program := "ytaoelobgpilmjaa", sum := "5f44b38614909f54f0e13f79eeb35c7c2ee1482a101028f69a1b3c4cb90cfd2d", func := "loop.example/g00423/laws.FnExactReadShort", spec := "fnExactReadShort", apart := false, narrowed := true }
def FnExactReadShortUptoSaid : Prop := fnExactReadShortUptoRow.holds Try.pinned (OpenSpec.upto fnExactReadShortSpec)

/-- 'laws.FnExactSameEnding', WHERE WHAT IT READS IS OF BULK AT MOST 1048576: true; the input reads as it did. -/
def fnExactSameEndingUptoRow : OpenClaim := { program := "ytaoelobgpilmjaa", sum := "5f44b38614909f54f0e13f79eeb35c7c2ee1482a101028f69a1b3c4cb90cfd2d", func := "loop.example/g00423/laws.FnExactSameEnding", spec := "fnExactSameEnding", apart := false, narrowed := true }
def FnExactSameEndingUptoSaid : Prop := fnExactSameEndingUptoRow.holds Try.pinned (OpenSpec.upto fnExactSameEndingSpec)

/-- 'laws.FnExactVarAt', WHERE WHAT IT READS IS OF BULK AT MOST 1048576: true; the input reads as it did. -/
def fnExactVarAtUptoRow : OpenClaim := { program := "ytaoelobgpilmjaa", sum := "5f44b38614909f54f0e13f79eeb35c7c2ee1482a101028f69a1b3c4cb90cfd2d", func := "loop.example/g00423/laws.FnExactVarAt", spec := "fnExactVarAt", apart := false, narrowed := true }
def FnExactVarAtUptoSaid : Prop := fnExactVarAtUptoRow.holds Try.pinned (OpenSpec.upto fnExactVarAtSpec)

/-- 'laws.FnTurned', WHERE WHAT IT READS IS OF BULK AT MOST 1048576: true; the input reads as it did. -/
def fnTurnedUptoRow : OpenClaim := { program := "ytaoelobgpilmjaa", sum := "5f44b38614909f54f0e13f79eeb35c7c2ee1482a101028f69a1b3c4cb90cfd2d", func := "loop.example/g00423/laws.FnTurned", spec := "fnTurned", apart := false, narrowed := true }
def FnTurnedUptoSaid : Prop := fnTurnedUptoRow.holds Try.pinned (OpenSpec.upto fnTurnedSpec)

/-- 'laws.FnExactPartsOf', WHERE WHAT IT READS IS OF BULK AT MOST 1048576: true; the input reads as it did. -/
def fnExactPartsOfUptoRow : OpenClaim := { program := "ytaoelobgpilmjaa", sum := "5f44b38614909f54f0e13f79eeb35c7c2ee1482a101028f69a1b3c4cb90cfd2d", func := "loop.example/g00423/laws.FnExactPartsOf", spec := "fnExactPartsOf", apart := false, narrowed := true }
def FnExactPartsOfUptoSaid : Prop := fnExactPartsOfUptoRow.holds Try.pinned (OpenSpec.upto fnExactPartsOfSpec)

/-- 'laws.FnExactMemoryNew', WHERE WHAT IT READS IS OF BULK AT MOST 1048576: true; the input reads as it did. -/
def fnExactMemoryNewUptoRow : OpenClaim := { program := "ytaoelobgpilmjaa", sum := "5f44b38614909f54f0e13f79eeb35c7c2ee1482a101028f69a1b3c4cb90cfd2d", func := "loop.example/g00423/laws.FnExactMemoryNew", spec := "fnExactMemoryNew", apart := false, narrowed := true }
def FnExactMemoryNewUptoSaid : Prop := fnExactMemoryNewUptoRow.holds Try.pinned (OpenSpec.upto fnExactMemoryNewSpec)

/-- 'laws.FnMemories', WHERE WHAT IT READS IS OF BULK AT MOST 1048576: true; the input reads as it did. -/
def fnMemoriesUptoRow : OpenClaim := { program := "ytaoelobgpilmjaa", sum := "5f44b38614909f54f0e13f79eeb35c7c2ee1482a101028f69a1b3c4cb90cfd2d", func := "loop.example/g00423/laws.FnMemories", spec := "fnMemories", apart := false, narrowed := true }
def FnMemoriesUptoSaid : Prop := fnMemoriesUptoRow.holds Try.pinned (OpenSpec.upto fnMemoriesSpec)

/-- 'laws.FnExactTold', WHERE WHAT IT READS IS OF BULK AT MOST 1048576: true; the input reads as it did. -/
def fnExactToldUptoRow : OpenClaim := { program := "ytaoelobgpilmjaa", sum := "5f44b38614909f54f0e13f79eeb35c7c2ee1482a101028f69a1b3c4cb90cfd2d", func := "loop.example/g00423/laws.FnExactTold", spec := "fnExactTold", apart := false, narrowed := true }
def FnExactToldUptoSaid : Prop := fnExactToldUptoRow.holds Try.pinned (OpenSpec.upto fnExactToldSpec)

/-- 'laws.FnExactFreed', WHERE WHAT IT READS IS OF BULK AT MOST 1048576: true; the input reads as it did. -/
def fnExactFreedUptoRow : OpenClaim := { program := "ytaoelobgpilmjaa", sum := "5f44b38614909f54f0e13f79eeb35c7c2ee1482a101028f69a1b3c4cb90cfd2d", func := "loop.example/g00423/laws.FnExactFreed", spec := "fnExactFreed", apart := false, narrowed := true }
def FnExactFreedUptoSaid : Prop := fnExactFreedUptoRow.holds Try.pinned (OpenSpec.upto fnExactFreedSpec)

/-- 'laws.FnExactSpend', WHERE WHAT IT READS IS OF BULK AT MOST 1048576: true; the input reads as it did. -/
def fnExactSpendUptoRow : OpenClaim := { program := "ytaoelobgpilmjaa", sum := "5f44b38614909f54f0e13f79eeb35c7c2ee1482a101028f69a1b3c4cb90cfd2d", func := "loop.example/g00423/laws.FnExactSpend", spec := "fnExactSpend", apart := false, narrowed := true }
def FnExactSpendUptoSaid : Prop := fnExactSpendUptoRow.holds Try.pinned (OpenSpec.upto fnExactSpendSpec)

end Rows
end Go.Proofs.Ytaoelobgpilmjaa
