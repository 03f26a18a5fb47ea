/- Written by a program of this session (a turned copy of the kit's print): a contract for each Go function. No condition beside those in each statement. -/
import Derived.Test.YtodicbbeaidibaaDoorProg
import Derived.Below
import Derived.Deep.Draws
import Derived.Deep.AppendLies
import Derived.Maps.AppendAt
import Derived.OwnWalk
import Derived.Laws.BytesArg
import Derived.Laws.MakeOwn
import Derived.Laws.OwnMore
import Derived.Deep.OwnRows
import Derived.Tactics
import Derived.Lib.ConvBytes
import Derived.Laws.Slices
import Derived.WalkKit
import Derived.KernelRfl
import Derived.RowKit3
import Derived.Deep.LoopGhost
import Derived.Deep.QuietTactic
import Derived.BigQuiet
import Derived.WideLaws
import Derived.Deep.DeepCutAuto
import Derived.Deep.CutBlock
import Derived.Deep.RegionHeld3
import Derived.Laws.Rows
import Derived.Lib.AppendStr
import Derived.ArgAppend
import Derived.Laws.IdiomCopy
import Derived.OrdersHeld
import Derived.Laws.BitsLemmas
import Derived.RowKit
import Derived.OpenShut
import Derived.Test.YtodicbbeaidibaaDoorWWords
import Derived.Test.YtodicbbeaidibaaDoorWLast
import Derived.Test.YtodicbbeaidibaaDoorWTab
import Derived.Test.YtodicbbeaidibaaDoorWFour
import Derived.Test.YtodicbbeaidibaaDoorWQPut
import Derived.Test.YtodicbbeaidibaaDoorWApart
import Derived.Test.YtodicbbeaidibaaDoorWArr
import Derived.Test.YtodicbbeaidibaaDoorWZeros
import Derived.Test.YtodicbbeaidibaaDoorWFoot
import Derived.Test.YtodicbbeaidibaaDoorWKept
import Derived.Test.YtodicbbeaidibaaDoorWShare
import Derived.Test.YtodicbbeaidibaaDoorWN
import Derived.Test.YtodicbbeaidibaaDoorWFootNe
import Derived.Test.YtodicbbeaidibaaDoorWAt
import Derived.Test.YtodicbbeaidibaaDoorWEqStruct
import Derived.Test.YtodicbbeaidibaaDoorWRepsOne
import Derived.Test.YtodicbbeaidibaaDoorWInv
import Derived.Test.YtodicbbeaidibaaDoorWInvWords
import Derived.Test.YtodicbbeaidibaaDoorWGuard
import Derived.Test.YtodicbbeaidibaaDoorWNEv
import Derived.Test.YtodicbbeaidibaaDoorWMore
import Derived.Test.YtodicbbeaidibaaDoorTabs
namespace Go.Proofs.YtodicbbeaidibaaDoor.PFnExactDecimal
open Go.RowKit Go.Proofs.YtodicbbeaidibaaDoor.Given Go.Proofs.YtodicbbeaidibaaDoorW.PrintWords Go.Proofs.YtodicbbeaidibaaDoorW.PrintLast Go.Proofs.YtodicbbeaidibaaDoorW.PrintMore
attribute [local go_sem] max2_int min2_int max_two min_two max_three min_three max_four min_four   -- for this text's walks alone
set_option linter.unusedVariables false
set_option linter.unusedSimpArgs false



def errW : Option Int → Value
  | none => .nilIface
  | some c => .iface 0 (.int .i64 c)
theorem errW_none : errW none = .nilIface := rfl
theorem errW_some (c : Int) : errW (some c) = .iface 0 (.int .i64 c) := rfl

theorem info5 : (Tryd.prog.info? 5).map (fun i => (i.zero, i.size, i.bytes)) = some (some (.int .u8 0), 1, 1) := by kernel_rfl
-- the values' own types

structure RestG (p : Prop) : Prop where
  out : p
theorem lay_top {K : Act → World → Prop} {a : Act} {w : World} {p : Addr} {v u : Value} (h : w.cell? p = some u) (k : (w.setCell p v).cell? p = some v → K a (w.setCell p v)) : K a (w.setCell p v) := k (World.cell?_setCell_same _ _ _ h)
theorem lay_top1 {K : Act → World → Prop} {a : Act} {w : World} {n : Nat} {p : Addr} {v u : Value} (h : w.cell? p = some u) (k : ((w.drewN n).setCell p v).cell? p = some v → K a ((w.drewN n).setCell p v)) : K a ((w.drewN n).setCell p v) := lay_top (w := w.drewN n) (u := u) h k
theorem lay_top2 {K : Act → World → Prop} {a : Act} {w : World} {n m : Nat} {p : Addr} {v u : Value} (h : w.cell? p = some u) (k : (((w.drewN n).drewN m).setCell p v).cell? p = some v → K a (((w.drewN n).drewN m).setCell p v)) : K a (((w.drewN n).drewN m).setCell p v) := lay_top (w := (w.drewN n).drewN m) (u := u) h k
end Go.Proofs.YtodicbbeaidibaaDoor.PFnExactDecimal
