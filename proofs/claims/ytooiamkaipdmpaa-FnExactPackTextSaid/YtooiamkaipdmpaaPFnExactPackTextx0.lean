/- The functions that a law reaches, each as a plain Lean function with the proof that the machine comes to its answer: written by program (the kit's print, turned by wip/gen). No conditions. -/
import Derived.Test.YtooiamkaipdmpaaProg
import Derived.Below
import Derived.Deep.Draws
import Derived.Deep.AppendLies
import Derived.Maps.AppendAt
import Derived.OwnWalk
import Derived.Laws.BytesArg
import Derived.Laws.MakeOwn
import Derived.Laws.OwnMore
import Derived.Deep.OwnRows
import Derived.Tactics
import Derived.Lib.ConvBytes
import Derived.Laws.Slices
import Derived.WalkKit
import Derived.KernelRfl
import Derived.RowKit3
import Derived.Deep.LoopGhost
import Derived.Deep.QuietTactic
import Derived.BigQuiet
import Derived.WideLaws
import Derived.Deep.DeepCutAuto
import Derived.Deep.CutBlock
import Derived.Deep.RegionHeld3
import Derived.Laws.Rows
import Derived.Lib.AppendStr
import Derived.ArgAppend
import Derived.Laws.IdiomCopy
import Derived.OrdersHeld
import Derived.Laws.BitsLemmas
import Derived.RowKit
import Derived.Lib.BufferMore
import Derived.Laws.IdiomStrings
import Derived.Test.YtooiamkaipdmpaaWWords
import Derived.Test.YtooiamkaipdmpaaWLast
import Derived.Test.YtooiamkaipdmpaaWTab
import Derived.Test.YtooiamkaipdmpaaWFour
import Derived.Test.YtooiamkaipdmpaaWQPut
import Derived.Test.YtooiamkaipdmpaaWApart
import Derived.Test.YtooiamkaipdmpaaWArr
import Derived.Test.YtooiamkaipdmpaaWZeros
import Derived.Test.YtooiamkaipdmpaaWFoot
import Derived.Test.YtooiamkaipdmpaaWKept
import Derived.Test.YtooiamkaipdmpaaWShare
import Derived.Test.YtooiamkaipdmpaaWN
import Derived.Test.YtooiamkaipdmpaaWFootNe
import Derived.Test.YtooiamkaipdmpaaWAt
import Derived.Test.YtooiamkaipdmpaaWEqStruct
import Derived.Test.YtooiamkaipdmpaaWRepsOne
import Derived.Test.YtooiamkaipdmpaaWInv
import Derived.Test.YtooiamkaipdmpaaWInvWords
import Derived.Test.YtooiamkaipdmpaaWGuard
import Derived.Test.YtooiamkaipdmpaaWNEv
import Derived.Test.YtooiamkaipdmpaaWMore
namespace Go.Proofs.Ytooiamkaipdmpaa.PFnExactPackText
open Go.RowKit Go.Proofs.YtooiamkaipdmpaaW.PrintWords Go.Proofs.YtooiamkaipdmpaaW.PrintLast Go.Proofs.YtooiamkaipdmpaaW.PrintMore
attribute [local go_sem] max2_int min2_int max_two min_two max_three min_three max_four min_four   -- for this text's walks alone
set_option linter.unusedVariables false
set_option linter.unusedSimpArgs false



def errW : Option Int → Value
  | none => .nilIface
  | some c => .iface 0 (.int .i64 c)
theorem errW_none : errW none = .nilIface := rfl
theorem errW_some (c : Int) : errW (some c) = .iface 0 (.int .i64 c) := rfl

theorem bne_nil {α : Type} [BEq α] (l : List α) : (l != []) = !l.isEmpty := by cases l <;> rfl
theorem info5 : (Try.prog.info? 5).map (fun i => (i.zero, i.size, i.bytes)) = some (some (.int .u8 0), 1, 1) := by kernel_rfl
-- the values' own types

end Go.Proofs.Ytooiamkaipdmpaa.PFnExactPackText
