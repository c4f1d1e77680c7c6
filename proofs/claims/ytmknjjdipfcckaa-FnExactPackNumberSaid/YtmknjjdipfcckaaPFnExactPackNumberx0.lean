/- The functions that a law reaches, each as a plain Lean function with the proof that the machine comes to its answer: written by program (the kit's print, turned by wip/gen). No conditions. -/
import Derived.Test.YtmknjjdipfcckaaProg
import Derived.Below
import Derived.Deep.Draws
import Derived.Deep.AppendLies
import Derived.Maps.AppendAt
import Derived.OwnWalk
import Derived.Laws.BytesArg
import Derived.Laws.MakeOwn
import Derived.Laws.OwnMore
import Derived.Deep.OwnRows
import Derived.Tactics
import Derived.Lib.ConvBytes
import Derived.Laws.Slices
import Derived.WalkKit
import Derived.KernelRfl
import Derived.RowKit3
import Derived.Deep.LoopGhost
import Derived.Deep.QuietTactic
import Derived.BigQuiet
import Derived.WideLaws
import Derived.Deep.DeepCutAuto
import Derived.Deep.CutBlock
import Derived.Deep.RegionHeld3
import Derived.Laws.Rows
import Derived.Lib.AppendStr
import Derived.ArgAppend
import Derived.Laws.IdiomCopy
import Derived.OrdersHeld
import Derived.Laws.BitsLemmas
import Derived.RowKit
import Derived.Test.YtmknjjdipfcckaaWWords
import Derived.Test.YtmknjjdipfcckaaWLast
import Derived.Test.YtmknjjdipfcckaaWTab
import Derived.Test.YtmknjjdipfcckaaWFour
import Derived.Test.YtmknjjdipfcckaaWQPut
import Derived.Test.YtmknjjdipfcckaaWApart
import Derived.Test.YtmknjjdipfcckaaWArr
import Derived.Test.YtmknjjdipfcckaaWZeros
import Derived.Test.YtmknjjdipfcckaaWFoot
import Derived.Test.YtmknjjdipfcckaaWKept
import Derived.Test.YtmknjjdipfcckaaWShare
import Derived.Test.YtmknjjdipfcckaaWN
import Derived.Test.YtmknjjdipfcckaaWFootNe
import Derived.Test.YtmknjjdipfcckaaWAt
import Derived.Test.YtmknjjdipfcckaaWEqStruct
import Derived.Test.YtmknjjdipfcckaaWRepsOne
import Derived.Test.YtmknjjdipfcckaaWInv
import Derived.Test.YtmknjjdipfcckaaWInvWords
import Derived.Test.YtmknjjdipfcckaaWGuard
import Derived.Test.YtmknjjdipfcckaaWNEv
import Derived.Test.YtmknjjdipfcckaaWMore
namespace Go.Proofs.Ytmknjjdipfcckaa.PFnExactPackNumber
open Go.RowKit Go.Proofs.YtmknjjdipfcckaaW.PrintWords Go.Proofs.YtmknjjdipfcckaaW.PrintLast Go.Proofs.YtmknjjdipfcckaaW.PrintMore
attribute [local go_sem] max2_int min2_int max_two min_two max_three min_three max_four min_four   -- for this text's walks alone
set_option linter.unusedVariables false
set_option linter.unusedSimpArgs false



def errW : Option Int → Value
  | none => .nilIface
  | some c => .iface 0 (.int .i64 c)
theorem errW_none : errW none = .nilIface := rfl
theorem errW_some (c : Int) : errW (some c) = .iface 0 (.int .i64 c) := rfl

theorem bne_nil {α : Type} [BEq α] (l : List α) : (l != []) = !l.isEmpty := by cases l <;> rfl
theorem info5 : (Try.prog.info? 5).map (fun i => (i.zero, i.size, i.bytes)) = some (some (.int .u8 0), 1, 1) := by kernel_rfl
-- the values' own types

end Go.Proofs.Ytmknjjdipfcckaa.PFnExactPackNumber
