/- The functions that a law reaches, each as a plain Lean function with the proof that the machine comes to its answer: written by program (the kit's print, turned by wip/gen). No conditions. -/
import Derived.Test.YtcdpiejcdeedoaaProg
import Derived.Below
import Derived.Deep.Draws
import Derived.Deep.AppendLies
import Derived.Maps.AppendAt
import Derived.OwnWalk
import Derived.Laws.BytesArg
import Derived.Laws.MakeOwn
import Derived.Laws.OwnMore
import Derived.Deep.OwnRows
import Derived.Tactics
import Derived.Lib.ConvBytes
import Derived.Laws.Slices
import Derived.WalkKit
import Derived.KernelRfl
import Derived.RowKit3
import Derived.Deep.LoopGhost
import Derived.Deep.QuietTactic
import Derived.BigQuiet
import Derived.WideLaws
import Derived.Deep.DeepCutAuto
import Derived.Deep.CutBlock
import Derived.Deep.RegionHeld3
import Derived.Laws.Rows
import Derived.Lib.AppendStr
import Derived.ArgAppend
import Derived.Laws.IdiomCopy
import Derived.OrdersHeld
import Derived.Laws.BitsLemmas
import Derived.RowKit
import Derived.Test.YtcdpiejcdeedoaaWWords
import Derived.Test.YtcdpiejcdeedoaaWLast
import Derived.Test.YtcdpiejcdeedoaaWTab
import Derived.Test.YtcdpiejcdeedoaaWFour
import Derived.Test.YtcdpiejcdeedoaaWQPut
import Derived.Test.YtcdpiejcdeedoaaWApart
import Derived.Test.YtcdpiejcdeedoaaWArr
import Derived.Test.YtcdpiejcdeedoaaWZeros
import Derived.Test.YtcdpiejcdeedoaaWFoot
import Derived.Test.YtcdpiejcdeedoaaWKept
import Derived.Test.YtcdpiejcdeedoaaWShare
import Derived.Test.YtcdpiejcdeedoaaWN
import Derived.Test.YtcdpiejcdeedoaaWFootNe
import Derived.Test.YtcdpiejcdeedoaaWAt
import Derived.Test.YtcdpiejcdeedoaaWEqStruct
import Derived.Test.YtcdpiejcdeedoaaWRepsOne
import Derived.Test.YtcdpiejcdeedoaaWInv
import Derived.Test.YtcdpiejcdeedoaaWInvWords
import Derived.Test.YtcdpiejcdeedoaaWGuard
import Derived.Test.YtcdpiejcdeedoaaWNEv
import Derived.Test.YtcdpiejcdeedoaaWMore
namespace Go.Proofs.Ytcdpiejcdeedoaa.PFnExactFrameRecord
open Go.RowKit Go.Proofs.YtcdpiejcdeedoaaW.PrintWords Go.Proofs.YtcdpiejcdeedoaaW.PrintLast Go.Proofs.YtcdpiejcdeedoaaW.PrintMore
attribute [local go_sem] max2_int min2_int max_two min_two max_three min_three max_four min_four   -- for this text's walks alone
set_option linter.unusedVariables false
set_option linter.unusedSimpArgs false



def errW : Option Int → Value
  | none => .nilIface
  | some c => .iface 0 (.int .i64 c)
theorem errW_none : errW none = .nilIface := rfl
theorem errW_some (c : Int) : errW (some c) = .iface 0 (.int .i64 c) := rfl

theorem bne_nil {α : Type} [BEq α] (l : List α) : (l != []) = !l.isEmpty := by cases l <;> rfl
theorem info5 : (Try.prog.info? 5).map (fun i => (i.zero, i.size, i.bytes)) = some (some (.int .u8 0), 1, 1) := by kernel_rfl
-- the values' own types

end Go.Proofs.Ytcdpiejcdeedoaa.PFnExactFrameRecord
