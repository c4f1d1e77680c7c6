/-
  No cell of these rows narrows 'for every input' (looked for: loops, veiled, ifaces, maps, wideKeys, modest, calm, conditions, laid).
  DERIVED. THE GIVEN ROWS OF THIS SEAT. 11 by the template 'for every input the law returns true; each argument reads behind the call as it read before'; 0 by the template 'total and deterministic' (their statements: YtcdpiejcdeedoaaTotals.lean).
  GIVEN WITH THE SEED: the statements are not yours to turn. If you find one false, say at which input.
  Laid BY PROGRAM, IN A SANDBOX (cutbox-rows.mjs): the forced cells as the released guide's own fill.sh prints them over the translation 7c8e06b9fdc9cc51… (all of the seat's roots in one cut). By AI agents, Wed Nov 11 2026. No macro, syntax, notation, axiom, sorry.
-/
import Derived.Test.YtcdpiejcdeedoaaChecked
import GoSem.Claim
import GoSem.ClaimJoined
import GoSem.ClaimMapViews
import Derived.JoinedTies
import Derived.KernelRfl
namespace Go.Proofs.Ytcdpiejcdeedoaa
/- THE CELL 'sum', in the pinned program and in every row, IS THE sha256 OF THE DUMP (.gsa) THAT YtcdpiejcdeedoaaProg.lean LOADS. Nothing in Lean hashes anything: it is a label: what it is worth is what the hold of that sum in a sandbox is worth. -/
noncomputable def Try.pinned : Pinned := { name := "ytcdpiejcdeedoaa", sum := "7c8e06b9fdc9cc51731aebcf909f14fb6eb77a34f61d099fe12ef7484bebd4d7", checked := Try.checked }
namespace Rows
def none {H : Type} : Left H := { results := [], args := [] }

/-- 'laws.FnExactLogFault': WHATEVER THE INPUT: true; the input reads as it did. -/
def fnExactLogFaultSpec : ChangeSpec := { name := "fnExactLogFault", fn := fun _ => fun
  | [d] => { results := [.lit (.bool true)], args := [d] }
  | _ => none }
def fnExactLogFaultRow : OpenClaim := { program := "ytcdpiejcdeedoaa", sum := "7c8e06b9fdc9cc51731aebcf909f14fb6eb77a34f61d099fe12ef7484bebd4d7", func := "loop.example/g00203/laws.FnExactLogFault", spec := "fnExactLogFault", apart := false }
def FnExactLogFaultSaid : Prop := fnExactLogFaultRow.holds Try.pinned (OpenSpec.ofChange fnExactLogFaultSpec)

/-- ITS FALSE NEIGHBOUR: 'it returns false'. Refute it at one input. -/
def fnExactLogFaultWrong : ChangeSpec := { name := "fnExactLogFault", fn := fun _ => fun
  | [d] => { results := [.lit (.bool false)], args := [d] }
  | _ => none }
def FnExactLogFaultWrongFalsely : Prop := fnExactLogFaultRow.holds Try.pinned (OpenSpec.ofChange fnExactLogFaultWrong)

/-- 'laws.FnExactFrameRecord': WHATEVER THE INPUT: true; the input reads as it did. -/
def fnExactFrameRecordSpec : ChangeSpec := { name := "fnExactFrameRecord", fn := fun _ => fun
  | [d] => { results := [.lit (.bool true)], args := [d] }
  | _ => none }
def fnExactFrameRecordRow : OpenClaim := { program := "ytcdpiejcdeedoaa", sum := "7c8e06b9fdc9cc51731aebcf909f14fb6eb77a34f61d099fe12ef7484bebd4d7", func := "loop.example/g00203/laws.FnExactFrameRecord", spec := "fnExactFrameRecord", apart := false }
def FnExactFrameRecordSaid : Prop := fnExactFrameRecordRow.holds Try.pinned (OpenSpec.ofChange fnExactFrameRecordSpec)

/-- ITS FALSE NEIGHBOUR: 'it returns false'. Refute it at one input. -/
def fnExactFrameRecordWrong : ChangeSpec := { name := "fnExactFrameRecord", fn := fun _ => fun
  | [d] => { results := [.lit (.bool false)], args := [d] }
  | _ => none }
def FnExactFrameRecordWrongFalsely : Prop := fnExactFrameRecordRow.holds Try.pinned (OpenSpec.ofChange fnExactFrameRecordWrong)

/-- 'laws.FnFrames': WHATEVER THE INPUT: true; the input reads as it did. -/
def fnFramesSpec : ChangeSpec := { name := "fnFrames", fn := fun _ => fun
  | [d] => { results := [.lit (.bool true)], args := [d] }
  | _ => none }
def fnFramesRow : OpenClaim := { program := "ytcdpiejcdeedoaa", sum := "7c8e06b9fdc9cc51731aebcf909f14fb6eb77a34f61d099fe12ef7484bebd4d7", func := "loop.example/g00203/laws.FnFrames", spec := "fnFrames", apart := false }
def FnFramesSaid : Prop := fnFramesRow.holds Try.pinned (OpenSpec.ofChange fnFramesSpec)

/-- ITS FALSE NEIGHBOUR: 'it returns false'. Refute it at one input. -/
def fnFramesWrong : ChangeSpec := { name := "fnFrames", fn := fun _ => fun
  | [d] => { results := [.lit (.bool false)], args := [d] }
  | _ => none }
def FnFramesWrongFalsely : Prop := fnFramesRow.holds Try.pinned (OpenSpec.ofChange fnFramesWrong)

/-- 'laws.FnExactSyncLog': WHATEVER THE INPUT: true; the input reads as it did. -/
def fnExactSyncLogSpec : ChangeSpec := { name := "fnExactSyncLog", fn := fun _ => fun
  | [d] => { results := [.lit (.bool true)], args := [d] }
  | _ => none }
def fnExactSyncLogRow : OpenClaim := { program := "ytcdpiejcdeedoaa", sum := "7c8e06b9fdc9cc51731aebcf909f14fb6eb77a34f61d099fe12ef7484bebd4d7", func := "loop.example/g00203/laws.FnExactSyncLog", spec := "fnExactSyncLog", apart := false }
def FnExactSyncLogSaid : Prop := fnExactSyncLogRow.holds Try.pinned (OpenSpec.ofChange fnExactSyncLogSpec)

/-- ITS FALSE NEIGHBOUR: 'it returns false'. Refute it at one input. -/
def fnExactSyncLogWrong : ChangeSpec := { name := "fnExactSyncLog", fn := fun _ => fun
  | [d] => { results := [.lit (.bool false)], args := [d] }
  | _ => none }
def FnExactSyncLogWrongFalsely : Prop := fnExactSyncLogRow.holds Try.pinned (OpenSpec.ofChange fnExactSyncLogWrong)

/-- 'laws.FnExactUnframeAll': WHATEVER THE INPUT: true; the input reads as it did. -/
def fnExactUnframeAllSpec : ChangeSpec := { name := "fnExactUnframeAll", fn := fun _ => fun
  | [d] => { results := [.lit (.bool true)], args := [d] }
  | _ => none }
def fnExactUnframeAllRow : OpenClaim := { program := "ytcdpiejcdeedoaa", sum := "7c8e06b9fdc9cc51731aebcf909f14fb6eb77a34f61d099fe12ef7484bebd4d7", func := "loop.example/g00203/laws.FnExactUnframeAll", spec := "fnExactUnframeAll", apart := false }
def FnExactUnframeAllSaid : Prop := fnExactUnframeAllRow.holds Try.pinned (OpenSpec.ofChange fnExactUnframeAllSpec)

/-- ITS FALSE NEIGHBOUR: 'it returns false'. Refute it at one input. -/
def fnExactUnframeAllWrong : ChangeSpec := { name := "fnExactUnframeAll", fn := fun _ => fun
  | [d] => { results := [.lit (.bool false)], args := [d] }
  | _ => none }
def FnExactUnframeAllWrongFalsely : Prop := fnExactUnframeAllRow.holds Try.pinned (OpenSpec.ofChange fnExactUnframeAllWrong)

/-- 'laws.FnExactCrashLog': WHATEVER THE INPUT: true; the input reads as it did. -/
def fnExactCrashLogSpec : ChangeSpec := { name := "fnExactCrashLog", fn := fun _ => fun
  | [d1, d2] => { results := [.lit (.bool true)], args := [d1, d2] }
  | _ => none }
def fnExactCrashLogRow : OpenClaim := { program := "ytcdpiejcdeedoaa", sum := "7c8e06b9fdc9cc51731aebcf909f14fb6eb77a34f61d099fe12ef7484bebd4d7", func := "loop.example/g00203/laws.FnExactCrashLog", spec := "fnExactCrashLog", apart := false }
def FnExactCrashLogSaid : Prop := fnExactCrashLogRow.holds Try.pinned (OpenSpec.ofChange fnExactCrashLogSpec)

/-- ITS FALSE NEIGHBOUR: 'it returns false'. Refute it at one input. -/
def fnExactCrashLogWrong : ChangeSpec := { name := "fnExactCrashLog", fn := fun _ => fun
  | [d1, d2] => { results := [.lit (.bool false)], args := [d1, d2] }
  | _ => none }
def FnExactCrashLogWrongFalsely : Prop := fnExactCrashLogRow.holds Try.pinned (OpenSpec.ofChange fnExactCrashLogWrong)

/-- 'laws.FnExactTrimLog': WHATEVER THE INPUT: true; the input reads as it did. -/
def fnExactTrimLogSpec : ChangeSpec := { name := "fnExactTrimLog", fn := fun _ => fun
  | [d] => { results := [.lit (.bool true)], args := [d] }
  | _ => none }
def fnExactTrimLogRow : OpenClaim := { program := "ytcdpiejcdeedoaa", sum := "7c8e06b9fdc9cc51731aebcf909f14fb6eb77a34f61d099fe12ef7484bebd4d7", func := "loop.example/g00203/laws.FnExactTrimLog", spec := "fnExactTrimLog", apart := false }
def FnExactTrimLogSaid : Prop := fnExactTrimLogRow.holds Try.pinned (OpenSpec.ofChange fnExactTrimLogSpec)

/-- ITS FALSE NEIGHBOUR: 'it returns false'. Refute it at one input. -/
def fnExactTrimLogWrong : ChangeSpec := { name := "fnExactTrimLog", fn := fun _ => fun
  | [d] => { results := [.lit (.bool false)], args := [d] }
  | _ => none }
def FnExactTrimLogWrongFalsely : Prop := fnExactTrimLogRow.holds Try.pinned (OpenSpec.ofChange fnExactTrimLogWrong)

/-- 'laws.FnExactAppendLog': WHATEVER THE INPUT: true; the input reads as it did. -/
def fnExactAppendLogSpec : ChangeSpec := { name := "fnExactAppendLog", fn := fun _ => fun
  | [d1, d2] => { results := [.lit (.bool true)], args := [d1, d2] }
  | _ => none }
def fnExactAppendLogRow : OpenClaim := { program := "ytcdpiejcdeedoaa", sum := "7c8e06b9fdc9cc51731aebcf909f14fb6eb77a34f61d099fe12ef7484bebd4d7", func := "loop.example/g00203/laws.FnExactAppendLog", spec := "fnExactAppendLog", apart := false }
def FnExactAppendLogSaid : Prop := fnExactAppendLogRow.holds Try.pinned (OpenSpec.ofChange fnExactAppendLogSpec)

/-- ITS FALSE NEIGHBOUR: 'it returns false'. Refute it at one input. -/
def fnExactAppendLogWrong : ChangeSpec := { name := "fnExactAppendLog", fn := fun _ => fun
  | [d1, d2] => { results := [.lit (.bool false)], args := [d1, d2] }
  | _ => none }
def FnExactAppendLogWrongFalsely : Prop := fnExactAppendLogRow.holds Try.pinned (OpenSpec.ofChange fnExactAppendLogWrong)

/-- 'laws.FnCrashLogs': WHATEVER THE INPUT: true; the input reads as it did. -/
def fnCrashLogsSpec : ChangeSpec := { name := "fnCrashLogs", fn := fun _ => fun
  | [d] => { results := [.lit (.bool true)], args := [d] }
  | _ => none }
def fnCrashLogsRow : OpenClaim := { program := "ytcdpiejcdeedoaa", sum := "7c8e06b9fdc9cc51731aebcf909f14fb6eb77a34f61d099fe12ef7484bebd4d7", func := "loop.example/g00203/laws.FnCrashLogs", spec := "fnCrashLogs", apart := false }
def FnCrashLogsSaid : Prop := fnCrashLogsRow.holds Try.pinned (OpenSpec.ofChange fnCrashLogsSpec)

/-- ITS FALSE NEIGHBOUR: 'it returns false'. Refute it at one input. -/
def fnCrashLogsWrong : ChangeSpec := { name := "fnCrashLogs", fn := fun _ => fun
  | [d] => { results := [.lit (.bool false)], args := [d] }
  | _ => none }
def FnCrashLogsWrongFalsely : Prop := fnCrashLogsRow.holds Try.pinned (OpenSpec.ofChange fnCrashLogsWrong)

/-- 'laws.FnExactReadLog': WHATEVER THE INPUT: true; the input reads as it did. -/
def fnExactReadLogSpec : ChangeSpec := { name := "fnExactReadLog", fn := fun _ => fun
  | [d] => { results := [.lit (.bool true)], args := [d] }
  | _ => none }
def fnExactReadLogRow : OpenClaim := { program := "ytcdpiejcdeedoaa", sum := "7c8e06b9fdc9cc51731aebcf909f14fb6eb77a34f61d099fe12ef7484bebd4d7", func := "loop.example/g00203/laws.FnExactReadLog", spec := "fnExactReadLog", apart := false }
def FnExactReadLogSaid : Prop := fnExactReadLogRow.holds Try.pinned (OpenSpec.ofChange fnExactReadLogSpec)

/-- ITS FALSE NEIGHBOUR: 'it returns false'. Refute it at one input. -/
def fnExactReadLogWrong : ChangeSpec := { name := "fnExactReadLog", fn := fun _ => fun
  | [d] => { results := [.lit (.bool false)], args := [d] }
  | _ => none }
def FnExactReadLogWrongFalsely : Prop := fnExactReadLogRow.holds Try.pinned (OpenSpec.ofChange fnExactReadLogWrong)

/-- 'laws.FnAppends': WHATEVER THE INPUT: true; the input reads as it did. -/
def fnAppendsSpec : ChangeSpec := { name := "fnAppends", fn := fun _ => fun
  | [d] => { results := [.lit (.bool true)], args := [d] }
  | _ => none }
def fnAppendsRow : OpenClaim := { program := "ytcdpiejcdeedoaa", sum := "7c8e06b9fdc9cc51731aebcf909f14fb6eb77a34f61d099fe12ef7484bebd4d7", func := "loop.example/g00203/laws.FnAppends", spec := "fnAppends", apart := false }
def FnAppendsSaid : Prop := fnAppendsRow.holds Try.pinned (OpenSpec.ofChange fnAppendsSpec)

/-- ITS FALSE NEIGHBOUR: 'it returns false'. Refute it at one input. -/
def fnAppendsWrong : ChangeSpec := { name := "fnAppends", fn := fun _ => fun
  | [d] => { results := [.lit (.bool false)], args := [d] }
  | _ => none }
def FnAppendsWrongFalsely : Prop := fnAppendsRow.holds Try.pinned (OpenSpec.ofChange fnAppendsWrong)

/- THE SECOND FORM. 'bulk': how many values and letters a reading holds, each counted each time it is reached (what is shared counts as often as it is met; a slice's spare places count too). A statement '..UptoSaid' is the law's where the arguments, and the package variables that the reading takes, are together of bulk at most 1048576: NARROWER than '..Said'. Prove '..Said' where nothing that the law and all that it calls make is longer than what came in: it says more and counts as full. Else prove '..UptoSaid'. A law counts once. -/
mutual
def uptoBulk {H : Type} : DataW H → Nat
  | .lit (.string bytes) => bytes.length + 1
  | .lit _ => 1
  | .nil => 1
  | .ptr d => uptoBulk d + 1
  | .slice elems spare => uptoBulkAll elems + uptoBulkAll spare + 1
  | .agg parts => uptoBulkAll parts + 1
  | .iface _ d => uptoBulk d + 1
  | .map entries => uptoBulkEntries entries + 1
  | .held _ => 1
def uptoBulkAll {H : Type} : List (DataW H) → Nat
  | [] => 0
  | d :: r => uptoBulk d + uptoBulkAll r
def uptoBulkEntries {H : Type} : List (Lit × DataW H) → Nat
  | [] => 0
  | x :: r => uptoBulkEntry x + uptoBulkEntries r
def uptoBulkEntry {H : Type} : Lit × DataW H → Nat
  | (.string bytes, d) => bytes.length + uptoBulk d + 1
  | (_, d) => uptoBulk d + 1
 end
def uptoSmall : (H : Type) → List (DataW H) → Bool := fun _ ds => decide (uptoBulkAll ds ≤ 1048576)
def OpenSpec.upto (s : _root_.Go.ChangeSpec) : _root_.Go.OpenSpec := { _root_.Go.OpenSpec.ofChange s with cond := some uptoSmall }

/-- 'laws.FnExactLogFault', WHERE WHAT IT READS IS OF BULK AT MOST 1048576: true; the input reads as it did. -/
def fnExactLogFaultUptoRow : OpenClaim := { program := "ytcdpiejcdeedoaa", sum := "7c8e06b9fdc9cc51731aebcf909f14fb6eb77a34f61d099fe12ef7484bebd4d7", func := "loop.example/g00203/laws.FnExactLogFault", spec := "fnExactLogFault", apart := false, narrowed := true }
def FnExactLogFaultUptoSaid : Prop := fnExactLogFaultUptoRow.holds Try.pinned (OpenSpec.upto fnExactLogFaultSpec)

/-- 'laws.FnExactFrameRecord', WHERE WHAT IT READS IS OF BULK AT MOST 1048576: true; the input reads as it did. -/
def fnExactFrameRecordUptoRow : OpenClaim := { program := "ytcdpiejcdeedoaa", sum := "7c8e06b9fdc9cc51731aebcf909f14fb6eb77a34f61d099fe12ef7484bebd4d7", func := "loop.example/g00203/laws.FnExactFrameRecord", spec := "fnExactFrameRecord", apart := false, narrowed := true }
def FnExactFrameRecordUptoSaid : Prop := fnExactFrameRecordUptoRow.holds Try.pinned (OpenSpec.upto fnExactFrameRecordSpec)

/-- 'laws.FnFrames', WHERE WHAT IT READS IS OF BULK AT MOST 1048576: true; the input reads as it did. -/
def fnFramesUptoRow : OpenClaim := { program := "ytcdpiejcdeedoaa", sum := "7c8e06b9fdc9cc51731aebcf909f14fb6eb77a34f61d099fe12ef7484bebd4d7", func := "loop.example/g00203/laws.FnFrames", spec := "fnFrames", apart := false, narrowed := true }
def FnFramesUptoSaid : Prop := fnFramesUptoRow.holds Try.pinned (OpenSpec.upto fnFramesSpec)

/-- 'laws.FnExactSyncLog', WHERE WHAT IT READS IS OF BULK AT MOST 1048576: true; the input reads as it did. -/
def fnExactSyncLogUptoRow : OpenClaim := { program := "ytcdpiejcdeedoaa", sum := "7c8e06b9fdc9cc51731aebcf909f14fb6eb77a34f61d099fe12ef7484bebd4d7", func := "loop.example/g00203/laws.FnExactSyncLog", spec := "fnExactSyncLog", apart := false, narrowed := true }
def FnExactSyncLogUptoSaid : Prop := fnExactSyncLogUptoRow.holds Try.pinned (OpenSpec.upto fnExactSyncLogSpec)

/-- 'laws.FnExactUnframeAll', WHERE WHAT IT READS IS OF BULK AT MOST 1048576: true; the input reads as it did. -/
def fnExactUnframeAllUptoRow : OpenClaim := { program := "ytcdpiejcdeedoaa", sum := "7c8e06b9fdc9cc51731aebcf909f14fb6eb77a34f61d099fe12ef7484bebd4d7", func := "loop.example/g00203/laws.FnExactUnframeAll", spec := "fnExactUnframeAll", apart := false, narrowed := true }
def FnExactUnframeAllUptoSaid : Prop := fnExactUnframeAllUptoRow.holds Try.pinned (OpenSpec.upto fnExactUnframeAllSpec)

/-- 'laws.FnExactCrashLog', WHERE WHAT IT READS IS OF BULK AT MOST 1048576: true; the input reads as it did. -/
def fnExactCrashLogUptoRow : OpenClaim := { program := "ytcdpiejcdeedoaa", sum := "7c8e06b9fdc9cc51731aebcf909f14fb6eb77a34f61d099fe12ef7484bebd4d7", func := "loop.example/g00203/laws.FnExactCrashLog", spec := "fnExactCrashLog", apart := false, narrowed := true }
def FnExactCrashLogUptoSaid : Prop := fnExactCrashLogUptoRow.holds Try.pinned (OpenSpec.upto fnExactCrashLogSpec)

/-- 'laws.FnExactTrimLog', WHERE WHAT IT READS IS OF BULK AT MOST 1048576: true; the input reads as it did. -/
def fnExactTrimLogUptoRow : OpenClaim := { program := "ytcdpiejcdeedoaa", sum := "7c8e06b9fdc9cc51731aebcf909f14fb6eb77a34f61d099fe12ef7484bebd4d7", func := "loop.example/g00203/laws.FnExactTrimLog", spec := "fnExactTrimLog", apart := false, narrowed := true }
def FnExactTrimLogUptoSaid : Prop := fnExactTrimLogUptoRow.holds Try.pinned (OpenSpec.upto fnExactTrimLogSpec)

/-- 'laws.FnExactAppendLog', WHERE WHAT IT READS IS OF BULK AT MOST 1048576: true; the input reads as it did. -/
def fnExactAppendLogUptoRow : OpenClaim := { program := "ytcdpiejcdeedoaa", sum := "7c8e06b9fdc9cc51731aebcf909f14fb6eb77a34f61d099fe12ef7484bebd4d7", func := "loop.example/g00203/laws.FnExactAppendLog", spec := "fnExactAppendLog", apart := false, narrowed := true }
def FnExactAppendLogUptoSaid : Prop := fnExactAppendLogUptoRow.holds Try.pinned (OpenSpec.upto fnExactAppendLogSpec)

/-- 'laws.FnCrashLogs', WHERE WHAT IT READS IS OF BULK AT MOST 1048576: true; the input reads as it did. -/
def fnCrashLogsUptoRow : OpenClaim := { program := "ytcdpiejcdeedoaa", sum := "7c8e06b9fdc9cc51731aebcf909f14fb6eb77a34f61d099fe12ef7484bebd4d7", func := "loop.example/g00203/laws.FnCrashLogs", spec := "fnCrashLogs", apart := false, narrowed := true }
def FnCrashLogsUptoSaid : Prop := fnCrashLogsUptoRow.holds Try.pinned (OpenSpec.upto fnCrashLogsSpec)

/-- 'laws.FnExactReadLog', WHERE WHAT IT READS IS OF BULK AT MOST 1048576: true; the input reads as it did. -/
def fnExactReadLogUptoRow : OpenClaim := { program := "ytcdpiejcdeedoaa", sum := "7c8e06b9fdc9cc51731aebcf909f14fb6eb77a34f61d099fe12ef7484bebd4d7", func := "loop.example/g00203/laws.FnExactReadLog", spec := "fnExactReadLog", apart := false, narrowed := true }
def FnExactReadLogUptoSaid : Prop := fnExactReadLogUptoRow.holds Try.pinned (OpenSpec.upto fnExactReadLogSpec)

/-- 'laws.FnAppends', WHERE WHAT IT READS IS OF BULK AT MOST 1048576: true; the input reads as it did. -/
def fnAppendsUptoRow : OpenClaim := { program := "ytcdpiejcdeedoaa", sum := "7c8e06b9fdc9cc51731aebcf909f14fb6eb77a34f61d099fe12ef7484bebd4d7", func := "loop.example/g00203/laws.FnAppends", spec := "fnAppends", apart := false, narrowed := true }
def FnAppendsUptoSaid : Prop := fnAppendsUptoRow.holds Try.pinned (OpenSpec.upto fnAppendsSpec)

end Rows
end Go.Proofs.Ytcdpiejcdeedoaa
