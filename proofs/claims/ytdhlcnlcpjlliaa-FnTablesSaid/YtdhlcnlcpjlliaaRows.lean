/-
  No cell of these rows narrows 'for every input' (looked for: loops, veiled, ifaces, maps, wideKeys, modest, calm, conditions, laid).
  DERIVED. THE GIVEN ROWS OF THIS SEAT. 12 by the template 'for every input the law returns true; each argument reads behind the call as it read before'; 0 by the template 'total and deterministic' (their statements: YtdhlcnlcpjlliaaTotals.lean).
  GIVEN WITH THE SEED: the statements are not yours to turn. If you find one false, say at which input.
  Laid BY PROGRAM, IN A SANDBOX (cutbox-rows.mjs): the forced cells as the released guide's own fill.sh prints them over the translation 326cf02a1ab2fc7f… (all of the seat's roots in one cut). By AI agents, Wed Nov 11 2026. No macro, syntax, notation, axiom, sorry.
-/
import Derived.Test.YtdhlcnlcpjlliaaChecked
import GoSem.Claim
import GoSem.ClaimJoined
import GoSem.ClaimMapViews
import Derived.JoinedTies
import Derived.KernelRfl
namespace Go.Proofs.Ytdhlcnlcpjlliaa
/- THE CELL 'sum', in the pinned program and in every row, IS THE sha256 OF THE DUMP (.gsa) THAT YtdhlcnlcpjlliaaProg.lean LOADS. Nothing in Lean hashes anything: it is a label: what it is worth is what the hold of that sum in a sandbox is worth. -/
noncomputable def Try.pinned : Pinned := { name := "ytdhlcnlcpjlliaa", sum := "326cf02a1ab2fc7fa860784704b68ca97fb5755638b5e08d0cb690902f65fb57", checked := Try.checked }
namespace Rows
def none {H : Type} : Left H := { results := [], args := [] }

/-- 'laws.FnExactTableFault': WHATEVER THE INPUT: true; the input reads as it did. -/
def fnExactTableFaultSpec : ChangeSpec := { name := "fnExactTableFault", fn := fun _ => fun
  | [d] => { results := [.lit (.bool true)], args := [d] }
  | _ => none }
def fnExactTableFaultRow : OpenClaim := { program := "ytdhlcnlcpjlliaa", sum := "326cf02a1ab2fc7fa860784704b68ca97fb5755638b5e08d0cb690902f65fb57", func := "loop.example/g00203/laws.FnExactTableFault", spec := "fnExactTableFault", inPlace := ["internal/bytealg.abigen_runtime_cmpstring"], apart := false }
def FnExactTableFaultSaid : Prop := fnExactTableFaultRow.holds Try.pinned (OpenSpec.ofChange fnExactTableFaultSpec)

/-- ITS FALSE NEIGHBOUR: 'it returns false'. Refute it at one input. -/
def fnExactTableFaultWrong : ChangeSpec := { name := "fnExactTableFault", fn := fun _ => fun
  | [d] => { results := [.lit (.bool false)], args := [d] }
  | _ => none }
def FnExactTableFaultWrongFalsely : Prop := fnExactTableFaultRow.holds Try.pinned (OpenSpec.ofChange fnExactTableFaultWrong)

/-- 'laws.FnExactWritesFault': WHATEVER THE INPUT: true; the input reads as it did. -/
def fnExactWritesFaultSpec : ChangeSpec := { name := "fnExactWritesFault", fn := fun _ => fun
  | [d] => { results := [.lit (.bool true)], args := [d] }
  | _ => none }
def fnExactWritesFaultRow : OpenClaim := { program := "ytdhlcnlcpjlliaa", sum := "326cf02a1ab2fc7fa860784704b68ca97fb5755638b5e08d0cb690902f65fb57", func := "loop.example/g00203/laws.FnExactWritesFault", spec := "fnExactWritesFault", unfollowed := true, recurses := true, apart := false }
def FnExactWritesFaultSaid : Prop := fnExactWritesFaultRow.holds Try.pinned (OpenSpec.ofChange fnExactWritesFaultSpec)

/-- ITS FALSE NEIGHBOUR: 'it returns false'. Refute it at one input. -/
def fnExactWritesFaultWrong : ChangeSpec := { name := "fnExactWritesFault", fn := fun _ => fun
  | [d] => { results := [.lit (.bool false)], args := [d] }
  | _ => none }
def FnExactWritesFaultWrongFalsely : Prop := fnExactWritesFaultRow.holds Try.pinned (OpenSpec.ofChange fnExactWritesFaultWrong)

/-- 'laws.FnExactGetRow': WHATEVER THE INPUT: true; the input reads as it did. -/
def fnExactGetRowSpec : ChangeSpec := { name := "fnExactGetRow", fn := fun _ => fun
  | [d1, d2, d3] => { results := [.lit (.bool true)], args := [d1, d2, d3] }
  | _ => none }
def fnExactGetRowRow : OpenClaim := { program := "ytdhlcnlcpjlliaa", sum := "326cf02a1ab2fc7fa860784704b68ca97fb5755638b5e08d0cb690902f65fb57", func := "loop.example/g00203/laws.FnExactGetRow", spec := "fnExactGetRow", inPlace := ["internal/bytealg.abigen_runtime_cmpstring"], unfollowed := true, recurses := true, apart := false }
def FnExactGetRowSaid : Prop := fnExactGetRowRow.holds Try.pinned (OpenSpec.ofChange fnExactGetRowSpec)

/-- ITS FALSE NEIGHBOUR: 'it returns false'. Refute it at one input. -/
def fnExactGetRowWrong : ChangeSpec := { name := "fnExactGetRow", fn := fun _ => fun
  | [d1, d2, d3] => { results := [.lit (.bool false)], args := [d1, d2, d3] }
  | _ => none }
def FnExactGetRowWrongFalsely : Prop := fnExactGetRowRow.holds Try.pinned (OpenSpec.ofChange fnExactGetRowWrong)

/-- 'laws.FnCompacts': WHATEVER THE INPUT: true; the input reads as it did. -/
def fnCompactsSpec : ChangeSpec := { name := "fnCompacts", fn := fun _ => fun
  | [d] => { results := [.lit (.bool true)], args := [d] }
  | _ => none }
def fnCompactsRow : OpenClaim := { program := "ytdhlcnlcpjlliaa", sum := "326cf02a1ab2fc7fa860784704b68ca97fb5755638b5e08d0cb690902f65fb57", func := "loop.example/g00203/laws.FnCompacts", spec := "fnCompacts", inPlace := ["internal/bytealg.abigen_runtime_cmpstring"], unfollowed := true, recurses := true, apart := false }
def FnCompactsSaid : Prop := fnCompactsRow.holds Try.pinned (OpenSpec.ofChange fnCompactsSpec)

/-- ITS FALSE NEIGHBOUR: 'it returns false'. Refute it at one input. -/
def fnCompactsWrong : ChangeSpec := { name := "fnCompacts", fn := fun _ => fun
  | [d] => { results := [.lit (.bool false)], args := [d] }
  | _ => none }
def FnCompactsWrongFalsely : Prop := fnCompactsRow.holds Try.pinned (OpenSpec.ofChange fnCompactsWrong)

/-- 'laws.FnExactCompactTable': WHATEVER THE INPUT: true; the input reads as it did. -/
def fnExactCompactTableSpec : ChangeSpec := { name := "fnExactCompactTable", fn := fun _ => fun
  | [d1, d2] => { results := [.lit (.bool true)], args := [d1, d2] }
  | _ => none }
def fnExactCompactTableRow : OpenClaim := { program := "ytdhlcnlcpjlliaa", sum := "326cf02a1ab2fc7fa860784704b68ca97fb5755638b5e08d0cb690902f65fb57", func := "loop.example/g00203/laws.FnExactCompactTable", spec := "fnExactCompactTable", inPlace := ["internal/bytealg.abigen_runtime_cmpstring"], apart := false }
def FnExactCompactTableSaid : Prop := fnExactCompactTableRow.holds Try.pinned (OpenSpec.ofChange fnExactCompactTableSpec)

/-- ITS FALSE NEIGHBOUR: 'it returns false'. Refute it at one input. -/
def fnExactCompactTableWrong : ChangeSpec := { name := "fnExactCompactTable", fn := fun _ => fun
  | [d1, d2] => { results := [.lit (.bool false)], args := [d1, d2] }
  | _ => none }
def FnExactCompactTableWrongFalsely : Prop := fnExactCompactTableRow.holds Try.pinned (OpenSpec.ofChange fnExactCompactTableWrong)

/-- 'laws.FnExactPackWrites': WHATEVER THE INPUT: true; the input reads as it did. -/
def fnExactPackWritesSpec : ChangeSpec := { name := "fnExactPackWrites", fn := fun _ => fun
  | [d1, d2] => { results := [.lit (.bool true)], args := [d1, d2] }
  | _ => none }
def fnExactPackWritesRow : OpenClaim := { program := "ytdhlcnlcpjlliaa", sum := "326cf02a1ab2fc7fa860784704b68ca97fb5755638b5e08d0cb690902f65fb57", func := "loop.example/g00203/laws.FnExactPackWrites", spec := "fnExactPackWrites", unfollowed := true, recurses := true, apart := false }
def FnExactPackWritesSaid : Prop := fnExactPackWritesRow.holds Try.pinned (OpenSpec.ofChange fnExactPackWritesSpec)

/-- ITS FALSE NEIGHBOUR: 'it returns false'. Refute it at one input. -/
def fnExactPackWritesWrong : ChangeSpec := { name := "fnExactPackWrites", fn := fun _ => fun
  | [d1, d2] => { results := [.lit (.bool false)], args := [d1, d2] }
  | _ => none }
def FnExactPackWritesWrongFalsely : Prop := fnExactPackWritesRow.holds Try.pinned (OpenSpec.ofChange fnExactPackWritesWrong)

/-- 'laws.FnExactKeysOf': WHATEVER THE INPUT: true; the input reads as it did. -/
def fnExactKeysOfSpec : ChangeSpec := { name := "fnExactKeysOf", fn := fun _ => fun
  | [d] => { results := [.lit (.bool true)], args := [d] }
  | _ => none }
def fnExactKeysOfRow : OpenClaim := { program := "ytdhlcnlcpjlliaa", sum := "326cf02a1ab2fc7fa860784704b68ca97fb5755638b5e08d0cb690902f65fb57", func := "loop.example/g00203/laws.FnExactKeysOf", spec := "fnExactKeysOf", inPlace := ["internal/bytealg.abigen_runtime_cmpstring"], apart := false }
def FnExactKeysOfSaid : Prop := fnExactKeysOfRow.holds Try.pinned (OpenSpec.ofChange fnExactKeysOfSpec)

/-- ITS FALSE NEIGHBOUR: 'it returns false'. Refute it at one input. -/
def fnExactKeysOfWrong : ChangeSpec := { name := "fnExactKeysOf", fn := fun _ => fun
  | [d] => { results := [.lit (.bool false)], args := [d] }
  | _ => none }
def FnExactKeysOfWrongFalsely : Prop := fnExactKeysOfRow.holds Try.pinned (OpenSpec.ofChange fnExactKeysOfWrong)

/-- 'laws.FnScans': WHATEVER THE INPUT: true; the input reads as it did. -/
def fnScansSpec : ChangeSpec := { name := "fnScans", fn := fun _ => fun
  | [d] => { results := [.lit (.bool true)], args := [d] }
  | _ => none }
def fnScansRow : OpenClaim := { program := "ytdhlcnlcpjlliaa", sum := "326cf02a1ab2fc7fa860784704b68ca97fb5755638b5e08d0cb690902f65fb57", func := "loop.example/g00203/laws.FnScans", spec := "fnScans", inPlace := ["internal/bytealg.abigen_runtime_cmpstring"], unfollowed := true, recurses := true, apart := false }
def FnScansSaid : Prop := fnScansRow.holds Try.pinned (OpenSpec.ofChange fnScansSpec)

/-- ITS FALSE NEIGHBOUR: 'it returns false'. Refute it at one input. -/
def fnScansWrong : ChangeSpec := { name := "fnScans", fn := fun _ => fun
  | [d] => { results := [.lit (.bool false)], args := [d] }
  | _ => none }
def FnScansWrongFalsely : Prop := fnScansRow.holds Try.pinned (OpenSpec.ofChange fnScansWrong)

/-- 'laws.FnExactScanTable': WHATEVER THE INPUT: true; the input reads as it did. -/
def fnExactScanTableSpec : ChangeSpec := { name := "fnExactScanTable", fn := fun _ => fun
  | [d1, d2, d3] => { results := [.lit (.bool true)], args := [d1, d2, d3] }
  | _ => none }
def fnExactScanTableRow : OpenClaim := { program := "ytdhlcnlcpjlliaa", sum := "326cf02a1ab2fc7fa860784704b68ca97fb5755638b5e08d0cb690902f65fb57", func := "loop.example/g00203/laws.FnExactScanTable", spec := "fnExactScanTable", inPlace := ["internal/bytealg.abigen_runtime_cmpstring"], unfollowed := true, recurses := true, apart := false }
def FnExactScanTableSaid : Prop := fnExactScanTableRow.holds Try.pinned (OpenSpec.ofChange fnExactScanTableSpec)

/-- ITS FALSE NEIGHBOUR: 'it returns false'. Refute it at one input. -/
def fnExactScanTableWrong : ChangeSpec := { name := "fnExactScanTable", fn := fun _ => fun
  | [d1, d2, d3] => { results := [.lit (.bool false)], args := [d1, d2, d3] }
  | _ => none }
def FnExactScanTableWrongFalsely : Prop := fnExactScanTableRow.holds Try.pinned (OpenSpec.ofChange fnExactScanTableWrong)

/-- 'laws.FnExactUnpackWrites': WHATEVER THE INPUT: true; the input reads as it did. -/
def fnExactUnpackWritesSpec : ChangeSpec := { name := "fnExactUnpackWrites", fn := fun _ => fun
  | [d] => { results := [.lit (.bool true)], args := [d] }
  | _ => none }
def fnExactUnpackWritesRow : OpenClaim := { program := "ytdhlcnlcpjlliaa", sum := "326cf02a1ab2fc7fa860784704b68ca97fb5755638b5e08d0cb690902f65fb57", func := "loop.example/g00203/laws.FnExactUnpackWrites", spec := "fnExactUnpackWrites", unfollowed := true, recurses := true, apart := false }
def FnExactUnpackWritesSaid : Prop := fnExactUnpackWritesRow.holds Try.pinned (OpenSpec.ofChange fnExactUnpackWritesSpec)

/-- ITS FALSE NEIGHBOUR: 'it returns false'. Refute it at one input. -/
def fnExactUnpackWritesWrong : ChangeSpec := { name := "fnExactUnpackWrites", fn := fun _ => fun
  | [d] => { results := [.lit (.bool false)], args := [d] }
  | _ => none }
def FnExactUnpackWritesWrongFalsely : Prop := fnExactUnpackWritesRow.holds Try.pinned (OpenSpec.ofChange fnExactUnpackWritesWrong)

/-- 'laws.FnTables': WHATEVER THE INPUT: true; the input reads as it did. -/
def fnTablesSpec : ChangeSpec := { name := "fnTables", fn := fun _ => fun
  | [d] => { results := [.lit (.bool true)], args := [d] }
  | _ => none }
def fnTablesRow : OpenClaim := { program := "ytdhlcnlcpjlliaa", sum := "326cf02a1ab2fc7fa860784704b68ca97fb5755638b5e08d0cb690902f65fb57", func := "loop.example/g00203/laws.FnTables", spec := "fnTables", inPlace := ["internal/bytealg.abigen_runtime_cmpstring"], unfollowed := true, recurses := true, apart := false }
def FnTablesSaid : Prop := fnTablesRow.holds Try.pinned (OpenSpec.ofChange fnTablesSpec)

/-- ITS FALSE NEIGHBOUR: 'it returns false'. Refute it at one input. -/
def fnTablesWrong : ChangeSpec := { name := "fnTables", fn := fun _ => fun
  | [d] => { results := [.lit (.bool false)], args := [d] }
  | _ => none }
def FnTablesWrongFalsely : Prop := fnTablesRow.holds Try.pinned (OpenSpec.ofChange fnTablesWrong)

/-- 'laws.FnExactMergeTables': WHATEVER THE INPUT: true; the input reads as it did. -/
def fnExactMergeTablesSpec : ChangeSpec := { name := "fnExactMergeTables", fn := fun _ => fun
  | [d] => { results := [.lit (.bool true)], args := [d] }
  | _ => none }
def fnExactMergeTablesRow : OpenClaim := { program := "ytdhlcnlcpjlliaa", sum := "326cf02a1ab2fc7fa860784704b68ca97fb5755638b5e08d0cb690902f65fb57", func := "loop.example/g00203/laws.FnExactMergeTables", spec := "fnExactMergeTables", inPlace := ["internal/bytealg.abigen_runtime_cmpstring"], unfollowed := true, recurses := true, apart := false }
def FnExactMergeTablesSaid : Prop := fnExactMergeTablesRow.holds Try.pinned (OpenSpec.ofChange fnExactMergeTablesSpec)

/-- ITS FALSE NEIGHBOUR: 'it returns false'. Refute it at one input. -/
def fnExactMergeTablesWrong : ChangeSpec := { name := "fnExactMergeTables", fn := fun _ => fun
  | [d] => { results := [.lit (.bool false)], args := [d] }
  | _ => none }
def FnExactMergeTablesWrongFalsely : Prop := fnExactMergeTablesRow.holds Try.pinned (OpenSpec.ofChange fnExactMergeTablesWrong)

/- THE SECOND FORM. 'bulk': how many values and letters a reading holds, each counted each time it is reached (what is shared counts as often as it is met; a slice's spare places count too). A statement '..UptoSaid' is the law's where the arguments, and the package variables that the reading takes, are together of bulk at most 1048576: NARROWER than '..Said'. Prove '..Said' where nothing that the law and all that it calls make is longer than what came in: it says more and counts as full. Else prove '..UptoSaid'. A law counts once. -/
mutual
def uptoBulk {H : Type} : DataW H → Nat
  | .lit (.string bytes) => bytes.length + 1
  | .lit _ => 1
  | .nil => 1
  | .ptr d => uptoBulk d + 1
  | .slice elems spare => uptoBulkAll elems + uptoBulkAll spare + 1
  | .agg parts => uptoBulkAll parts + 1
  | .iface _ d => uptoBulk d + 1
  | .map entries => uptoBulkEntries entries + 1
  | .held _ => 1
def uptoBulkAll {H : Type} : List (DataW H) → Nat
  | [] => 0
  | d :: r => uptoBulk d + uptoBulkAll r
def uptoBulkEntries {H : Type} : List (Lit × DataW H) → Nat
  | [] => 0
  | x :: r => uptoBulkEntry x + uptoBulkEntries r
def uptoBulkEntry {H : Type} : Lit × DataW H → Nat
  | (.string bytes, d) => bytes.length + uptoBulk d + 1
  | (_, d) => uptoBulk d + 1
 end
def uptoSmall : (H : Type) → List (DataW H) → Bool := fun _ ds => decide (uptoBulkAll ds ≤ 1048576)
def OpenSpec.upto (s : _root_.Go.ChangeSpec) : _root_.Go.OpenSpec := { _root_.Go.OpenSpec.ofChange s with cond := some uptoSmall }

/-- 'laws.FnExactTableFault', WHERE WHAT IT READS IS OF BULK AT MOST 1048576: true; the input reads as it did. -/
def fnExactTableFaultUptoRow : OpenClaim := { program := "ytdhlcnlcpjlliaa", sum := "326cf02a1ab2fc7fa860784704b68ca97fb5755638b5e08d0cb690902f65fb57", func := "loop.example/g00203/laws.FnExactTableFault", spec := "fnExactTableFault", inPlace := ["internal/bytealg.abigen_runtime_cmpstring"], apart := false, narrowed := true }
def FnExactTableFaultUptoSaid : Prop := fnExactTableFaultUptoRow.holds Try.pinned (OpenSpec.upto fnExactTableFaultSpec)

/-- 'laws.FnExactWritesFault', WHERE WHAT IT READS IS OF BULK AT MOST 1048576: true; the input reads as it did. -/
def fnExactWritesFaultUptoRow : OpenClaim := { program := "ytdhlcnlcpjlliaa", sum := "326cf02a1ab2fc7fa860784704b68ca97fb5755638b5e08d0cb690902f65fb57", func := "loop.example/g00203/laws.FnExactWritesFault", spec := "fnExactWritesFault", unfollowed := true, recurses := true, apart := false, narrowed := true }
def FnExactWritesFaultUptoSaid : Prop := fnExactWritesFaultUptoRow.holds Try.pinned (OpenSpec.upto fnExactWritesFaultSpec)

/-- 'laws.FnExactGetRow', WHERE WHAT IT READS IS OF BULK AT MOST 1048576: true; the input reads as it did. -/
def fnExactGetRowUptoRow : OpenClaim := { program := "ytdhlcnlcpjlliaa", sum := "326cf02a1ab2fc7fa860784704b68ca97fb5755638b5e08d0cb690902f65fb57", func := "loop.example/g00203/laws.FnExactGetRow", spec := "fnExactGetRow", inPlace := ["internal/bytealg.abigen_runtime_cmpstring"], unfollowed := true, recurses := true, apart := false, narrowed := true }
def FnExactGetRowUptoSaid : Prop := fnExactGetRowUptoRow.holds Try.pinned (OpenSpec.upto fnExactGetRowSpec)

/-- 'laws.FnCompacts', WHERE WHAT IT READS IS OF BULK AT MOST 1048576: true; the input reads as it did. -/
def fnCompactsUptoRow : OpenClaim := { program := "ytdhlcnlcpjlliaa", sum := "326cf02a1ab2fc7fa860784704b68ca97fb5755638b5e08d0cb690902f65fb57", func := "loop.example/g00203/laws.FnCompacts", spec := "fnCompacts", inPlace := ["internal/bytealg.abigen_runtime_cmpstring"], unfollowed := true, recurses := true, apart := false, narrowed := true }
def FnCompactsUptoSaid : Prop := fnCompactsUptoRow.holds Try.pinned (OpenSpec.upto fnCompactsSpec)

/-- 'laws.FnExactCompactTable', WHERE WHAT IT READS IS OF BULK AT MOST 1048576: true; the input reads as it did. -/
def fnExactCompactTableUptoRow : OpenClaim := { program := "ytdhlcnlcpjlliaa", sum := "326cf02a1ab2fc7fa860784704b68ca97fb5755638b5e08d0cb690902f65fb57", func := "loop.example/g00203/laws.FnExactCompactTable", spec := "fnExactCompactTable", inPlace := ["internal/bytealg.abigen_runtime_cmpstring"], apart := false, narrowed := true }
def FnExactCompactTableUptoSaid : Prop := fnExactCompactTableUptoRow.holds Try.pinned (OpenSpec.upto fnExactCompactTableSpec)

/-- 'laws.FnExactPackWrites', WHERE WHAT IT READS IS OF BULK AT MOST 1048576: true; the input reads as it did. -/
def fnExactPackWritesUptoRow : OpenClaim := { program := "ytdhlcnlcpjlliaa", sum := "326cf02a1ab2fc7fa860784704b68ca97fb5755638b5e08d0cb690902f65fb57", func := "loop.example/g00203/laws.FnExactPackWrites", spec := "fnExactPackWrites", unfollowed := true, recurses := true, apart := false, narrowed := true }
def FnExactPackWritesUptoSaid : Prop := fnExactPackWritesUptoRow.holds Try.pinned (OpenSpec.upto fnExactPackWritesSpec)

/-- 'laws.FnExactKeysOf', WHERE WHAT IT READS IS OF BULK AT MOST 1048576: true; the input reads as it did. -/
def fnExactKeysOfUptoRow : OpenClaim := { program := "ytdhlcnlcpjlliaa", sum := "326cf02a1ab2fc7fa860784704b68ca97fb5755638b5e08d0cb690902f65fb57", func := "loop.example/g00203/laws.FnExactKeysOf", spec := "fnExactKeysOf", inPlace := ["internal/bytealg.abigen_runtime_cmpstring"], apart := false, narrowed := true }
def FnExactKeysOfUptoSaid : Prop := fnExactKeysOfUptoRow.holds Try.pinned (OpenSpec.upto fnExactKeysOfSpec)

/-- 'laws.FnScans', WHERE WHAT IT READS IS OF BULK AT MOST 1048576: true; the input reads as it did. -/
def fnScansUptoRow : OpenClaim := { program := "ytdhlcnlcpjlliaa", sum := "326cf02a1ab2fc7fa860784704b68ca97fb5755638b5e08d0cb690902f65fb57", func := "loop.example/g00203/laws.FnScans", spec := "fnScans", inPlace := ["internal/bytealg.abigen_runtime_cmpstring"], unfollowed := true, recurses := true, apart := false, narrowed := true }
def FnScansUptoSaid : Prop := fnScansUptoRow.holds Try.pinned (OpenSpec.upto fnScansSpec)

/-- 'laws.FnExactScanTable', WHERE WHAT IT READS IS OF BULK AT MOST 1048576: true; the input reads as it did. -/
def fnExactScanTableUptoRow : OpenClaim := { program := "ytdhlcnlcpjlliaa", sum := "326cf02a1ab2fc7fa860784704b68ca97fb5755638b5e08d0cb690902f65fb57", func := "loop.example/g00203/laws.FnExactScanTable", spec := "fnExactScanTable", inPlace := ["internal/bytealg.abigen_runtime_cmpstring"], unfollowed := true, recurses := true, apart := false, narrowed := true }
def FnExactScanTableUptoSaid : Prop := fnExactScanTableUptoRow.holds Try.pinned (OpenSpec.upto fnExactScanTableSpec)

/-- 'laws.FnExactUnpackWrites', WHERE WHAT IT READS IS OF BULK AT MOST 1048576: true; the input reads as it did. -/
def fnExactUnpackWritesUptoRow : OpenClaim := { program := "ytdhlcnlcpjlliaa", sum := "326cf02a1ab2fc7fa860784704b68ca97fb5755638b5e08d0cb690902f65fb57", func := "loop.example/g00203/laws.FnExactUnpackWrites", spec := "fnExactUnpackWrites", unfollowed := true, recurses := true, apart := false, narrowed := true }
def FnExactUnpackWritesUptoSaid : Prop := fnExactUnpackWritesUptoRow.holds Try.pinned (OpenSpec.upto fnExactUnpackWritesSpec)

/-- 'laws.FnTables', WHERE WHAT IT READS IS OF BULK AT MOST 1048576: true; the input reads as it did. -/
def fnTablesUptoRow : OpenClaim := { program := "ytdhlcnlcpjlliaa", sum := "326cf02a1ab2fc7fa860784704b68ca97fb5755638b5e08d0cb690902f65fb57", func := "loop.example/g00203/laws.FnTables", spec := "fnTables", inPlace := ["internal/bytealg.abigen_runtime_cmpstring"], unfollowed := true, recurses := true, apart := false, narrowed := true }
def FnTablesUptoSaid : Prop := fnTablesUptoRow.holds Try.pinned (OpenSpec.upto fnTablesSpec)

/-- 'laws.FnExactMergeTables', WHERE WHAT IT READS IS OF BULK AT MOST 1048576: true; the input reads as it did. -/
def fnExactMergeTablesUptoRow : OpenClaim := { program := "ytdhlcnlcpjlliaa", sum := "326cf02a1ab2fc7fa860784704b68ca97fb5755638b5e08d0cb690902f65fb57", func := "loop.example/g00203/laws.FnExactMergeTables", spec := "fnExactMergeTables", inPlace := ["internal/bytealg.abigen_runtime_cmpstring"], unfollowed := true, recurses := true, apart := false, narrowed := true }
def FnExactMergeTablesUptoSaid : Prop := fnExactMergeTablesUptoRow.holds Try.pinned (OpenSpec.upto fnExactMergeTablesSpec)

end Rows
end Go.Proofs.Ytdhlcnlcpjlliaa
