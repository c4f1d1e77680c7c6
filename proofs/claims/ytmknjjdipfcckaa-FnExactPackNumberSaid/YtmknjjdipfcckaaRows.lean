/-
  No cell of these rows narrows 'for every input' (looked for: loops, veiled, ifaces, maps, wideKeys, modest, calm, conditions, laid).
  DERIVED. THE GIVEN ROWS OF THIS SEAT. 6 by the template 'for every input the law returns true; each argument reads behind the call as it read before'; 0 by the template 'total and deterministic' (their statements: YtmknjjdipfcckaaTotals.lean).
  GIVEN WITH THE SEED: the statements are not yours to turn. If you find one false, say at which input.
  Laid BY PROGRAM, IN A SANDBOX (cutbox-rows.mjs): the forced cells as the released guide's own fill.sh prints them over the translation 0233b8c0098c993e… (all of the seat's roots in one cut). By AI agents, Wed Nov 11 2026. No macro, syntax, notation, axiom, sorry.
-/
import Derived.Test.YtmknjjdipfcckaaChecked
import GoSem.Claim
import GoSem.ClaimJoined
import GoSem.ClaimMapViews
import Derived.JoinedTies
import Derived.KernelRfl
namespace Go.Proofs.Ytmknjjdipfcckaa
/- THE CELL 'sum', in the pinned program and in every row, IS THE sha256 OF THE DUMP (.gsa) THAT YtmknjjdipfcckaaProg.lean LOADS. Nothing in Lean hashes anything: it is a label: what it is worth is what the hold of that sum in a sandbox is worth. -/
noncomputable def Try.pinned : Pinned := { name := "ytmknjjdipfcckaa", sum := "0233b8c0098c993e2e87d43ce298f76ba3d9b851a059202df595be292b5e4d37", checked := Try.checked }
namespace Rows
def none {H : Type} : Left H := { results := [], args := [] }

/-- 'laws.FnExactConstants': WHATEVER THE INPUT: true; the input reads as it did. -/
def fnExactConstantsSpec : ChangeSpec := { name := "fnExactConstants", fn := fun _ => fun
  | [] => { results := [.lit (.bool true)], args := [] }
  | _ => none }
def fnExactConstantsRow : OpenClaim := { program := "ytmknjjdipfcckaa", sum := "0233b8c0098c993e2e87d43ce298f76ba3d9b851a059202df595be292b5e4d37", func := "loop.example/g00203/laws.FnExactConstants", spec := "fnExactConstants", apart := false }
def FnExactConstantsSaid : Prop := fnExactConstantsRow.holds Try.pinned (OpenSpec.ofChange fnExactConstantsSpec)

/-- ITS FALSE NEIGHBOUR: 'it returns false'. Refute it at one input. -/
def fnExactConstantsWrong : ChangeSpec := { name := "fnExactConstants", fn := fun _ => fun
  | [] => { results := [.lit (.bool false)], args := [] }
  | _ => none }
def FnExactConstantsWrongFalsely : Prop := fnExactConstantsRow.holds Try.pinned (OpenSpec.ofChange fnExactConstantsWrong)

/-- 'laws.FnExactCheckOf': WHATEVER THE INPUT: true; the input reads as it did. -/
def fnExactCheckOfSpec : ChangeSpec := { name := "fnExactCheckOf", fn := fun _ => fun
  | [d] => { results := [.lit (.bool true)], args := [d] }
  | _ => none }
def fnExactCheckOfRow : OpenClaim := { program := "ytmknjjdipfcckaa", sum := "0233b8c0098c993e2e87d43ce298f76ba3d9b851a059202df595be292b5e4d37", func := "loop.example/g00203/laws.FnExactCheckOf", spec := "fnExactCheckOf", apart := false }
def FnExactCheckOfSaid : Prop := fnExactCheckOfRow.holds Try.pinned (OpenSpec.ofChange fnExactCheckOfSpec)

/-- ITS FALSE NEIGHBOUR: 'it returns false'. Refute it at one input. -/
def fnExactCheckOfWrong : ChangeSpec := { name := "fnExactCheckOf", fn := fun _ => fun
  | [d] => { results := [.lit (.bool false)], args := [d] }
  | _ => none }
def FnExactCheckOfWrongFalsely : Prop := fnExactCheckOfRow.holds Try.pinned (OpenSpec.ofChange fnExactCheckOfWrong)

/-- 'laws.FnExactLegFault': WHATEVER THE INPUT: true; the input reads as it did. -/
def fnExactLegFaultSpec : ChangeSpec := { name := "fnExactLegFault", fn := fun _ => fun
  | [d] => { results := [.lit (.bool true)], args := [d] }
  | _ => none }
def fnExactLegFaultRow : OpenClaim := { program := "ytmknjjdipfcckaa", sum := "0233b8c0098c993e2e87d43ce298f76ba3d9b851a059202df595be292b5e4d37", func := "loop.example/g00203/laws.FnExactLegFault", spec := "fnExactLegFault", apart := false }
def FnExactLegFaultSaid : Prop := fnExactLegFaultRow.holds Try.pinned (OpenSpec.ofChange fnExactLegFaultSpec)

/-- ITS FALSE NEIGHBOUR: 'it returns false'. Refute it at one input. -/
def fnExactLegFaultWrong : ChangeSpec := { name := "fnExactLegFault", fn := fun _ => fun
  | [d] => { results := [.lit (.bool false)], args := [d] }
  | _ => none }
def FnExactLegFaultWrongFalsely : Prop := fnExactLegFaultRow.holds Try.pinned (OpenSpec.ofChange fnExactLegFaultWrong)

/-- 'laws.FnExactPackNumber': WHATEVER THE INPUT: true; the input reads as it did. -/
def fnExactPackNumberSpec : ChangeSpec := { name := "fnExactPackNumber", fn := fun _ => fun
  | [d] => { results := [.lit (.bool true)], args := [d] }
  | _ => none }
def fnExactPackNumberRow : OpenClaim := { program := "ytmknjjdipfcckaa", sum := "0233b8c0098c993e2e87d43ce298f76ba3d9b851a059202df595be292b5e4d37", func := "loop.example/g00203/laws.FnExactPackNumber", spec := "fnExactPackNumber", apart := false }
def FnExactPackNumberSaid : Prop := fnExactPackNumberRow.holds Try.pinned (OpenSpec.ofChange fnExactPackNumberSpec)

/-- ITS FALSE NEIGHBOUR: 'it returns false'. Refute it at one input. -/
def fnExactPackNumberWrong : ChangeSpec := { name := "fnExactPackNumber", fn := fun _ => fun
  | [d] => { results := [.lit (.bool false)], args := [d] }
  | _ => none }
def FnExactPackNumberWrongFalsely : Prop := fnExactPackNumberRow.holds Try.pinned (OpenSpec.ofChange fnExactPackNumberWrong)

/-- 'laws.FnExactRowFault': WHATEVER THE INPUT: true; the input reads as it did. -/
def fnExactRowFaultSpec : ChangeSpec := { name := "fnExactRowFault", fn := fun _ => fun
  | [d] => { results := [.lit (.bool true)], args := [d] }
  | _ => none }
def fnExactRowFaultRow : OpenClaim := { program := "ytmknjjdipfcckaa", sum := "0233b8c0098c993e2e87d43ce298f76ba3d9b851a059202df595be292b5e4d37", func := "loop.example/g00203/laws.FnExactRowFault", spec := "fnExactRowFault", apart := false }
def FnExactRowFaultSaid : Prop := fnExactRowFaultRow.holds Try.pinned (OpenSpec.ofChange fnExactRowFaultSpec)

/-- ITS FALSE NEIGHBOUR: 'it returns false'. Refute it at one input. -/
def fnExactRowFaultWrong : ChangeSpec := { name := "fnExactRowFault", fn := fun _ => fun
  | [d] => { results := [.lit (.bool false)], args := [d] }
  | _ => none }
def FnExactRowFaultWrongFalsely : Prop := fnExactRowFaultRow.holds Try.pinned (OpenSpec.ofChange fnExactRowFaultWrong)

/-- 'laws.FnExactUnpackNumber': WHATEVER THE INPUT: true; the input reads as it did. -/
def fnExactUnpackNumberSpec : ChangeSpec := { name := "fnExactUnpackNumber", fn := fun _ => fun
  | [d] => { results := [.lit (.bool true)], args := [d] }
  | _ => none }
def fnExactUnpackNumberRow : OpenClaim := { program := "ytmknjjdipfcckaa", sum := "0233b8c0098c993e2e87d43ce298f76ba3d9b851a059202df595be292b5e4d37", func := "loop.example/g00203/laws.FnExactUnpackNumber", spec := "fnExactUnpackNumber", apart := false }
def FnExactUnpackNumberSaid : Prop := fnExactUnpackNumberRow.holds Try.pinned (OpenSpec.ofChange fnExactUnpackNumberSpec)

/-- ITS FALSE NEIGHBOUR: 'it returns false'. Refute it at one input. -/
def fnExactUnpackNumberWrong : ChangeSpec := { name := "fnExactUnpackNumber", fn := fun _ => fun
  | [d] => { results := [.lit (.bool false)], args := [d] }
  | _ => none }
def FnExactUnpackNumberWrongFalsely : Prop := fnExactUnpackNumberRow.holds Try.pinned (OpenSpec.ofChange fnExactUnpackNumberWrong)

/- THE SECOND FORM. 'bulk': how many values and letters a reading holds, each counted each time it is reached (what is shared counts as often as it is met; a slice's spare places count too). A statement '..UptoSaid' is the law's where the arguments, and the package variables that the reading takes, are together of bulk at most 1048576: NARROWER than '..Said'. Prove '..Said' where nothing that the law and all that it calls make is longer than what came in: it says more and counts as full. Else prove '..UptoSaid'. A law counts once. -/
mutual
def uptoBulk {H : Type} : DataW H → Nat
  | .lit (.string bytes) => bytes.length + 1
  | .lit _ => 1
  | .nil => 1
  | .ptr d => uptoBulk d + 1
  | .slice elems spare => uptoBulkAll elems + uptoBulkAll spare + 1
  | .agg parts => uptoBulkAll parts + 1
  | .iface _ d => uptoBulk d + 1
  | .map entries => uptoBulkEntries entries + 1
  | .held _ => 1
def uptoBulkAll {H : Type} : List (DataW H) → Nat
  | [] => 0
  | d :: r => uptoBulk d + uptoBulkAll r
def uptoBulkEntries {H : Type} : List (Lit × DataW H) → Nat
  | [] => 0
  | x :: r => uptoBulkEntry x + uptoBulkEntries r
def uptoBulkEntry {H : Type} : Lit × DataW H → Nat
  | (.string bytes, d) => bytes.length + uptoBulk d + 1
  | (_, d) => uptoBulk d + 1
 end
def uptoSmall : (H : Type) → List (DataW H) → Bool := fun _ ds => decide (uptoBulkAll ds ≤ 1048576)
def OpenSpec.upto (s : _root_.Go.ChangeSpec) : _root_.Go.OpenSpec := { _root_.Go.OpenSpec.ofChange s with cond := some uptoSmall }

/-- 'laws.FnExactConstants', WHERE WHAT IT READS IS OF BULK AT MOST 1048576: true; the input reads as it did. -/
def fnExactConstantsUptoRow : OpenClaim := { program := "ytmknjjdipfcckaa", sum := "0233b8c0098c993e2e87d43ce298f76ba3d9b851a059202df595be292b5e4d37", func := "loop.example/g00203/laws.FnExactConstants", spec := "fnExactConstants", apart := false, narrowed := true }
def FnExactConstantsUptoSaid : Prop := fnExactConstantsUptoRow.holds Try.pinned (OpenSpec.upto fnExactConstantsSpec)

/-- 'laws.FnExactCheckOf', WHERE WHAT IT READS IS OF BULK AT MOST 1048576: true; the input reads as it did. -/
def fnExactCheckOfUptoRow : OpenClaim := { program := "ytmknjjdipfcckaa", sum := "0233b8c0098c993e2e87d43ce298f76ba3d9b851a059202df595be292b5e4d37", func := "loop.example/g00203/laws.FnExactCheckOf", spec := "fnExactCheckOf", apart := false, narrowed := true }
def FnExactCheckOfUptoSaid : Prop := fnExactCheckOfUptoRow.holds Try.pinned (OpenSpec.upto fnExactCheckOfSpec)

/-- 'laws.FnExactLegFault', WHERE WHAT IT READS IS OF BULK AT MOST 1048576: true; the input reads as it did. -/
def fnExactLegFaultUptoRow : OpenClaim := { program := "ytmknjjdipfcckaa", sum := "0233b8c0098c993e2e87d43ce298f76ba3d9b851a059202df595be292b5e4d37", func := "loop.example/g00203/laws.FnExactLegFault", spec := "fnExactLegFault", apart := false, narrowed := true }
def FnExactLegFaultUptoSaid : Prop := fnExactLegFaultUptoRow.holds Try.pinned (OpenSpec.upto fnExactLegFaultSpec)

/-- 'laws.FnExactPackNumber', WHERE WHAT IT READS IS OF BULK AT MOST 1048576: true; the input reads as it did. -/
def fnExactPackNumberUptoRow : OpenClaim := { program := "ytmknjjdipfcckaa", sum := "0233b8c0098c993e2e87d43ce298f76ba3d9b851a059202df595be292b5e4d37", func := "loop.example/g00203/laws.FnExactPackNumber", spec := "fnExactPackNumber", apart := false, narrowed := true }
def FnExactPackNumberUptoSaid : Prop := fnExactPackNumberUptoRow.holds Try.pinned (OpenSpec.upto fnExactPackNumberSpec)

/-- 'laws.FnExactRowFault', WHERE WHAT IT READS IS OF BULK AT MOST 1048576: true; the input reads as it did. -/
def fnExactRowFaultUptoRow : OpenClaim := { program := "ytmknjjdipfcckaa", sum := "0233b8c0098c993e2e87d43ce298f76ba3d9b851a059202df595be292b5e4d37", func := "loop.example/g00203/laws.FnExactRowFault", spec := "fnExactRowFault", apart := false, narrowed := true }
def FnExactRowFaultUptoSaid : Prop := fnExactRowFaultUptoRow.holds Try.pinned (OpenSpec.upto fnExactRowFaultSpec)

/-- 'laws.FnExactUnpackNumber', WHERE WHAT IT READS IS OF BULK AT MOST 1048576: true; the input reads as it did. -/
def fnExactUnpackNumberUptoRow : OpenClaim := { program := "ytmknjjdipfcckaa", sum := "0233b8c0098c993e2e87d43ce298f76ba3d9b851a059202df595be292b5e4d37", func := "loop.example/g00203/laws.FnExactUnpackNumber", spec := "fnExactUnpackNumber", apart := false, narrowed := true }
def FnExactUnpackNumberUptoSaid : Prop := fnExactUnpackNumberUptoRow.holds Try.pinned (OpenSpec.upto fnExactUnpackNumberSpec)

end Rows
end Go.Proofs.Ytmknjjdipfcckaa
