/-
  No cell of these rows narrows 'for every input' (looked for: loops, veiled, ifaces, maps, wideKeys, modest, calm, conditions, laid).
  DERIVED. THE GIVEN ROWS OF THIS SEAT. 12 by the template 'for every input the law returns true; each argument reads behind the call as it read before'; 0 by the template 'total and deterministic' (their statements: YtooiamkaipdmpaaTotals.lean).
  GIVEN WITH THE SEED: the statements are not yours to turn. If you find one false, say at which input.
  Laid BY PROGRAM, IN A SANDBOX (cutbox-rows.mjs): the forced cells as the released guide's own fill.sh prints them over the translation bb44541ce6d3890e… (all of the seat's roots in one cut). By AI agents, Wed Nov 11 2026. No macro, syntax, notation, axiom, sorry.
-/
import Derived.Test.YtooiamkaipdmpaaChecked
import GoSem.Claim
import GoSem.ClaimJoined
import GoSem.ClaimMapViews
import Derived.JoinedTies
import Derived.KernelRfl
namespace Go.Proofs.Ytooiamkaipdmpaa
/- THE CELL 'sum', in the pinned program and in every row, IS THE sha256 OF THE DUMP (.gsa) THAT YtooiamkaipdmpaaProg.lean LOADS. Nothing in Lean hashes anything: it is a label: what it is worth is what the hold of that sum in a sandbox is worth. -/
noncomputable def Try.pinned : Pinned := { name := "ytooiamkaipdmpaa", sum := "bb44541ce6d3890e10debf87f338f88d6119b48934a98c6c78a54bb6847dc4cf", checked := Try.checked }
namespace Rows
def none {H : Type} : Left H := { results := [], args := [] }

/-- 'laws.FnExactPackText': WHATEVER THE INPUT: true; the input reads as it did. -/
def fnExactPackTextSpec : ChangeSpec := { name := "fnExactPackText", fn := fun _ => fun
  | [d] => { results := [.lit (.bool true)], args := [d] }
  | _ => none }
def fnExactPackTextRow : OpenClaim := { program := "ytooiamkaipdmpaa", sum := "bb44541ce6d3890e10debf87f338f88d6119b48934a98c6c78a54bb6847dc4cf", func := "loop.example/g00203/laws.FnExactPackText", spec := "fnExactPackText", apart := false }
def FnExactPackTextSaid : Prop := fnExactPackTextRow.holds Try.pinned (OpenSpec.ofChange fnExactPackTextSpec)

/-- ITS FALSE NEIGHBOUR: 'it returns false'. Refute it at one input. -/
def fnExactPackTextWrong : ChangeSpec := { name := "fnExactPackText", fn := fun _ => fun
  | [d] => { results := [.lit (.bool false)], args := [d] }
  | _ => none }
def FnExactPackTextWrongFalsely : Prop := fnExactPackTextRow.holds Try.pinned (OpenSpec.ofChange fnExactPackTextWrong)

/-- 'laws.FnExactSameContract': WHATEVER THE INPUT: true; the input reads as it did. -/
def fnExactSameContractSpec : ChangeSpec := { name := "fnExactSameContract", fn := fun _ => fun
  | [d1, d2] => { results := [.lit (.bool true)], args := [d1, d2] }
  | _ => none }
def fnExactSameContractRow : OpenClaim := { program := "ytooiamkaipdmpaa", sum := "bb44541ce6d3890e10debf87f338f88d6119b48934a98c6c78a54bb6847dc4cf", func := "loop.example/g00203/laws.FnExactSameContract", spec := "fnExactSameContract", apart := false }
def FnExactSameContractSaid : Prop := fnExactSameContractRow.holds Try.pinned (OpenSpec.ofChange fnExactSameContractSpec)

/-- ITS FALSE NEIGHBOUR: 'it returns false'. Refute it at one input. -/
def fnExactSameContractWrong : ChangeSpec := { name := "fnExactSameContract", fn := fun _ => fun
  | [d1, d2] => { results := [.lit (.bool false)], args := [d1, d2] }
  | _ => none }
def FnExactSameContractWrongFalsely : Prop := fnExactSameContractRow.holds Try.pinned (OpenSpec.ofChange fnExactSameContractWrong)

/-- 'laws.FnExactContractFault': WHATEVER THE INPUT: true; the input reads as it did. -/
def fnExactContractFaultSpec : ChangeSpec := { name := "fnExactContractFault", fn := fun _ => fun
  | [d] => { results := [.lit (.bool true)], args := [d] }
  | _ => none }
def fnExactContractFaultRow : OpenClaim := { program := "ytooiamkaipdmpaa", sum := "bb44541ce6d3890e10debf87f338f88d6119b48934a98c6c78a54bb6847dc4cf", func := "loop.example/g00203/laws.FnExactContractFault", spec := "fnExactContractFault", unfollowed := true, recurses := true, apart := false }
def FnExactContractFaultSaid : Prop := fnExactContractFaultRow.holds Try.pinned (OpenSpec.ofChange fnExactContractFaultSpec)

/-- ITS FALSE NEIGHBOUR: 'it returns false'. Refute it at one input. -/
def fnExactContractFaultWrong : ChangeSpec := { name := "fnExactContractFault", fn := fun _ => fun
  | [d] => { results := [.lit (.bool false)], args := [d] }
  | _ => none }
def FnExactContractFaultWrongFalsely : Prop := fnExactContractFaultRow.holds Try.pinned (OpenSpec.ofChange fnExactContractFaultWrong)

/-- 'laws.FnExactSumOf': WHATEVER THE INPUT: true; the input reads as it did. -/
def fnExactSumOfSpec : ChangeSpec := { name := "fnExactSumOf", fn := fun _ => fun
  | [d1, d2] => { results := [.lit (.bool true)], args := [d1, d2] }
  | _ => none }
def fnExactSumOfRow : OpenClaim := { program := "ytooiamkaipdmpaa", sum := "bb44541ce6d3890e10debf87f338f88d6119b48934a98c6c78a54bb6847dc4cf", func := "loop.example/g00203/laws.FnExactSumOf", spec := "fnExactSumOf", unfollowed := true, recurses := true, apart := false }
def FnExactSumOfSaid : Prop := fnExactSumOfRow.holds Try.pinned (OpenSpec.ofChange fnExactSumOfSpec)

/-- ITS FALSE NEIGHBOUR: 'it returns false'. Refute it at one input. -/
def fnExactSumOfWrong : ChangeSpec := { name := "fnExactSumOf", fn := fun _ => fun
  | [d1, d2] => { results := [.lit (.bool false)], args := [d1, d2] }
  | _ => none }
def FnExactSumOfWrongFalsely : Prop := fnExactSumOfRow.holds Try.pinned (OpenSpec.ofChange fnExactSumOfWrong)

/-- 'laws.FnExactNewEngine': WHATEVER THE INPUT: true; the input reads as it did. -/
def fnExactNewEngineSpec : ChangeSpec := { name := "fnExactNewEngine", fn := fun _ => fun
  | [d] => { results := [.lit (.bool true)], args := [d] }
  | _ => none }
def fnExactNewEngineRow : OpenClaim := { program := "ytooiamkaipdmpaa", sum := "bb44541ce6d3890e10debf87f338f88d6119b48934a98c6c78a54bb6847dc4cf", func := "loop.example/g00203/laws.FnExactNewEngine", spec := "fnExactNewEngine", apart := false }
def FnExactNewEngineSaid : Prop := fnExactNewEngineRow.holds Try.pinned (OpenSpec.ofChange fnExactNewEngineSpec)

/-- ITS FALSE NEIGHBOUR: 'it returns false'. Refute it at one input. -/
def fnExactNewEngineWrong : ChangeSpec := { name := "fnExactNewEngine", fn := fun _ => fun
  | [d] => { results := [.lit (.bool false)], args := [d] }
  | _ => none }
def FnExactNewEngineWrongFalsely : Prop := fnExactNewEngineRow.holds Try.pinned (OpenSpec.ofChange fnExactNewEngineWrong)

/-- 'laws.FnExactReverseOf': WHATEVER THE INPUT: true; the input reads as it did. -/
def fnExactReverseOfSpec : ChangeSpec := { name := "fnExactReverseOf", fn := fun _ => fun
  | [d1, d2] => { results := [.lit (.bool true)], args := [d1, d2] }
  | _ => none }
def fnExactReverseOfRow : OpenClaim := { program := "ytooiamkaipdmpaa", sum := "bb44541ce6d3890e10debf87f338f88d6119b48934a98c6c78a54bb6847dc4cf", func := "loop.example/g00203/laws.FnExactReverseOf", spec := "fnExactReverseOf", unfollowed := true, recurses := true, apart := false }
def FnExactReverseOfSaid : Prop := fnExactReverseOfRow.holds Try.pinned (OpenSpec.ofChange fnExactReverseOfSpec)

/-- ITS FALSE NEIGHBOUR: 'it returns false'. Refute it at one input. -/
def fnExactReverseOfWrong : ChangeSpec := { name := "fnExactReverseOf", fn := fun _ => fun
  | [d1, d2] => { results := [.lit (.bool false)], args := [d1, d2] }
  | _ => none }
def FnExactReverseOfWrongFalsely : Prop := fnExactReverseOfRow.holds Try.pinned (OpenSpec.ofChange fnExactReverseOfWrong)

/-- 'laws.FnExactLegsAt': WHATEVER THE INPUT: true; the input reads as it did. -/
def fnExactLegsAtSpec : ChangeSpec := { name := "fnExactLegsAt", fn := fun _ => fun
  | [d1, d2] => { results := [.lit (.bool true)], args := [d1, d2] }
  | _ => none }
def fnExactLegsAtRow : OpenClaim := { program := "ytooiamkaipdmpaa", sum := "bb44541ce6d3890e10debf87f338f88d6119b48934a98c6c78a54bb6847dc4cf", func := "loop.example/g00203/laws.FnExactLegsAt", spec := "fnExactLegsAt", unfollowed := true, recurses := true, apart := false }
def FnExactLegsAtSaid : Prop := fnExactLegsAtRow.holds Try.pinned (OpenSpec.ofChange fnExactLegsAtSpec)

/-- ITS FALSE NEIGHBOUR: 'it returns false'. Refute it at one input. -/
def fnExactLegsAtWrong : ChangeSpec := { name := "fnExactLegsAt", fn := fun _ => fun
  | [d1, d2] => { results := [.lit (.bool false)], args := [d1, d2] }
  | _ => none }
def FnExactLegsAtWrongFalsely : Prop := fnExactLegsAtRow.holds Try.pinned (OpenSpec.ofChange fnExactLegsAtWrong)

/-- 'laws.FnExactPackContract': WHATEVER THE INPUT: true; the input reads as it did. -/
def fnExactPackContractSpec : ChangeSpec := { name := "fnExactPackContract", fn := fun _ => fun
  | [d] => { results := [.lit (.bool true)], args := [d] }
  | _ => none }
def fnExactPackContractRow : OpenClaim := { program := "ytooiamkaipdmpaa", sum := "bb44541ce6d3890e10debf87f338f88d6119b48934a98c6c78a54bb6847dc4cf", func := "loop.example/g00203/laws.FnExactPackContract", spec := "fnExactPackContract", unfollowed := true, recurses := true, apart := false }
def FnExactPackContractSaid : Prop := fnExactPackContractRow.holds Try.pinned (OpenSpec.ofChange fnExactPackContractSpec)

/-- ITS FALSE NEIGHBOUR: 'it returns false'. Refute it at one input. -/
def fnExactPackContractWrong : ChangeSpec := { name := "fnExactPackContract", fn := fun _ => fun
  | [d] => { results := [.lit (.bool false)], args := [d] }
  | _ => none }
def FnExactPackContractWrongFalsely : Prop := fnExactPackContractRow.holds Try.pinned (OpenSpec.ofChange fnExactPackContractWrong)

/-- 'laws.FnExactUnpackContract': WHATEVER THE INPUT: true; the input reads as it did. -/
def fnExactUnpackContractSpec : ChangeSpec := { name := "fnExactUnpackContract", fn := fun _ => fun
  | [d] => { results := [.lit (.bool true)], args := [d] }
  | _ => none }
def fnExactUnpackContractRow : OpenClaim := { program := "ytooiamkaipdmpaa", sum := "bb44541ce6d3890e10debf87f338f88d6119b48934a98c6c78a54bb6847dc4cf", func := "loop.example/g00203/laws.FnExactUnpackContract", spec := "fnExactUnpackContract", unfollowed := true, recurses := true, apart := false }
def FnExactUnpackContractSaid : Prop := fnExactUnpackContractRow.holds Try.pinned (OpenSpec.ofChange fnExactUnpackContractSpec)

/-- ITS FALSE NEIGHBOUR: 'it returns false'. Refute it at one input. -/
def fnExactUnpackContractWrong : ChangeSpec := { name := "fnExactUnpackContract", fn := fun _ => fun
  | [d] => { results := [.lit (.bool false)], args := [d] }
  | _ => none }
def FnExactUnpackContractWrongFalsely : Prop := fnExactUnpackContractRow.holds Try.pinned (OpenSpec.ofChange fnExactUnpackContractWrong)

/-- 'laws.FnBytes': WHATEVER THE INPUT: true; the input reads as it did. -/
def fnBytesSpec : ChangeSpec := { name := "fnBytes", fn := fun _ => fun
  | [d] => { results := [.lit (.bool true)], args := [d] }
  | _ => none }
def fnBytesRow : OpenClaim := { program := "ytooiamkaipdmpaa", sum := "bb44541ce6d3890e10debf87f338f88d6119b48934a98c6c78a54bb6847dc4cf", func := "loop.example/g00203/laws.FnBytes", spec := "fnBytes", unfollowed := true, recurses := true, apart := false }
def FnBytesSaid : Prop := fnBytesRow.holds Try.pinned (OpenSpec.ofChange fnBytesSpec)

/-- ITS FALSE NEIGHBOUR: 'it returns false'. Refute it at one input. -/
def fnBytesWrong : ChangeSpec := { name := "fnBytes", fn := fun _ => fun
  | [d] => { results := [.lit (.bool false)], args := [d] }
  | _ => none }
def FnBytesWrongFalsely : Prop := fnBytesRow.holds Try.pinned (OpenSpec.ofChange fnBytesWrong)

/-- 'laws.FnContracts': WHATEVER THE INPUT: true; the input reads as it did. -/
def fnContractsSpec : ChangeSpec := { name := "fnContracts", fn := fun _ => fun
  | [d] => { results := [.lit (.bool true)], args := [d] }
  | _ => none }
def fnContractsRow : OpenClaim := { program := "ytooiamkaipdmpaa", sum := "bb44541ce6d3890e10debf87f338f88d6119b48934a98c6c78a54bb6847dc4cf", func := "loop.example/g00203/laws.FnContracts", spec := "fnContracts", unfollowed := true, recurses := true, apart := false }
def FnContractsSaid : Prop := fnContractsRow.holds Try.pinned (OpenSpec.ofChange fnContractsSpec)

/-- ITS FALSE NEIGHBOUR: 'it returns false'. Refute it at one input. -/
def fnContractsWrong : ChangeSpec := { name := "fnContracts", fn := fun _ => fun
  | [d] => { results := [.lit (.bool false)], args := [d] }
  | _ => none }
def FnContractsWrongFalsely : Prop := fnContractsRow.holds Try.pinned (OpenSpec.ofChange fnContractsWrong)

/-- 'laws.FnExactShardsOf': WHATEVER THE INPUT: true; the input reads as it did. -/
def fnExactShardsOfSpec : ChangeSpec := { name := "fnExactShardsOf", fn := fun _ => fun
  | [d] => { results := [.lit (.bool true)], args := [d] }
  | _ => none }
def fnExactShardsOfRow : OpenClaim := { program := "ytooiamkaipdmpaa", sum := "bb44541ce6d3890e10debf87f338f88d6119b48934a98c6c78a54bb6847dc4cf", func := "loop.example/g00203/laws.FnExactShardsOf", spec := "fnExactShardsOf", unfollowed := true, recurses := true, apart := false }
def FnExactShardsOfSaid : Prop := fnExactShardsOfRow.holds Try.pinned (OpenSpec.ofChange fnExactShardsOfSpec)

/-- ITS FALSE NEIGHBOUR: 'it returns false'. Refute it at one input. -/
def fnExactShardsOfWrong : ChangeSpec := { name := "fnExactShardsOf", fn := fun _ => fun
  | [d] => { results := [.lit (.bool false)], args := [d] }
  | _ => none }
def FnExactShardsOfWrongFalsely : Prop := fnExactShardsOfRow.holds Try.pinned (OpenSpec.ofChange fnExactShardsOfWrong)

/- THE SECOND FORM. 'bulk': how many values and letters a reading holds, each counted each time it is reached (what is shared counts as often as it is met; a slice's spare places count too). A statement '..UptoSaid' is the law's where the arguments, and the package variables that the reading takes, are together of bulk at most 1048576: NARROWER than '..Said'. Prove '..Said' where nothing that the law and all that it calls make is longer than what came in: it says more and counts as full. Else prove '..UptoSaid'. A law counts once. -/
mutual
def uptoBulk {H : Type} : DataW H → Nat
  | .lit (.string bytes) => bytes.length + 1
  | .lit _ => 1
  | .nil => 1
  | .ptr d => uptoBulk d + 1
  | .slice elems spare => uptoBulkAll elems + uptoBulkAll spare + 1
  | .agg parts => uptoBulkAll parts + 1
  | .iface _ d => uptoBulk d + 1
  | .map entries => uptoBulkEntries entries + 1
  | .held _ => 1
def uptoBulkAll {H : Type} : List (DataW H) → Nat
  | [] => 0
  | d :: r => uptoBulk d + uptoBulkAll r
def uptoBulkEntries {H : Type} : List (Lit × DataW H) → Nat
  | [] => 0
  | x :: r => uptoBulkEntry x + uptoBulkEntries r
def uptoBulkEntry {H : Type} : Lit × DataW H → Nat
  | (.string bytes, d) => bytes.length + uptoBulk d + 1
  | (_, d) => uptoBulk d + 1
 end
def uptoSmall : (H : Type) → List (DataW H) → Bool := fun _ ds => decide (uptoBulkAll ds ≤ 1048576)
def OpenSpec.upto (s : _root_.Go.ChangeSpec) : _root_.Go.OpenSpec := { _root_.Go.OpenSpec.ofChange s with cond := some uptoSmall }

/-- 'laws.FnExactPackText', WHERE WHAT IT READS IS OF BULK AT MOST 1048576: true; the input reads as it did. -/
def fnExactPackTextUptoRow : OpenClaim := { program := "ytooiamkaipdmpaa", sum := "bb44541ce6d3890e10debf87f338f88d6119b48934a98c6c78a54bb6847dc4cf", func := "loop.example/g00203/laws.FnExactPackText", spec := "fnExactPackText", apart := false, narrowed := true }
def FnExactPackTextUptoSaid : Prop := fnExactPackTextUptoRow.holds Try.pinned (OpenSpec.upto fnExactPackTextSpec)

/-- 'laws.FnExactSameContract', WHERE WHAT IT READS IS OF BULK AT MOST 1048576: true; the input reads as it did. -/
def fnExactSameContractUptoRow : OpenClaim := { program := "ytooiamkaipdmpaa", sum := "bb44541ce6d3890e10debf87f338f88d6119b48934a98c6c78a54bb6847dc4cf", func := "loop.example/g00203/laws.FnExactSameContract", spec := "fnExactSameContract", apart := false, narrowed := true }
def FnExactSameContractUptoSaid : Prop := fnExactSameContractUptoRow.holds Try.pinned (OpenSpec.upto fnExactSameContractSpec)

/-- 'laws.FnExactContractFault', WHERE WHAT IT READS IS OF BULK AT MOST 1048576: true; the input reads as it did. -/
def fnExactContractFaultUptoRow : OpenClaim := { program := "ytooiamkaipdmpaa", sum := "bb44541ce6d3890e10debf87f338f88d6119b48934a98c6c78a54bb6847dc4cf", func := "loop.example/g00203/laws.FnExactContractFault", spec := "fnExactContractFault", unfollowed := true, recurses := true, apart := false, narrowed := true }
def FnExactContractFaultUptoSaid : Prop := fnExactContractFaultUptoRow.holds Try.pinned (OpenSpec.upto fnExactContractFaultSpec)

/-- 'laws.FnExactSumOf', WHERE WHAT IT READS IS OF BULK AT MOST 1048576: true; the input reads as it did. -/
def fnExactSumOfUptoRow : OpenClaim := { program := "ytooiamkaipdmpaa", sum := "bb44541ce6d3890e10debf87f338f88d6119b48934a98c6c78a54bb6847dc4cf", func := "loop.example/g00203/laws.FnExactSumOf", spec := "fnExactSumOf", unfollowed := true, recurses := true, apart := false, narrowed := true }
def FnExactSumOfUptoSaid : Prop := fnExactSumOfUptoRow.holds Try.pinned (OpenSpec.upto fnExactSumOfSpec)

/-- 'laws.FnExactNewEngine', WHERE WHAT IT READS IS OF BULK AT MOST 1048576: true; the input reads as it did. -/
def fnExactNewEngineUptoRow : OpenClaim := { program := "ytooiamkaipdmpaa", sum := "bb44541ce6d3890e10debf87f338f88d6119b48934a98c6c78a54bb6847dc4cf", func := "loop.example/g00203/laws.FnExactNewEngine", spec := "fnExactNewEngine", apart := false, narrowed := true }
def FnExactNewEngineUptoSaid : Prop := fnExactNewEngineUptoRow.holds Try.pinned (OpenSpec.upto fnExactNewEngineSpec)

/-- 'laws.FnExactReverseOf', WHERE WHAT IT READS IS OF BULK AT MOST 1048576: true; the input reads as it did. -/
def fnExactReverseOfUptoRow : OpenClaim := { program := "ytooiamkaipdmpaa", sum := "bb44541ce6d3890e10debf87f338f88d6119b48934a98c6c78a54bb6847dc4cf", func := "loop.example/g00203/laws.FnExactReverseOf", spec := "fnExactReverseOf", unfollowed := true, recurses := true, apart := false, narrowed := true }
def FnExactReverseOfUptoSaid : Prop := fnExactReverseOfUptoRow.holds Try.pinned (OpenSpec.upto fnExactReverseOfSpec)

/-- 'laws.FnExactLegsAt', WHERE WHAT IT READS IS OF BULK AT MOST 1048576: true; the input reads as it did. -/
def fnExactLegsAtUptoRow : OpenClaim := { program := "ytooiamkaipdmpaa", sum := "bb44541ce6d3890e10debf87f338f88d6119b48934a98c6c78a54bb6847dc4cf", func := "loop.example/g00203/laws.FnExactLegsAt", spec := "fnExactLegsAt", unfollowed := true, recurses := true, apart := false, narrowed := true }
def FnExactLegsAtUptoSaid : Prop := fnExactLegsAtUptoRow.holds Try.pinned (OpenSpec.upto fnExactLegsAtSpec)

/-- 'laws.FnExactPackContract', WHERE WHAT IT READS IS OF BULK AT MOST 1048576: true; the input reads as it did. -/
def fnExactPackContractUptoRow : OpenClaim := { program := "ytooiamkaipdmpaa", sum := "bb44541ce6d3890e10debf87f338f88d6119b48934a98c6c78a54bb6847dc4cf", func := "loop.example/g00203/laws.FnExactPackContract", spec := "fnExactPackContract", unfollowed := true, recurses := true, apart := false, narrowed := true }
def FnExactPackContractUptoSaid : Prop := fnExactPackContractUptoRow.holds Try.pinned (OpenSpec.upto fnExactPackContractSpec)

/-- 'laws.FnExactUnpackContract', WHERE WHAT IT READS IS OF BULK AT MOST 1048576: true; the input reads as it did. -/
def fnExactUnpackContractUptoRow : OpenClaim := { program := "ytooiamkaipdmpaa", sum := "bb44541ce6d3890e10debf87f338f88d6119b48934a98c6c78a54bb6847dc4cf", func := "loop.example/g00203/laws.FnExactUnpackContract", spec := "fnExactUnpackContract", unfollowed := true, recurses := true, apart := false, narrowed := true }
def FnExactUnpackContractUptoSaid : Prop := fnExactUnpackContractUptoRow.holds Try.pinned (OpenSpec.upto fnExactUnpackContractSpec)

/-- 'laws.FnBytes', WHERE WHAT IT READS IS OF BULK AT MOST 1048576: true; the input reads as it did. -/
def fnBytesUptoRow : OpenClaim := { program := "ytooiamkaipdmpaa", sum := "bb44541ce6d3890e10debf87f338f88d6119b48934a98c6c78a54bb6847dc4cf", func := "loop.example/g00203/laws.FnBytes", spec := "fnBytes", unfollowed := true, recurses := true, apart := false, narrowed := true }
def FnBytesUptoSaid : Prop := fnBytesUptoRow.holds Try.pinned (OpenSpec.upto fnBytesSpec)

/-- 'laws.FnContracts', WHERE WHAT IT READS IS OF BULK AT MOST 1048576: true; the input reads as it did. -/
def fnContractsUptoRow : OpenClaim := { program := "ytooiamkaipdmpaa", sum := "bb44541ce6d3890e10debf87f338f88d6119b48934a98c6c78a54bb6847dc4cf", func := "loop.example/g00203/laws.FnContracts", spec := "fnContracts", unfollowed := true, recurses := true, apart := false, narrowed := true }
def FnContractsUptoSaid : Prop := fnContractsUptoRow.holds Try.pinned (OpenSpec.upto fnContractsSpec)

/-- 'laws.FnExactShardsOf', WHERE WHAT IT READS IS OF BULK AT MOST 1048576: true; the input reads as it did. -/
def fnExactShardsOfUptoRow : OpenClaim := { program := "ytooiamkaipdmpaa", sum := "bb44541ce6d3890e10debf87f338f88d6119b48934a98c6c78a54bb6847dc4cf", func := "loop.example/g00203/laws.FnExactShardsOf", spec := "fnExactShardsOf", unfollowed := true, recurses := true, apart := false, narrowed := true }
def FnExactShardsOfUptoSaid : Prop := fnExactShardsOfUptoRow.holds Try.pinned (OpenSpec.upto fnExactShardsOfSpec)

end Rows
end Go.Proofs.Ytooiamkaipdmpaa
