/-
  No cell of these rows narrows 'for every input' (looked for: loops, veiled, ifaces, maps, wideKeys, modest, calm, conditions, laid).
  DERIVED. THE GIVEN ROWS OF THIS SEAT. 10 by the template 'for every input the law returns true; each argument reads behind the call as it read before'; 0 by the template 'total and deterministic' (their statements: YtanegggacfmkcaaTotals.lean).
  GIVEN WITH THE SEED: the statements are not yours to turn. If you find one false, say at which input.
  Laid BY PROGRAM, IN A SANDBOX (cutbox-rows.mjs): the forced cells as the released guide's own fill.sh prints them over the translation 22027ae36a83c8fb… (all of the seat's roots in one cut). By AI agents, Wed Nov 11 2026. No macro, syntax, notation, axiom, sorry.
-/
import Derived.Test.YtanegggacfmkcaaChecked
import GoSem.Claim
import GoSem.ClaimJoined
import GoSem.ClaimMapViews
import Derived.JoinedTies
import Derived.KernelRfl
namespace Go.Proofs.Ytanegggacfmkcaa
/- THE CELL 'sum', in the pinned program and in every row, IS THE sha256 OF THE DUMP (.gsa) THAT YtanegggacfmkcaaProg.lean LOADS. Nothing in Lean hashes anything: it is a label: what it is worth is what the hold of that sum in a sandbox is worth. -/
noncomputable def Try.pinned : Pinned := { name := "ytanegggacfmkcaa", sum := "22027ae36a83c8fb6af6d62cd1874face6a23a9920442a900eb424b05ac1646d", checked := Try.checked }
namespace Rows
def none {H : Type} : Left H := { results := [], args := [] }

/-- 'laws.FnSequels': WHATEVER THE INPUT: true; the input reads as it did. -/
def fnSequelsSpec : ChangeSpec := { name := "fnSequels", fn := fun _ => fun
  | [d] => { results := [.lit (.bool true)], args := [d] }
  | _ => none }
def fnSequelsRow : OpenClaim := { program := "ytanegggacfmkcaa", sum := "22027ae36a83c8fb6af6d62cd1874face6a23a9920442a900eb424b05ac1646d", func := "loop.example/g00203/laws.FnSequels", spec := "fnSequels", inPlace := ["slices.overlaps[loop.example/g00203/impl.Balance]"], unfollowed := true, recurses := true, apart := false }
def FnSequelsSaid : Prop := fnSequelsRow.holds Try.pinned (OpenSpec.ofChange fnSequelsSpec)

/-- ITS FALSE NEIGHBOUR: 'it returns false'. Refute it at one input. -/
def fnSequelsWrong : ChangeSpec := { name := "fnSequels", fn := fun _ => fun
  | [d] => { results := [.lit (.bool false)], args := [d] }
  | _ => none }
def FnSequelsWrongFalsely : Prop := fnSequelsRow.holds Try.pinned (OpenSpec.ofChange fnSequelsWrong)

/-- 'laws.FnExactSettleOne': WHATEVER THE INPUT: true; the input reads as it did. -/
def fnExactSettleOneSpec : ChangeSpec := { name := "fnExactSettleOne", fn := fun _ => fun
  | [d1, d2] => { results := [.lit (.bool true)], args := [d1, d2] }
  | _ => none }
def fnExactSettleOneRow : OpenClaim := { program := "ytanegggacfmkcaa", sum := "22027ae36a83c8fb6af6d62cd1874face6a23a9920442a900eb424b05ac1646d", func := "loop.example/g00203/laws.FnExactSettleOne", spec := "fnExactSettleOne", inPlace := ["slices.overlaps[loop.example/g00203/impl.Balance]"], unfollowed := true, recurses := true, apart := false }
def FnExactSettleOneSaid : Prop := fnExactSettleOneRow.holds Try.pinned (OpenSpec.ofChange fnExactSettleOneSpec)

/-- ITS FALSE NEIGHBOUR: 'it returns false'. Refute it at one input. -/
def fnExactSettleOneWrong : ChangeSpec := { name := "fnExactSettleOne", fn := fun _ => fun
  | [d1, d2] => { results := [.lit (.bool false)], args := [d1, d2] }
  | _ => none }
def FnExactSettleOneWrongFalsely : Prop := fnExactSettleOneRow.holds Try.pinned (OpenSpec.ofChange fnExactSettleOneWrong)

/-- 'laws.FnExactBalancesFault': WHATEVER THE INPUT: true; the input reads as it did. -/
def fnExactBalancesFaultSpec : ChangeSpec := { name := "fnExactBalancesFault", fn := fun _ => fun
  | [d] => { results := [.lit (.bool true)], args := [d] }
  | _ => none }
def fnExactBalancesFaultRow : OpenClaim := { program := "ytanegggacfmkcaa", sum := "22027ae36a83c8fb6af6d62cd1874face6a23a9920442a900eb424b05ac1646d", func := "loop.example/g00203/laws.FnExactBalancesFault", spec := "fnExactBalancesFault", apart := false }
def FnExactBalancesFaultSaid : Prop := fnExactBalancesFaultRow.holds Try.pinned (OpenSpec.ofChange fnExactBalancesFaultSpec)

/-- ITS FALSE NEIGHBOUR: 'it returns false'. Refute it at one input. -/
def fnExactBalancesFaultWrong : ChangeSpec := { name := "fnExactBalancesFault", fn := fun _ => fun
  | [d] => { results := [.lit (.bool false)], args := [d] }
  | _ => none }
def FnExactBalancesFaultWrongFalsely : Prop := fnExactBalancesFaultRow.holds Try.pinned (OpenSpec.ofChange fnExactBalancesFaultWrong)

/-- 'laws.FnExactSameLedgers': WHATEVER THE INPUT: true; the input reads as it did. -/
def fnExactSameLedgersSpec : ChangeSpec := { name := "fnExactSameLedgers", fn := fun _ => fun
  | [d1, d2] => { results := [.lit (.bool true)], args := [d1, d2] }
  | _ => none }
def fnExactSameLedgersRow : OpenClaim := { program := "ytanegggacfmkcaa", sum := "22027ae36a83c8fb6af6d62cd1874face6a23a9920442a900eb424b05ac1646d", func := "loop.example/g00203/laws.FnExactSameLedgers", spec := "fnExactSameLedgers", unfollowed := true, recurses := true, apart := false }
def FnExactSameLedgersSaid : Prop := fnExactSameLedgersRow.holds Try.pinned (OpenSpec.ofChange fnExactSameLedgersSpec)

/-- ITS FALSE NEIGHBOUR: 'it returns false'. Refute it at one input. -/
def fnExactSameLedgersWrong : ChangeSpec := { name := "fnExactSameLedgers", fn := fun _ => fun
  | [d1, d2] => { results := [.lit (.bool false)], args := [d1, d2] }
  | _ => none }
def FnExactSameLedgersWrongFalsely : Prop := fnExactSameLedgersRow.holds Try.pinned (OpenSpec.ofChange fnExactSameLedgersWrong)

/-- 'laws.FnExactSettleAll': WHATEVER THE INPUT: true; the input reads as it did. -/
def fnExactSettleAllSpec : ChangeSpec := { name := "fnExactSettleAll", fn := fun _ => fun
  | [d1, d2] => { results := [.lit (.bool true)], args := [d1, d2] }
  | _ => none }
def fnExactSettleAllRow : OpenClaim := { program := "ytanegggacfmkcaa", sum := "22027ae36a83c8fb6af6d62cd1874face6a23a9920442a900eb424b05ac1646d", func := "loop.example/g00203/laws.FnExactSettleAll", spec := "fnExactSettleAll", inPlace := ["slices.overlaps[loop.example/g00203/impl.Balance]"], unfollowed := true, recurses := true, apart := false }
def FnExactSettleAllSaid : Prop := fnExactSettleAllRow.holds Try.pinned (OpenSpec.ofChange fnExactSettleAllSpec)

/-- ITS FALSE NEIGHBOUR: 'it returns false'. Refute it at one input. -/
def fnExactSettleAllWrong : ChangeSpec := { name := "fnExactSettleAll", fn := fun _ => fun
  | [d1, d2] => { results := [.lit (.bool false)], args := [d1, d2] }
  | _ => none }
def FnExactSettleAllWrongFalsely : Prop := fnExactSettleAllRow.holds Try.pinned (OpenSpec.ofChange fnExactSettleAllWrong)

/-- 'laws.FnExactLedgerFault': WHATEVER THE INPUT: true; the input reads as it did. -/
def fnExactLedgerFaultSpec : ChangeSpec := { name := "fnExactLedgerFault", fn := fun _ => fun
  | [d] => { results := [.lit (.bool true)], args := [d] }
  | _ => none }
def fnExactLedgerFaultRow : OpenClaim := { program := "ytanegggacfmkcaa", sum := "22027ae36a83c8fb6af6d62cd1874face6a23a9920442a900eb424b05ac1646d", func := "loop.example/g00203/laws.FnExactLedgerFault", spec := "fnExactLedgerFault", apart := false }
def FnExactLedgerFaultSaid : Prop := fnExactLedgerFaultRow.holds Try.pinned (OpenSpec.ofChange fnExactLedgerFaultSpec)

/-- ITS FALSE NEIGHBOUR: 'it returns false'. Refute it at one input. -/
def fnExactLedgerFaultWrong : ChangeSpec := { name := "fnExactLedgerFault", fn := fun _ => fun
  | [d] => { results := [.lit (.bool false)], args := [d] }
  | _ => none }
def FnExactLedgerFaultWrongFalsely : Prop := fnExactLedgerFaultRow.holds Try.pinned (OpenSpec.ofChange fnExactLedgerFaultWrong)

/-- 'laws.FnExactTotalOf': WHATEVER THE INPUT: true; the input reads as it did. -/
def fnExactTotalOfSpec : ChangeSpec := { name := "fnExactTotalOf", fn := fun _ => fun
  | [d1, d2] => { results := [.lit (.bool true)], args := [d1, d2] }
  | _ => none }
def fnExactTotalOfRow : OpenClaim := { program := "ytanegggacfmkcaa", sum := "22027ae36a83c8fb6af6d62cd1874face6a23a9920442a900eb424b05ac1646d", func := "loop.example/g00203/laws.FnExactTotalOf", spec := "fnExactTotalOf", apart := false }
def FnExactTotalOfSaid : Prop := fnExactTotalOfRow.holds Try.pinned (OpenSpec.ofChange fnExactTotalOfSpec)

/-- ITS FALSE NEIGHBOUR: 'it returns false'. Refute it at one input. -/
def fnExactTotalOfWrong : ChangeSpec := { name := "fnExactTotalOf", fn := fun _ => fun
  | [d1, d2] => { results := [.lit (.bool false)], args := [d1, d2] }
  | _ => none }
def FnExactTotalOfWrongFalsely : Prop := fnExactTotalOfRow.holds Try.pinned (OpenSpec.ofChange fnExactTotalOfWrong)

/-- 'laws.FnExactBalanceOf': WHATEVER THE INPUT: true; the input reads as it did. -/
def fnExactBalanceOfSpec : ChangeSpec := { name := "fnExactBalanceOf", fn := fun _ => fun
  | [d1, d2, d3, d4] => { results := [.lit (.bool true)], args := [d1, d2, d3, d4] }
  | _ => none }
def fnExactBalanceOfRow : OpenClaim := { program := "ytanegggacfmkcaa", sum := "22027ae36a83c8fb6af6d62cd1874face6a23a9920442a900eb424b05ac1646d", func := "loop.example/g00203/laws.FnExactBalanceOf", spec := "fnExactBalanceOf", unfollowed := true, recurses := true, apart := false }
def FnExactBalanceOfSaid : Prop := fnExactBalanceOfRow.holds Try.pinned (OpenSpec.ofChange fnExactBalanceOfSpec)

/-- ITS FALSE NEIGHBOUR: 'it returns false'. Refute it at one input. -/
def fnExactBalanceOfWrong : ChangeSpec := { name := "fnExactBalanceOf", fn := fun _ => fun
  | [d1, d2, d3, d4] => { results := [.lit (.bool false)], args := [d1, d2, d3, d4] }
  | _ => none }
def FnExactBalanceOfWrongFalsely : Prop := fnExactBalanceOfRow.holds Try.pinned (OpenSpec.ofChange fnExactBalanceOfWrong)

/-- 'laws.FnExactCanSettle': WHATEVER THE INPUT: true; the input reads as it did. -/
def fnExactCanSettleSpec : ChangeSpec := { name := "fnExactCanSettle", fn := fun _ => fun
  | [d1, d2] => { results := [.lit (.bool true)], args := [d1, d2] }
  | _ => none }
def fnExactCanSettleRow : OpenClaim := { program := "ytanegggacfmkcaa", sum := "22027ae36a83c8fb6af6d62cd1874face6a23a9920442a900eb424b05ac1646d", func := "loop.example/g00203/laws.FnExactCanSettle", spec := "fnExactCanSettle", unfollowed := true, recurses := true, apart := false }
def FnExactCanSettleSaid : Prop := fnExactCanSettleRow.holds Try.pinned (OpenSpec.ofChange fnExactCanSettleSpec)

/-- ITS FALSE NEIGHBOUR: 'it returns false'. Refute it at one input. -/
def fnExactCanSettleWrong : ChangeSpec := { name := "fnExactCanSettle", fn := fun _ => fun
  | [d1, d2] => { results := [.lit (.bool false)], args := [d1, d2] }
  | _ => none }
def FnExactCanSettleWrongFalsely : Prop := fnExactCanSettleRow.holds Try.pinned (OpenSpec.ofChange fnExactCanSettleWrong)

/-- 'laws.FnSettles': WHATEVER THE INPUT: true; the input reads as it did. -/
def fnSettlesSpec : ChangeSpec := { name := "fnSettles", fn := fun _ => fun
  | [d] => { results := [.lit (.bool true)], args := [d] }
  | _ => none }
def fnSettlesRow : OpenClaim := { program := "ytanegggacfmkcaa", sum := "22027ae36a83c8fb6af6d62cd1874face6a23a9920442a900eb424b05ac1646d", func := "loop.example/g00203/laws.FnSettles", spec := "fnSettles", inPlace := ["slices.overlaps[loop.example/g00203/impl.Balance]"], unfollowed := true, recurses := true, apart := false }
def FnSettlesSaid : Prop := fnSettlesRow.holds Try.pinned (OpenSpec.ofChange fnSettlesSpec)

/-- ITS FALSE NEIGHBOUR: 'it returns false'. Refute it at one input. -/
def fnSettlesWrong : ChangeSpec := { name := "fnSettles", fn := fun _ => fun
  | [d] => { results := [.lit (.bool false)], args := [d] }
  | _ => none }
def FnSettlesWrongFalsely : Prop := fnSettlesRow.holds Try.pinned (OpenSpec.ofChange fnSettlesWrong)

/- THE SECOND FORM. 'bulk': how many values and letters a reading holds, each counted each time it is reached (what is shared counts as often as it is met; a slice's spare places count too). A statement '..UptoSaid' is the law's where the arguments, and the package variables that the reading takes, are together of bulk at most 1048576: NARROWER than '..Said'. Prove '..Said' where nothing that the law and all that it calls make is longer than what came in: it says more and counts as full. Else prove '..UptoSaid'. A law counts once. -/
mutual
def uptoBulk {H : Type} : DataW H → Nat
  | .lit (.string bytes) => bytes.length + 1
  | .lit _ => 1
  | .nil => 1
  | .ptr d => uptoBulk d + 1
  | .slice elems spare => uptoBulkAll elems + uptoBulkAll spare + 1
  | .agg parts => uptoBulkAll parts + 1
  | .iface _ d => uptoBulk d + 1
  | .map entries => uptoBulkEntries entries + 1
  | .held _ => 1
def uptoBulkAll {H : Type} : List (DataW H) → Nat
  | [] => 0
  | d :: r => uptoBulk d + uptoBulkAll r
def uptoBulkEntries {H : Type} : List (Lit × DataW H) → Nat
  | [] => 0
  | x :: r => uptoBulkEntry x + uptoBulkEntries r
def uptoBulkEntry {H : Type} : Lit × DataW H → Nat
  | (.string bytes, d) => bytes.length + uptoBulk d + 1
  | (_, d) => uptoBulk d + 1
 end
def uptoSmall : (H : Type) → List (DataW H) → Bool := fun _ ds => decide (uptoBulkAll ds ≤ 1048576)
def OpenSpec.upto (s : _root_.Go.ChangeSpec) : _root_.Go.OpenSpec := { _root_.Go.OpenSpec.ofChange s with cond := some uptoSmall }

/-- 'laws.FnSequels', WHERE WHAT IT READS IS OF BULK AT MOST 1048576: true; the input reads as it did. -/
def fnSequelsUptoRow : OpenClaim := { program := "ytanegggacfmkcaa", sum := "22027ae36a83c8fb6af6d62cd1874face6a23a9920442a900eb424b05ac1646d", func := "loop.example/g00203/laws.FnSequels", spec := "fnSequels", inPlace := ["slices.overlaps[loop.example/g00203/impl.Balance]"], unfollowed := true, recurses := true, apart := false, narrowed := true }
def FnSequelsUptoSaid : Prop := fnSequelsUptoRow.holds Try.pinned (OpenSpec.upto fnSequelsSpec)

/-- 'laws.FnExactSettleOne', WHERE WHAT IT READS IS OF BULK AT MOST 1048576: true; the input reads as it did. -/
def fnExactSettleOneUptoRow : OpenClaim := { program := "ytanegggacfmkcaa", sum := "22027ae36a83c8fb6af6d62cd1874face6a23a9920442a900eb424b05ac1646d", func := "loop.example/g00203/laws.FnExactSettleOne", spec := "fnExactSettleOne", inPlace := ["slices.overlaps[loop.example/g00203/impl.Balance]"], unfollowed := true, recurses := true, apart := false, narrowed := true }
def FnExactSettleOneUptoSaid : Prop := fnExactSettleOneUptoRow.holds Try.pinned (OpenSpec.upto fnExactSettleOneSpec)

/-- 'laws.FnExactBalancesFault', WHERE WHAT IT READS IS OF BULK AT MOST 1048576: true; the input reads as it did. -/
def fnExactBalancesFaultUptoRow : OpenClaim := { program := "ytanegggacfmkcaa", sum := "22027ae36a83c8fb6af6d62cd1874face6a23a9920442a900eb424b05ac1646d", func := "loop.example/g00203/laws.FnExactBalancesFault", spec := "fnExactBalancesFault", apart := false, narrowed := true }
def FnExactBalancesFaultUptoSaid : Prop := fnExactBalancesFaultUptoRow.holds Try.pinned (OpenSpec.upto fnExactBalancesFaultSpec)

/-- 'laws.FnExactSameLedgers', WHERE WHAT IT READS IS OF BULK AT MOST 1048576: true; the input reads as it did. -/
def fnExactSameLedgersUptoRow : OpenClaim := { program := "ytanegggacfmkcaa", sum := "22027ae36a83c8fb6af6d62cd1874face6a23a9920442a900eb424b05ac1646d", func := "loop.example/g00203/laws.FnExactSameLedgers", spec := "fnExactSameLedgers", unfollowed := true, recurses := true, apart := false, narrowed := true }
def FnExactSameLedgersUptoSaid : Prop := fnExactSameLedgersUptoRow.holds Try.pinned (OpenSpec.upto fnExactSameLedgersSpec)

/-- 'laws.FnExactSettleAll', WHERE WHAT IT READS IS OF BULK AT MOST 1048576: true; the input reads as it did. -/
def fnExactSettleAllUptoRow : OpenClaim := { program := "ytanegggacfmkcaa", sum := "22027ae36a83c8fb6af6d62cd1874face6a23a9920442a900eb424b05ac1646d", func := "loop.example/g00203/laws.FnExactSettleAll", spec := "fnExactSettleAll", inPlace := ["slices.overlaps[loop.example/g00203/impl.Balance]"], unfollowed := true, recurses := true, apart := false, narrowed := true }
def FnExactSettleAllUptoSaid : Prop := fnExactSettleAllUptoRow.holds Try.pinned (OpenSpec.upto fnExactSettleAllSpec)

/-- 'laws.FnExactLedgerFault', WHERE WHAT IT READS IS OF BULK AT MOST 1048576: true; the input reads as it did. -/
def fnExactLedgerFaultUptoRow : OpenClaim := { program := "ytanegggacfmkcaa", sum := "22027ae36a83c8fb6af6d62cd1874face6a23a9920442a900eb424b05ac1646d", func := "loop.example/g00203/laws.FnExactLedgerFault", spec := "fnExactLedgerFault", apart := false, narrowed := true }
def FnExactLedgerFaultUptoSaid : Prop := fnExactLedgerFaultUptoRow.holds Try.pinned (OpenSpec.upto fnExactLedgerFaultSpec)

/-- 'laws.FnExactTotalOf', WHERE WHAT IT READS IS OF BULK AT MOST 1048576: true; the input reads as it did. -/
def fnExactTotalOfUptoRow : OpenClaim := { program := "ytanegggacfmkcaa", sum := "22027ae36a83c8fb6af6d62cd1874face6a23a9920442a900eb424b05ac1646d", func := "loop.example/g00203/laws.FnExactTotalOf", spec := "fnExactTotalOf", apart := false, narrowed := true }
def FnExactTotalOfUptoSaid : Prop := fnExactTotalOfUptoRow.holds Try.pinned (OpenSpec.upto fnExactTotalOfSpec)

/-- 'laws.FnExactBalanceOf', WHERE WHAT IT READS IS OF BULK AT MOST 1048576: true; the input reads as it did. -/
def fnExactBalanceOfUptoRow : OpenClaim := { program := "ytanegggacfmkcaa", sum := "22027ae36a83c8fb6af6d62cd1874face6a23a9920442a900eb424b05ac1646d", func := "loop.example/g00203/laws.FnExactBalanceOf", spec := "fnExactBalanceOf", unfollowed := true, recurses := true, apart := false, narrowed := true }
def FnExactBalanceOfUptoSaid : Prop := fnExactBalanceOfUptoRow.holds Try.pinned (OpenSpec.upto fnExactBalanceOfSpec)

/-- 'laws.FnExactCanSettle', WHERE WHAT IT READS IS OF BULK AT MOST 1048576: true; the input reads as it did. -/
def fnExactCanSettleUptoRow : OpenClaim := { program := "ytanegggacfmkcaa", sum := "22027ae36a83c8fb6af6d62cd1874face6a23a9920442a900eb424b05ac1646d", func := "loop.example/g00203/laws.FnExactCanSettle", spec := "fnExactCanSettle", unfollowed := true, recurses := true, apart := false, narrowed := true }
def FnExactCanSettleUptoSaid : Prop := fnExactCanSettleUptoRow.holds Try.pinned (OpenSpec.upto fnExactCanSettleSpec)

/-- 'laws.FnSettles', WHERE WHAT IT READS IS OF BULK AT MOST 1048576: true; the input reads as it did. -/
def fnSettlesUptoRow : OpenClaim := { program := "ytanegggacfmkcaa", sum := "22027ae36a83c8fb6af6d62cd1874face6a23a9920442a900eb424b05ac1646d", func := "loop.example/g00203/laws.FnSettles", spec := "fnSettles", inPlace := ["slices.overlaps[loop.example/g00203/impl.Balance]"], unfollowed := true, recurses := true, apart := false, narrowed := true }
def FnSettlesUptoSaid : Prop := fnSettlesUptoRow.holds Try.pinned (OpenSpec.upto fnSettlesSpec)

end Rows
end Go.Proofs.Ytanegggacfmkcaa
