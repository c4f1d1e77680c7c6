/- The types of FnContracts's arguments, read as data: each struct's fields as the print tells them. No conditions. -/
import Derived.Test.YtooiamkaipdmpaaPFnContractsx0
import Derived.Test.YtooiamkaipdmpaaPFnContractsxo
namespace Go.Proofs.Ytooiamkaipdmpaa.PFnContracts
open Go.RowKit Go.Proofs.YtooiamkaipdmpaaW.PrintWords Go.Proofs.Ytooiamkaipdmpaa.Opens
set_option linter.unusedVariables false
end Go.Proofs.Ytooiamkaipdmpaa.PFnContracts
