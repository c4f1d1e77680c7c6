/- The types of FnBytes's arguments, read as data: each struct's fields as the print tells them. No conditions. -/
import Derived.Test.YtooiamkaipdmpaaPFnBytesx0
import Derived.Test.YtooiamkaipdmpaaPFnBytesxo
namespace Go.Proofs.Ytooiamkaipdmpaa.PFnBytes
open Go.RowKit Go.Proofs.YtooiamkaipdmpaaW.PrintWords Go.Proofs.Ytooiamkaipdmpaa.Opens
set_option linter.unusedVariables false
end Go.Proofs.Ytooiamkaipdmpaa.PFnBytes
