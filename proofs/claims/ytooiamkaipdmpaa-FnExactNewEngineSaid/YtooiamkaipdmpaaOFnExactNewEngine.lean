/- The types of FnExactNewEngine's arguments, read as data: each struct's fields as the print tells them. No conditions. -/
import Derived.Test.YtooiamkaipdmpaaPFnExactNewEnginex0
import Derived.Test.YtooiamkaipdmpaaOpens
namespace Go.Proofs.Ytooiamkaipdmpaa.PFnExactNewEngine
open Go.RowKit Go.Proofs.YtooiamkaipdmpaaW.PrintWords Go.Proofs.Ytooiamkaipdmpaa.Opens
set_option linter.unusedVariables false
end Go.Proofs.Ytooiamkaipdmpaa.PFnExactNewEngine
