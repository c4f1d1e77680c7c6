/- The types of FnSettles's arguments, read as data: each struct's fields as the print tells them. No conditions. -/
import Derived.Test.YtanegggacfmkcaaPFnSettlesx0
import Derived.Test.YtanegggacfmkcaaPFnSettlesxo
namespace Go.Proofs.Ytanegggacfmkcaa.PFnSettles
open Go.RowKit Go.Proofs.YtanegggacfmkcaaW.PrintWords Go.Proofs.Ytanegggacfmkcaa.Opens
set_option linter.unusedVariables false
end Go.Proofs.Ytanegggacfmkcaa.PFnSettles
