/- The types of FnSequels's arguments, read as data: each struct's fields as the print tells them. No conditions. -/
import Derived.Test.YtanegggacfmkcaaPFnSequelsx0
import Derived.Test.YtanegggacfmkcaaPFnSequelsxo
namespace Go.Proofs.Ytanegggacfmkcaa.PFnSequels
open Go.RowKit Go.Proofs.YtanegggacfmkcaaW.PrintWords Go.Proofs.Ytanegggacfmkcaa.Opens
set_option linter.unusedVariables false
end Go.Proofs.Ytanegggacfmkcaa.PFnSequels
