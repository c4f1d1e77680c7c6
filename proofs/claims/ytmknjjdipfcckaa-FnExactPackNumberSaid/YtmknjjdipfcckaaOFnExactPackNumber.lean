/- The types of FnExactPackNumber's arguments, read as data: each struct's fields as the print tells them. No conditions. -/
import Derived.Test.YtmknjjdipfcckaaPFnExactPackNumberx0
import Derived.Test.YtmknjjdipfcckaaOpens
namespace Go.Proofs.Ytmknjjdipfcckaa.PFnExactPackNumber
open Go.RowKit Go.Proofs.YtmknjjdipfcckaaW.PrintWords Go.Proofs.Ytmknjjdipfcckaa.Opens
set_option linter.unusedVariables false
end Go.Proofs.Ytmknjjdipfcckaa.PFnExactPackNumber
