/- The types of FnExactCheckOf's arguments, read as data: each struct's fields as the print tells them. No conditions. -/
import Derived.Test.YtmknjjdipfcckaaPFnExactCheckOfx0
import Derived.Test.YtmknjjdipfcckaaOpens
namespace Go.Proofs.Ytmknjjdipfcckaa.PFnExactCheckOf
open Go.RowKit Go.Proofs.YtmknjjdipfcckaaW.PrintWords Go.Proofs.Ytmknjjdipfcckaa.Opens
set_option linter.unusedVariables false
end Go.Proofs.Ytmknjjdipfcckaa.PFnExactCheckOf
