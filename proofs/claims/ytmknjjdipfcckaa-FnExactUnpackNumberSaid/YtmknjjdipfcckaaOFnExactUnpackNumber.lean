/- The types of FnExactUnpackNumber's arguments, read as data: each struct's fields as the print tells them. No conditions. -/
import Derived.Test.YtmknjjdipfcckaaPFnExactUnpackNumberx0
import Derived.Test.YtmknjjdipfcckaaOpens
namespace Go.Proofs.Ytmknjjdipfcckaa.PFnExactUnpackNumber
open Go.RowKit Go.Proofs.YtmknjjdipfcckaaW.PrintWords Go.Proofs.Ytmknjjdipfcckaa.Opens
set_option linter.unusedVariables false
end Go.Proofs.Ytmknjjdipfcckaa.PFnExactUnpackNumber
