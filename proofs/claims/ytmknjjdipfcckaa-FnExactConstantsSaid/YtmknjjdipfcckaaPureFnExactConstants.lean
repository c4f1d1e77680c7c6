/- FnExactConstants: every exported constant has the value that the specification gives; no conditions. -/
import Derived.Test.YtmknjjdipfcckaaPFnExactConstantsx1
namespace Go.Proofs.Ytmknjjdipfcckaa.Pure
open Go.RowKit Go.Proofs.Ytmknjjdipfcckaa.PFnExactConstants Go.Proofs.YtmknjjdipfcckaaW.PrintWords Go.Proofs.YtmknjjdipfcckaaW.PrintLast

theorem FnExactConstants : laws_FnExactConstants.Pure := rfl

end Go.Proofs.Ytmknjjdipfcckaa.Pure
