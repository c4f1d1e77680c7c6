/- The types of FnScans's arguments, read as data: each struct's fields as the print tells them. No conditions. -/
import Derived.Test.YtdhlcnlcpjlliaaPFnScansx0
import Derived.Test.YtdhlcnlcpjlliaaPFnScansxo
namespace Go.Proofs.Ytdhlcnlcpjlliaa.PFnScans
open Go.RowKit Go.Proofs.YtdhlcnlcpjlliaaW.PrintWords Go.Proofs.Ytdhlcnlcpjlliaa.Opens
set_option linter.unusedVariables false
end Go.Proofs.Ytdhlcnlcpjlliaa.PFnScans
