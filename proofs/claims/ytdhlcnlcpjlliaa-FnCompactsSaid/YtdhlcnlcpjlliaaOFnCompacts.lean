/- The types of FnCompacts's arguments, read as data: each struct's fields as the print tells them. No conditions. -/
import Derived.Test.YtdhlcnlcpjlliaaPFnCompactsx0
import Derived.Test.YtdhlcnlcpjlliaaPFnCompactsxo
namespace Go.Proofs.Ytdhlcnlcpjlliaa.PFnCompacts
open Go.RowKit Go.Proofs.YtdhlcnlcpjlliaaW.PrintWords Go.Proofs.Ytdhlcnlcpjlliaa.Opens
set_option linter.unusedVariables false
end Go.Proofs.Ytdhlcnlcpjlliaa.PFnCompacts
