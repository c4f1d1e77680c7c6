/- The types of FnExactUnpackWrites's arguments, read as data: each struct's fields as the print tells them. No conditions. -/
import Derived.Test.YtdhlcnlcpjlliaaPFnExactUnpackWritesx0
import Derived.Test.YtdhlcnlcpjlliaaOpens
namespace Go.Proofs.Ytdhlcnlcpjlliaa.PFnExactUnpackWrites
open Go.RowKit Go.Proofs.YtdhlcnlcpjlliaaW.PrintWords Go.Proofs.Ytdhlcnlcpjlliaa.Opens
set_option linter.unusedVariables false
end Go.Proofs.Ytdhlcnlcpjlliaa.PFnExactUnpackWrites
