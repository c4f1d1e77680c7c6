/- The types of FnTables's arguments, read as data: each struct's fields as the print tells them. No conditions. -/
import Derived.Test.YtdhlcnlcpjlliaaPFnTablesx0
import Derived.Test.YtdhlcnlcpjlliaaPFnTablesxo
namespace Go.Proofs.Ytdhlcnlcpjlliaa.PFnTables
open Go.RowKit Go.Proofs.YtdhlcnlcpjlliaaW.PrintWords Go.Proofs.Ytdhlcnlcpjlliaa.Opens
set_option linter.unusedVariables false
end Go.Proofs.Ytdhlcnlcpjlliaa.PFnTables
