/- The types of FnCrashLogs's arguments, read as data: each struct's fields as the print tells them. No conditions. -/
import Derived.Test.YtcdpiejcdeedoaaPFnCrashLogsx0
import Derived.Test.YtcdpiejcdeedoaaPFnCrashLogsxo
namespace Go.Proofs.Ytcdpiejcdeedoaa.PFnCrashLogs
open Go.RowKit Go.Proofs.YtcdpiejcdeedoaaW.PrintWords Go.Proofs.Ytcdpiejcdeedoaa.Opens
set_option linter.unusedVariables false
end Go.Proofs.Ytcdpiejcdeedoaa.PFnCrashLogs
