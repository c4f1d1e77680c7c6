/- The types of FnExactFrameRecord's arguments, read as data: each struct's fields as the print tells them. No conditions. -/
import Derived.Test.YtcdpiejcdeedoaaPFnExactFrameRecordx0
import Derived.Test.YtcdpiejcdeedoaaOpens
namespace Go.Proofs.Ytcdpiejcdeedoaa.PFnExactFrameRecord
open Go.RowKit Go.Proofs.YtcdpiejcdeedoaaW.PrintWords Go.Proofs.Ytcdpiejcdeedoaa.Opens
set_option linter.unusedVariables false
end Go.Proofs.Ytcdpiejcdeedoaa.PFnExactFrameRecord
