/- The types of FnExactUnframeAll's arguments, read as data: each struct's fields as the print tells them. No conditions. -/
import Derived.Test.YtcdpiejcdeedoaaPFnExactUnframeAllx0
import Derived.Test.YtcdpiejcdeedoaaPFnExactUnframeAllxo
namespace Go.Proofs.Ytcdpiejcdeedoaa.PFnExactUnframeAll
open Go.RowKit Go.Proofs.YtcdpiejcdeedoaaW.PrintWords Go.Proofs.Ytcdpiejcdeedoaa.Opens
set_option linter.unusedVariables false
end Go.Proofs.Ytcdpiejcdeedoaa.PFnExactUnframeAll
