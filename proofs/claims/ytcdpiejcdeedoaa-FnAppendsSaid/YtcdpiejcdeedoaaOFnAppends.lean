/- The types of FnAppends's arguments, read as data: each struct's fields as the print tells them. No conditions. -/
import Derived.Test.YtcdpiejcdeedoaaPFnAppendsx0
import Derived.Test.YtcdpiejcdeedoaaPFnAppendsxo
namespace Go.Proofs.Ytcdpiejcdeedoaa.PFnAppends
open Go.RowKit Go.Proofs.YtcdpiejcdeedoaaW.PrintWords Go.Proofs.Ytcdpiejcdeedoaa.Opens
set_option linter.unusedVariables false
end Go.Proofs.Ytcdpiejcdeedoaa.PFnAppends
