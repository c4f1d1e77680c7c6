/- The types of FnFrames's arguments, read as data: each struct's fields as the print tells them. No conditions. -/
import Derived.Test.YtcdpiejcdeedoaaPFnFramesx0
import Derived.Test.YtcdpiejcdeedoaaPFnFramesxo
namespace Go.Proofs.Ytcdpiejcdeedoaa.PFnFrames
open Go.RowKit Go.Proofs.YtcdpiejcdeedoaaW.PrintWords Go.Proofs.Ytcdpiejcdeedoaa.Opens
set_option linter.unusedVariables false
end Go.Proofs.Ytcdpiejcdeedoaa.PFnFrames
