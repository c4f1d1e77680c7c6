/- The types of FnExactReadLog's arguments, read as data: each struct's fields as the print tells them. No conditions. -/
import Derived.Test.YtcdpiejcdeedoaaPFnExactReadLogx0
import Derived.Test.YtcdpiejcdeedoaaPFnExactReadLogxo
namespace Go.Proofs.Ytcdpiejcdeedoaa.PFnExactReadLog
open Go.RowKit Go.Proofs.YtcdpiejcdeedoaaW.PrintWords Go.Proofs.Ytcdpiejcdeedoaa.Opens
set_option linter.unusedVariables false
def ok24 (x : S24) : Prop := (okL (fun n => (Lit.int .u8 n).wf = true)) x.f0 ∧ (okL (fun n => (Lit.int .u8 n).wf = true)) x.f1
theorem opens24 : Opens Try.prog 24 k24 ok24 := by
  intro H enc w base spare held fuel cs x h
  have hl := len_of Try.underlying24 h
  rw [show Try.prog.cellsOf 24 = 2 from by kernel_rfl] at hl
  obtain ⟨a0, h0, q0⟩ := opens_at Try.underlying24 h 0 _ rfl (e := 22) rfl (o := 0) rfl (z := 1) (by kernel_rfl) (opens_slice (e := 5) Try.underlying22 (by kernel_rfl) (opens_int Try.underlying5))
  obtain ⟨a1, h1, q1⟩ := opens_at Try.underlying24 h 1 _ rfl (e := 22) rfl (o := 1) rfl (z := 1) (by kernel_rfl) (opens_slice (e := 5) Try.underlying22 (by kernel_rfl) (opens_int Try.underlying5))
  rw [last cs 1 1 (by omega)] at h1
  exact ⟨⟨a0, a1⟩, ⟨_, _, cut cs 0 1 1 (by omega), h0, h1⟩, q0, q1⟩
end Go.Proofs.Ytcdpiejcdeedoaa.PFnExactReadLog
