/- The types of FnExactPackWrites's arguments, read as data: each struct's fields as the print tells them. No conditions. -/
import Derived.Test.YtdhlcnlcpjlliaaPFnExactPackWritesx0
import Derived.Test.YtdhlcnlcpjlliaaOpens
namespace Go.Proofs.Ytdhlcnlcpjlliaa.PFnExactPackWrites
open Go.RowKit Go.Proofs.YtdhlcnlcpjlliaaW.PrintWords Go.Proofs.Ytdhlcnlcpjlliaa.Opens
set_option linter.unusedVariables false
def ok91 (x : S91) : Prop := (fun s => s.size ≤ maxLen) x.f0 ∧ (fun s => s.size ≤ maxLen) x.f1 ∧ (fun _ => True) x.f2
theorem opens91 : Opens Try.prog 91 k91 ok91 := by
  intro H enc w base spare held fuel cs x h
  have hl := len_of Try.underlying91 h
  rw [show Try.prog.cellsOf 91 = 3 from by kernel_rfl] at hl
  obtain ⟨a0, h0, q0⟩ := opens_at Try.underlying91 h 0 _ rfl (e := 9) rfl (o := 0) rfl (z := 1) (by kernel_rfl) (opens_string Try.underlying9)
  obtain ⟨a1, h1, q1⟩ := opens_at Try.underlying91 h 1 _ rfl (e := 9) rfl (o := 1) rfl (z := 1) (by kernel_rfl) (opens_string Try.underlying9)
  obtain ⟨a2, h2, q2⟩ := opens_at Try.underlying91 h 2 _ rfl (e := 4) rfl (o := 2) rfl (z := 1) (by kernel_rfl) (opens_bool Try.underlying4)
  rw [last cs 2 1 (by omega)] at h2
  exact ⟨⟨a0, a1, a2⟩, ⟨_, _, cut cs 0 1 2 (by omega), h0, ⟨_, _, cut cs 1 1 1 (by omega), h1, h2⟩⟩, q0, q1, q2⟩
end Go.Proofs.Ytdhlcnlcpjlliaa.PFnExactPackWrites
