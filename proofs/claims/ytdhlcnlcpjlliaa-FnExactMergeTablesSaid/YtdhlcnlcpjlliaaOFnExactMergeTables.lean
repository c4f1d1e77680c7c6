/- The types of FnExactMergeTables's arguments, read as data: each struct's fields as the print tells them. No conditions. -/
import Derived.Test.YtdhlcnlcpjlliaaPFnExactMergeTablesx0
import Derived.Test.YtdhlcnlcpjlliaaPFnExactMergeTablesxo
namespace Go.Proofs.Ytdhlcnlcpjlliaa.PFnExactMergeTables
open Go.RowKit Go.Proofs.YtdhlcnlcpjlliaaW.PrintWords Go.Proofs.Ytdhlcnlcpjlliaa.Opens
set_option linter.unusedVariables false
def ok84 (x : S84) : Prop := (fun s => s.size ≤ maxLen) x.f0 ∧ (fun n => (Lit.int .i64 n).wf = true) x.f1 ∧ (fun s => s.size ≤ maxLen) x.f2 ∧ (fun _ => True) x.f3
theorem opens84 : Opens Try.prog 84 k84 ok84 := by
  intro H enc w base spare held fuel cs x h
  have hl := len_of Try.underlying84 h
  rw [show Try.prog.cellsOf 84 = 4 from by kernel_rfl] at hl
  obtain ⟨a0, h0, q0⟩ := opens_at Try.underlying84 h 0 _ rfl (e := 9) rfl (o := 0) rfl (z := 1) (by kernel_rfl) (opens_string Try.underlying9)
  obtain ⟨a1, h1, q1⟩ := opens_at Try.underlying84 h 1 _ rfl (e := 2) rfl (o := 1) rfl (z := 1) (by kernel_rfl) (opens_int Try.underlying2)
  obtain ⟨a2, h2, q2⟩ := opens_at Try.underlying84 h 2 _ rfl (e := 9) rfl (o := 2) rfl (z := 1) (by kernel_rfl) (opens_string Try.underlying9)
  obtain ⟨a3, h3, q3⟩ := opens_at Try.underlying84 h 3 _ rfl (e := 4) rfl (o := 3) rfl (z := 1) (by kernel_rfl) (opens_bool Try.underlying4)
  rw [last cs 3 1 (by omega)] at h3
  exact ⟨⟨a0, a1, a2, a3⟩, ⟨_, _, cut cs 0 1 3 (by omega), h0, ⟨_, _, cut cs 1 1 2 (by omega), h1, ⟨_, _, cut cs 2 1 1 (by omega), h2, h3⟩⟩⟩, q0, q1, q2, q3⟩
end Go.Proofs.Ytdhlcnlcpjlliaa.PFnExactMergeTables
