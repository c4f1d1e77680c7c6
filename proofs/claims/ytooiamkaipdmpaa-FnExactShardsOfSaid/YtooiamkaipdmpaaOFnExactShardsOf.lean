/- The types of FnExactShardsOf's arguments, read as data: each struct's fields as the print tells them. No conditions. -/
import Derived.Test.YtooiamkaipdmpaaPFnExactShardsOfx0
import Derived.Test.YtooiamkaipdmpaaOpens
namespace Go.Proofs.Ytooiamkaipdmpaa.PFnExactShardsOf
open Go.RowKit Go.Proofs.YtooiamkaipdmpaaW.PrintWords Go.Proofs.Ytooiamkaipdmpaa.Opens
set_option linter.unusedVariables false
def ok119 (x : S119) : Prop := (fun n => (Lit.int .i64 n).wf = true) x.f0 ∧ (fun n => (Lit.int .i64 n).wf = true) x.f1 ∧ (fun n => (Lit.int .i64 n).wf = true) x.f2 ∧ (fun n => (Lit.int .i64 n).wf = true) x.f3
theorem opens119 : Opens Try.prog 119 k119 ok119 := by
  intro H enc w base spare held fuel cs x h
  have hl := len_of Try.underlying119 h
  rw [show Try.prog.cellsOf 119 = 4 from by kernel_rfl] at hl
  obtain ⟨a0, h0, q0⟩ := opens_at Try.underlying119 h 0 _ rfl (e := 2) rfl (o := 0) rfl (z := 1) (by kernel_rfl) (opens_int Try.underlying2)
  obtain ⟨a1, h1, q1⟩ := opens_at Try.underlying119 h 1 _ rfl (e := 2) rfl (o := 1) rfl (z := 1) (by kernel_rfl) (opens_int Try.underlying2)
  obtain ⟨a2, h2, q2⟩ := opens_at Try.underlying119 h 2 _ rfl (e := 2) rfl (o := 2) rfl (z := 1) (by kernel_rfl) (opens_int Try.underlying2)
  obtain ⟨a3, h3, q3⟩ := opens_at Try.underlying119 h 3 _ rfl (e := 2) rfl (o := 3) rfl (z := 1) (by kernel_rfl) (opens_int Try.underlying2)
  rw [last cs 3 1 (by omega)] at h3
  exact ⟨⟨a0, a1, a2, a3⟩, ⟨_, _, cut cs 0 1 3 (by omega), h0, ⟨_, _, cut cs 1 1 2 (by omega), h1, ⟨_, _, cut cs 2 1 1 (by omega), h2, h3⟩⟩⟩, q0, q1, q2, q3⟩
def ok31 (x : S31) : Prop := (fun n => (Lit.int .i64 n).wf = true) x.f0 ∧ (okL ok119) x.f1
theorem opens31 : Opens Try.prog 31 k31 ok31 := by
  intro H enc w base spare held fuel cs x h
  have hl := len_of Try.underlying31 h
  rw [show Try.prog.cellsOf 31 = 2 from by kernel_rfl] at hl
  obtain ⟨a0, h0, q0⟩ := opens_at Try.underlying31 h 0 _ rfl (e := 2) rfl (o := 0) rfl (z := 1) (by kernel_rfl) (opens_int Try.underlying2)
  obtain ⟨a1, h1, q1⟩ := opens_at Try.underlying31 h 1 _ rfl (e := 29) rfl (o := 1) rfl (z := 1) (by kernel_rfl) (opens_slice (e := 119) Try.underlying29 (by kernel_rfl) opens119)
  rw [last cs 1 1 (by omega)] at h1
  exact ⟨⟨a0, a1⟩, ⟨_, _, cut cs 0 1 1 (by omega), h0, h1⟩, q0, q1⟩
end Go.Proofs.Ytooiamkaipdmpaa.PFnExactShardsOf
