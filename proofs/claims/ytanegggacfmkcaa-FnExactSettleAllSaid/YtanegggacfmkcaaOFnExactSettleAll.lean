/- The types of FnExactSettleAll's arguments, read as data: each struct's fields as the print tells them. No conditions. -/
import Derived.Test.YtanegggacfmkcaaPFnExactSettleAllx0
import Derived.Test.YtanegggacfmkcaaPFnExactSettleAllxo
namespace Go.Proofs.Ytanegggacfmkcaa.PFnExactSettleAll
open Go.RowKit Go.Proofs.YtanegggacfmkcaaW.PrintWords Go.Proofs.Ytanegggacfmkcaa.Opens
set_option linter.unusedVariables false
def ok115 (x : S115) : Prop := (fun n => (Lit.int .i64 n).wf = true) x.f0 ∧ (fun n => (Lit.int .i64 n).wf = true) x.f1 ∧ (fun n => (Lit.int .i64 n).wf = true) x.f2
theorem opens115 : Opens Try.prog 115 k115 ok115 := by
  intro H enc w base spare held fuel cs x h
  have hl := len_of Try.underlying115 h
  rw [show Try.prog.cellsOf 115 = 3 from by kernel_rfl] at hl
  obtain ⟨a0, h0, q0⟩ := opens_at Try.underlying115 h 0 _ rfl (e := 2) rfl (o := 0) rfl (z := 1) (by kernel_rfl) (opens_int Try.underlying2)
  obtain ⟨a1, h1, q1⟩ := opens_at Try.underlying115 h 1 _ rfl (e := 2) rfl (o := 1) rfl (z := 1) (by kernel_rfl) (opens_int Try.underlying2)
  obtain ⟨a2, h2, q2⟩ := opens_at Try.underlying115 h 2 _ rfl (e := 2) rfl (o := 2) rfl (z := 1) (by kernel_rfl) (opens_int Try.underlying2)
  rw [last cs 2 1 (by omega)] at h2
  exact ⟨⟨a0, a1, a2⟩, ⟨_, _, cut cs 0 1 2 (by omega), h0, ⟨_, _, cut cs 1 1 1 (by omega), h1, h2⟩⟩, q0, q1, q2⟩
def ok47 (x : S47) : Prop := (okL (okL ok115)) x.f0
theorem opens47 : Opens Try.prog 47 k47 ok47 := by
  intro H enc w base spare held fuel cs x h
  have hl := len_of Try.underlying47 h
  rw [show Try.prog.cellsOf 47 = 1 from by kernel_rfl] at hl
  obtain ⟨a0, h0, q0⟩ := opens_at Try.underlying47 h 0 _ rfl (e := 45) rfl (o := 0) rfl (z := 1) (by kernel_rfl) (opens_slice (e := 61) Try.underlying45 (by kernel_rfl) (opens_slice (e := 115) Try.underlying61 (by kernel_rfl) opens115))
  rw [whole cs 1 hl] at h0
  exact ⟨⟨a0⟩, h0, q0⟩
def ok137 (x : S137) : Prop := (fun n => (Lit.int .i64 n).wf = true) x.f0 ∧ (fun n => (Lit.int .i64 n).wf = true) x.f1 ∧ (fun n => (Lit.int .i64 n).wf = true) x.f2 ∧ (fun n => (Lit.int .i64 n).wf = true) x.f3
theorem opens137 : Opens Try.prog 137 k137 ok137 := by
  intro H enc w base spare held fuel cs x h
  have hl := len_of Try.underlying137 h
  rw [show Try.prog.cellsOf 137 = 4 from by kernel_rfl] at hl
  obtain ⟨a0, h0, q0⟩ := opens_at Try.underlying137 h 0 _ rfl (e := 2) rfl (o := 0) rfl (z := 1) (by kernel_rfl) (opens_int Try.underlying2)
  obtain ⟨a1, h1, q1⟩ := opens_at Try.underlying137 h 1 _ rfl (e := 2) rfl (o := 1) rfl (z := 1) (by kernel_rfl) (opens_int Try.underlying2)
  obtain ⟨a2, h2, q2⟩ := opens_at Try.underlying137 h 2 _ rfl (e := 2) rfl (o := 2) rfl (z := 1) (by kernel_rfl) (opens_int Try.underlying2)
  obtain ⟨a3, h3, q3⟩ := opens_at Try.underlying137 h 3 _ rfl (e := 2) rfl (o := 3) rfl (z := 1) (by kernel_rfl) (opens_int Try.underlying2)
  rw [last cs 3 1 (by omega)] at h3
  exact ⟨⟨a0, a1, a2, a3⟩, ⟨_, _, cut cs 0 1 3 (by omega), h0, ⟨_, _, cut cs 1 1 2 (by omega), h1, ⟨_, _, cut cs 2 1 1 (by omega), h2, h3⟩⟩⟩, q0, q1, q2, q3⟩
def ok50 (x : S50) : Prop := (fun n => (Lit.int .i64 n).wf = true) x.f0 ∧ (okL ok137) x.f1
theorem opens50 : Opens Try.prog 50 k50 ok50 := by
  intro H enc w base spare held fuel cs x h
  have hl := len_of Try.underlying50 h
  rw [show Try.prog.cellsOf 50 = 2 from by kernel_rfl] at hl
  obtain ⟨a0, h0, q0⟩ := opens_at Try.underlying50 h 0 _ rfl (e := 2) rfl (o := 0) rfl (z := 1) (by kernel_rfl) (opens_int Try.underlying2)
  obtain ⟨a1, h1, q1⟩ := opens_at Try.underlying50 h 1 _ rfl (e := 48) rfl (o := 1) rfl (z := 1) (by kernel_rfl) (opens_slice (e := 137) Try.underlying48 (by kernel_rfl) opens137)
  rw [last cs 1 1 (by omega)] at h1
  exact ⟨⟨a0, a1⟩, ⟨_, _, cut cs 0 1 1 (by omega), h0, h1⟩, q0, q1⟩
end Go.Proofs.Ytanegggacfmkcaa.PFnExactSettleAll
