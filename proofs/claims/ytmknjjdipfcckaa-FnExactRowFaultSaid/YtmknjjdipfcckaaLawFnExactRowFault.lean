/- FnExactRowFault: for every input the law returns true, and each argument reads afterwards as it read before. No conditions. -/
import Derived.Test.YtmknjjdipfcckaaRows
import Derived.Test.YtmknjjdipfcckaaPFnExactRowFaultx1
import Derived.Test.YtmknjjdipfcckaaOFnExactRowFault
import Derived.Test.YtmknjjdipfcckaaPureFnExactRowFault
import Derived.WalkKit
import Derived.ProofKit
import Derived.OpenShut
import Derived.ShutString
import Derived.ChangeOld
import Derived.Below
import Derived.SizedLaws
namespace Go.Proofs.Ytmknjjdipfcckaa.fnExactRowFault
open Go.ChangeShapes Go.WideShapes Go.ChangeAt Go.RowKit Go.Proofs.YtmknjjdipfcckaaW.PrintWords Go.Proofs.Ytmknjjdipfcckaa.Opens Go.Proofs.Ytmknjjdipfcckaa.PFnExactRowFault
open Go.ChangeMaps (open_string shut_string)
set_option linter.unusedVariables false
theorem own : ownKnob Try.prog.godebug = none := by kernel_rfl
theorem laidOut : laidOutB Try.prog = true := by kernel_rfl
set_option maxRecDepth 100000 in
theorem lifted (os : Os) (started : os.Started) (H : Type) (enc : TypeId × Value → H) :
    ReturnsInHanded {} Try.checked os 7 .any (Rows.fnExactRowFaultSpec.pre6 enc Try.prog Try.f7 Rows.fnExactRowFaultRow.domain false) (Rows.fnExactRowFaultSpec.post enc Try.prog Try.f7 false true false false) := by
  refine returnsInHanded_of_change_sized (C := Try.checked) own started (by kernel_rfl) Try.func7
    (ChangeSpec.witness6 (enc := enc) (C := Try.checked) false ⟨#[], #[.agg #[.string ByteArray.empty, .int .i64 0, .string ByteArray.empty, .bool false]], []⟩ 8 (by kernel_rfl) (by kernel_rfl) (by kernel_rfl) (by kernel_rfl)) ?_
  intro W base args ds gs before hval0 hW hcnd hsz0 _
  have hval : ∀ (j : Nat) t v, Try.f7.params[j]? = some t → args[j]? = some v → Value.okWide Try.prog W .any base t v := hval0
  have hW' := hW
  obtain ⟨p, q, hA0, hV, rfl, hfz, hnd⟩ := hW
  have hA : DataW.TrodAll enc Try.prog W 0 (fun _ => true) true Try.f7.params.toList args.toList ds p := hA0
  rw [Try.params7] at hA hval
  obtain ⟨v0, vs0, d0, ds0, p0, q0, hargs, rfl, rfl, h0, r0⟩ := trodAll_cons hA
  obtain ⟨rfl, rfl, rfl⟩ := trodAll_nil r0
  obtain rfl : args = #[v0] := by cases args; simp_all
  obtain ⟨rfl, rfl⟩ := trodVars_none hV
  have k0 := h0
  have lt0 : ∀ x ∈ p0, x.block < W.heap.size := by obtain ⟨m, hm⟩ := k0; exact DataW.trod_lt m _ _ _ hm
  obtain ⟨fuel0, hf0⟩ := h0
  obtain ⟨⟨cs0⟩, rfl, _⟩ := okWide_struct Try.underlying38 (hval 0 38 v0 rfl rfl)
  obtain ⟨x0, K0, q0⟩ := opens38 enc W 0 (fun _ => true) true _ _ _ hf0
  have e0 := k38_open K0
  simp only [Value.cells] at e0
  subst e0
  obtain ⟨kk, hk⟩ := Pure.FnExactRowFault x0.f0 x0.f1 x0.f2 x0.f3 q0.1 q0.2.1 q0.2.2.1
  clear hA0 hval0 hsz0
  refine (laws_FnExactRowFault.calls kk _ _ _ _ true W  hk).mono fun e W' ⟨he, bel0⟩ => ?_
  have bel : Below W.heap.size W W' := bel0
  subst he
  exact ⟨_, rfl, _, _, _, [], _, [], hW', trodAll_mk1 (shut_bool Try.underlying4 _), (trodAll_cons_mk (Below.trod laidOut (by kernel_rfl) (of_decide_eq_true (by kernel_rfl)) k0 bel lt0) trodAll_mk0), rfl, bel.frame _, fun h => by cases h⟩
theorem over : Rows.fnExactRowFaultRow.holds Try.pinned (OpenSpec.ofChange Rows.fnExactRowFaultSpec) :=
  OpenClaim.holds_of_wide 7 Try.f7 rfl rfl rfl rfl rfl rfl rfl ⟨rfl, rfl, rfl, rfl, rfl⟩ rfl rfl rfl rfl rfl (by kernel_rfl) Try.func7 (by kernel_rfl)
    (of_decide_eq_true (by kernel_rfl)) (by unfold Func.isWrapper; first | (rw [if_pos (by decide +kernel)]; kernel_rfl) | (rw [if_neg (by decide +kernel)]; exact ⟨rfl, rfl⟩))
    (fun os started H enc _ => lifted os started H enc)
theorem proved : Rows.FnExactRowFaultSaid := over
end Go.Proofs.Ytmknjjdipfcckaa.fnExactRowFault
namespace Go.Proofs.Ytmknjjdipfcckaa
/-- The row, under a short name, for the claim. -/
theorem fnExactRowFault_holds : Rows.FnExactRowFaultSaid := fnExactRowFault.proved
end Go.Proofs.Ytmknjjdipfcckaa
