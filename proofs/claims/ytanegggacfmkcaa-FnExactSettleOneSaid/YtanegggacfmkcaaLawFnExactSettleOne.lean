/- FnExactSettleOne: for every input the law returns true, and each argument reads afterwards as it read before. No conditions. -/
import Derived.Test.YtanegggacfmkcaaRows
import Derived.Test.YtanegggacfmkcaaPFnExactSettleOnex20
import Derived.Test.YtanegggacfmkcaaOFnExactSettleOne
import Derived.Test.YtanegggacfmkcaaPureFnExactSettleOne
import Derived.WalkKit
import Derived.ProofKit
import Derived.OpenShut
import Derived.ShutString
import Derived.ChangeOld
import Derived.Below
import Derived.SizedLaws
namespace Go.Proofs.Ytanegggacfmkcaa.fnExactSettleOne
open Go.ChangeShapes Go.WideShapes Go.ChangeAt Go.RowKit Go.Proofs.YtanegggacfmkcaaW.PrintWords Go.Proofs.Ytanegggacfmkcaa.Opens Go.Proofs.Ytanegggacfmkcaa.PFnExactSettleOne
open Go.ChangeMaps (open_string shut_string)
set_option linter.unusedVariables false
theorem own : ownKnob Try.prog.godebug = none := by kernel_rfl
theorem laidOut : laidOutB Try.prog = true := by kernel_rfl
set_option maxRecDepth 100000 in
theorem lifted (os : Os) (started : os.Started) (H : Type) (enc : TypeId × Value → H) :
    ReturnsInHanded {} Try.checked os 4 .any (Rows.fnExactSettleOneSpec.pre6 enc Try.prog Try.f4 Rows.fnExactSettleOneRow.domain false) (Rows.fnExactSettleOneSpec.post enc Try.prog Try.f4 false true false false) := by
  refine returnsInHanded_of_change_sized (C := Try.checked) own started (by kernel_rfl) Try.func4
    (ChangeSpec.witness6 (enc := enc) (C := Try.checked) false ⟨#[], #[.agg #[.slice none 0 0], .agg #[.int .i64 0, .slice none 0 0]], []⟩ 8 (by kernel_rfl) (by kernel_rfl) (by kernel_rfl) (by kernel_rfl)) ?_
  intro W base args ds gs before hval0 hW hcnd hsz0 _
  have hval : ∀ (j : Nat) t v, Try.f4.params[j]? = some t → args[j]? = some v → Value.okWide Try.prog W .any base t v := hval0
  have hW' := hW
  obtain ⟨p, q, hA0, hV, rfl, hfz, hnd⟩ := hW
  have hA : DataW.TrodAll enc Try.prog W 0 (fun _ => true) true Try.f4.params.toList args.toList ds p := hA0
  rw [Try.params4] at hA hval
  obtain ⟨v0, vs0, d0, ds0, p0, q0, hargs, rfl, rfl, h0, r0⟩ := trodAll_cons hA
  obtain ⟨v1, vs1, d1, ds1, p1, q1, rfl, rfl, rfl, h1, r1⟩ := trodAll_cons r0
  obtain ⟨rfl, rfl, rfl⟩ := trodAll_nil r1
  obtain rfl : args = #[v0, v1] := by cases args; simp_all
  obtain ⟨rfl, rfl⟩ := trodVars_none hV
  have k0 := h0
  have lt0 : ∀ x ∈ p0, x.block < W.heap.size := by obtain ⟨m, hm⟩ := k0; exact DataW.trod_lt m _ _ _ hm
  obtain ⟨fuel0, hf0⟩ := h0
  obtain ⟨⟨cs0⟩, rfl, _⟩ := okWide_struct Try.underlying47 (hval 0 47 v0 rfl rfl)
  obtain ⟨x0, K0, q0⟩ := opens47 enc W 0 (fun _ => true) true _ _ _ hf0
  obtain ⟨A0_0, c0_0, e0, l0_0, g0_0⟩ := k47_open K0
  simp only [Value.cells] at e0
  subst e0
  have k1 := h1
  have lt1 : ∀ x ∈ p1, x.block < W.heap.size := by obtain ⟨m, hm⟩ := k1; exact DataW.trod_lt m _ _ _ hm
  obtain ⟨fuel1, hf1⟩ := h1
  obtain ⟨⟨cs1⟩, rfl, _⟩ := okWide_struct Try.underlying50 (hval 1 50 v1 rfl rfl)
  obtain ⟨x1, K1, q1⟩ := opens50 enc W 0 (fun _ => true) true _ _ _ hf1
  obtain ⟨A1_1, c1_1, e1, l1_1, g1_1⟩ := k50_open K1
  simp only [Value.cells] at e1
  subst e1
  obtain ⟨kk, hk⟩ := Pure.FnExactSettleOne x0.f0 x1.f0 x1.f1 q0 q1.1 q1.2
  clear hA0 hval0 hsz0
  refine (laws_FnExactSettleOne.calls kk _ _ _ _ _ _ _ true W g0_0 l0_0 g1_1 l1_1 hk).mono fun e W' ⟨he, bel0⟩ => ?_
  have bel : Below W.heap.size W W' := bel0
  subst he
  exact ⟨_, rfl, _, _, _, [], _, [], hW', trodAll_mk1 (shut_bool Try.underlying4 _), (trodAll_cons_mk (Below.trod laidOut (by kernel_rfl) (of_decide_eq_true (by kernel_rfl)) k0 bel lt0) (trodAll_cons_mk (Below.trod laidOut (by kernel_rfl) (of_decide_eq_true (by kernel_rfl)) k1 bel lt1) trodAll_mk0)), rfl, bel.frame _, fun h => by cases h⟩
theorem over : Rows.fnExactSettleOneRow.holds Try.pinned (OpenSpec.ofChange Rows.fnExactSettleOneSpec) :=
  OpenClaim.holds_of_wide 4 Try.f4 rfl rfl rfl rfl rfl rfl rfl ⟨rfl, rfl, rfl, rfl, rfl⟩ rfl rfl rfl rfl rfl (by kernel_rfl) Try.func4 (by kernel_rfl)
    (of_decide_eq_true (by kernel_rfl)) (by unfold Func.isWrapper; first | (rw [if_pos (by decide +kernel)]; kernel_rfl) | (rw [if_neg (by decide +kernel)]; exact ⟨rfl, rfl⟩))
    (fun os started H enc _ => lifted os started H enc)
theorem proved : Rows.FnExactSettleOneSaid := over
end Go.Proofs.Ytanegggacfmkcaa.fnExactSettleOne
namespace Go.Proofs.Ytanegggacfmkcaa
/-- The row, under a short name, for the claim. -/
theorem fnExactSettleOne_holds : Rows.FnExactSettleOneSaid := fnExactSettleOne.proved
end Go.Proofs.Ytanegggacfmkcaa
