/- The functions that a law reaches, each as a plain Lean function with the proof that the machine comes to its answer: written by program (the kit's print, turned by wip/gen). No conditions. -/
import Derived.Test.YtooiamkaipdmpaaPFnExactShardsOfx0
import Derived.Test.YtooiamkaipdmpaaPFnExactShardsOfx1
import Derived.Test.YtooiamkaipdmpaaPFnExactShardsOfx2
import Derived.Test.YtooiamkaipdmpaaPFnExactShardsOfx5
import Derived.Test.YtooiamkaipdmpaaPFnExactShardsOfx9
namespace Go.Proofs.Ytooiamkaipdmpaa.PFnExactShardsOf
open Go.RowKit Go.Proofs.YtooiamkaipdmpaaW.PrintWords Go.Proofs.YtooiamkaipdmpaaW.PrintLast Go.Proofs.YtooiamkaipdmpaaW.PrintMore
attribute [local go_sem] max2_int min2_int max_two min_two max_three min_three max_four min_four   -- for this text's walks alone
set_option linter.unusedVariables false
set_option linter.unusedSimpArgs false

/-! ### laws_FnExactShardsOf: function 14 -/
mutual
def laws_FnExactShardsOf.j0 : Nat → Int → List (S119) → Option (Bool)
  | 0, _, _ => none
  | k + 1, x309000, x309001 => (laws_toContract.f k x309000 x309001).bind fun bt310 => ((spec_ShardsOf.f k bt310.1 bt310.2).bind fun bt314 => ((laws_toContract.f k x309000 x309001).bind fun bt319 => ((impl_ShardsOf.f k bt319.1 bt319.2).bind fun bt324 => ((laws_eqIntsResult.f k bt324.1 bt324.2 bt314.1 bt314.2).bind fun t329 => (if t329 = true then (laws_FnExactShardsOf.j1 k x309000 x309001 bt314.1 bt314.2 bt319.1 bt319.2 bt324.1 bt324.2) else (some false))))))
def laws_FnExactShardsOf.j1 : Nat → Int → List (S119) → Int → List Int → Int → List (S89) → Int → List Int → Option (Bool)
  | 0, _, _, _, _, _, _, _, _ => none
  | k + 1, x309000, x309001, x319000, x319001, x324000, x324001, x329000, x329001 => (laws_toContract.f k x309000 x309001).bind fun bt330 => ((laws_eqContract.f k x324000 x324001 bt330.1 bt330.2).bind fun t334 => (if t334 = true then (laws_FnExactShardsOf.j2 k x309000 x309001 x319000 x319001 x324000 x324001 x329000 x329001) else (some false)))
def laws_FnExactShardsOf.j2 : Nat → Int → List (S119) → Int → List Int → Int → List (S89) → Int → List Int → Option (Bool)
  | 0, _, _, _, _, _, _, _, _ => none
  | k + 1, x309000, x309001, x319000, x319001, x324000, x324001, x329000, x329001 => (laws_markContract.f k x324000 x324001 1).bind fun bt335 => (if bt335.1 < 0 then (laws_FnExactShardsOf.j3 k true x309000 x309001 x319000 x319001 x329000 x329001) else ((laws_eqIntsResult.f k x329000 x329001 x319000 x319001).bind fun t337 => (laws_FnExactShardsOf.j3 k (!t337) x309000 x309001 x319000 x319001 x329000 x329001)))
def laws_FnExactShardsOf.j3 : Nat → Bool → Int → List (S119) → Int → List Int → Int → List Int → Option (Bool)
  | 0, _, _, _, _, _, _, _ => none
  | k + 1, x42, x309000, x309001, x319000, x319001, x329000, x329001 => if x42 = true then (some false) else (laws_FnExactShardsOf.j4 k x309000 x309001 x319000 x319001 x329000 x329001)
def laws_FnExactShardsOf.j4 : Nat → Int → List (S119) → Int → List Int → Int → List Int → Option (Bool)
  | 0, _, _, _, _, _, _ => none
  | k + 1, x309000, x309001, x319000, x319001, x329000, x329001 => (laws_markIntsResult.f k x329000 x329001 1).bind fun bt338 => ((laws_heldIntsResult.f k x329000 bt338.2 1).bind fun t340 => (if t340 < 0 then (some false) else (laws_FnExactShardsOf.j5 k bt338.1 t340 x309000 x309001 x319000 x319001 x329000 bt338.2)))
def laws_FnExactShardsOf.j5 : Nat → Int → Int → Int → List (S119) → Int → List Int → Int → List Int → Option (Bool)
  | 0, _, _, _, _, _, _, _, _ => none
  | k + 1, x8, x9, x309000, x309001, x319000, x319001, x329000, x329001 => if x9 = x8 then (laws_FnExactShardsOf.j6 k x8 x309000 x309001 x319000 x319001 x329000 x329001) else (some false)
def laws_FnExactShardsOf.j6 : Nat → Int → Int → List (S119) → Int → List Int → Int → List Int → Option (Bool)
  | 0, _, _, _, _, _, _, _ => none
  | k + 1, x8, x309000, x309001, x319000, x319001, x329000, x329001 => (laws_toContract.f k x309000 x309001).bind fun bt341 => ((impl_ShardsOf.f k bt341.1 bt341.2).bind fun bt345 => ((laws_eqIntsResult.f k bt345.1 bt345.2 x319000 x319001).bind fun t350 => (if t350 = true then (laws_FnExactShardsOf.j7 k x8 x329000 x329001) else (some false))))
def laws_FnExactShardsOf.j7 : Nat → Int → Int → List Int → Option (Bool)
  | 0, _, _, _ => none
  | k + 1, x8, x329000, x329001 => (laws_heldIntsResult.f k x329000 x329001 1).bind fun t351 => (if t351 < 0 then (some false) else (if t351 = x8 then (some true) else (some false)))
end
def laws_FnExactShardsOf.f (k : Nat) (a0_0 : Int) (l0_1 : List (S119)) : Option (Bool) := (laws_szContract.f a0_0 l0_1 1048576).bind fun t309 => (if t309 < 0 then (some true) else (laws_FnExactShardsOf.j0 k a0_0 l0_1))
theorem laws_FnExactShardsOf.mono_l : ∀ k, (∀ y0 y1, LeO (laws_FnExactShardsOf.j0 k y0 y1) (laws_FnExactShardsOf.j0 (k + 1) y0 y1)) ∧ (∀ y0 y1 y2 y3 y4 y5 y6 y7, LeO (laws_FnExactShardsOf.j1 k y0 y1 y2 y3 y4 y5 y6 y7) (laws_FnExactShardsOf.j1 (k + 1) y0 y1 y2 y3 y4 y5 y6 y7)) ∧ (∀ y0 y1 y2 y3 y4 y5 y6 y7, LeO (laws_FnExactShardsOf.j2 k y0 y1 y2 y3 y4 y5 y6 y7) (laws_FnExactShardsOf.j2 (k + 1) y0 y1 y2 y3 y4 y5 y6 y7)) ∧ (∀ y0 y1 y2 y3 y4 y5 y6, LeO (laws_FnExactShardsOf.j3 k y0 y1 y2 y3 y4 y5 y6) (laws_FnExactShardsOf.j3 (k + 1) y0 y1 y2 y3 y4 y5 y6)) ∧ (∀ y0 y1 y2 y3 y4 y5, LeO (laws_FnExactShardsOf.j4 k y0 y1 y2 y3 y4 y5) (laws_FnExactShardsOf.j4 (k + 1) y0 y1 y2 y3 y4 y5)) ∧ (∀ y0 y1 y2 y3 y4 y5 y6 y7, LeO (laws_FnExactShardsOf.j5 k y0 y1 y2 y3 y4 y5 y6 y7) (laws_FnExactShardsOf.j5 (k + 1) y0 y1 y2 y3 y4 y5 y6 y7)) ∧ (∀ y0 y1 y2 y3 y4 y5 y6, LeO (laws_FnExactShardsOf.j6 k y0 y1 y2 y3 y4 y5 y6) (laws_FnExactShardsOf.j6 (k + 1) y0 y1 y2 y3 y4 y5 y6)) ∧ (∀ y0 y1 y2, LeO (laws_FnExactShardsOf.j7 k y0 y1 y2) (laws_FnExactShardsOf.j7 (k + 1) y0 y1 y2))
  | 0 => ⟨fun _ _ r h => by simp [laws_FnExactShardsOf.j0] at h, fun _ _ _ _ _ _ _ _ r h => by simp [laws_FnExactShardsOf.j1] at h, fun _ _ _ _ _ _ _ _ r h => by simp [laws_FnExactShardsOf.j2] at h, fun _ _ _ _ _ _ _ r h => by simp [laws_FnExactShardsOf.j3] at h, fun _ _ _ _ _ _ r h => by simp [laws_FnExactShardsOf.j4] at h, fun _ _ _ _ _ _ _ _ r h => by simp [laws_FnExactShardsOf.j5] at h, fun _ _ _ _ _ _ _ r h => by simp [laws_FnExactShardsOf.j6] at h, fun _ _ _ r h => by simp [laws_FnExactShardsOf.j7] at h⟩
  | k + 1 => by
    obtain ⟨ih0, ih1, ih2, ih3, ih4, ih5, ih6, ih7⟩ := laws_FnExactShardsOf.mono_l k
    refine ⟨?_, ?_, ?_, ?_, ?_, ?_, ?_, ?_⟩
    · intro y0 y1
      unfold laws_FnExactShardsOf.j0
      repeat' first
      | (with_reducible exact ih0 _ _)
      | (with_reducible exact ih1 _ _ _ _ _ _ _ _)
      | (with_reducible exact ih2 _ _ _ _ _ _ _ _)
      | (with_reducible exact ih3 _ _ _ _ _ _ _)
      | (with_reducible exact ih4 _ _ _ _ _ _)
      | (with_reducible exact ih5 _ _ _ _ _ _ _ _)
      | (with_reducible exact ih6 _ _ _ _ _ _ _)
      | (with_reducible exact ih7 _ _ _)
      | (with_reducible exact impl_ShardsOf.mono _ _ _)
      | (with_reducible exact laws_eqContract.mono _ _ _ _ _)
      | (with_reducible exact laws_eqIntsResult.mono _ _ _ _ _)
      | (with_reducible exact laws_heldIntsResult.mono _ _ _ _)
      | (with_reducible exact laws_markContract.mono _ _ _ _)
      | (with_reducible exact laws_markIntsResult.mono _ _ _ _)
      | (with_reducible exact laws_toContract.mono _ _ _)
      | (with_reducible exact spec_ShardsOf.mono _ _ _)
      | (with_reducible exact LeO.refl _)
      | (with_reducible exact LeO.none _)
      | (with_reducible refine LeO.ite ?_ ?_)
      | (with_reducible refine LeO.bind ?_ (fun _ => ?_))
      | exact ih0 _ _
      | exact ih1 _ _ _ _ _ _ _ _
      | exact ih2 _ _ _ _ _ _ _ _
      | exact ih3 _ _ _ _ _ _ _
      | exact ih4 _ _ _ _ _ _
      | exact ih5 _ _ _ _ _ _ _ _
      | exact ih6 _ _ _ _ _ _ _
      | exact ih7 _ _ _
      | exact impl_ShardsOf.mono _ _ _
      | exact laws_eqContract.mono _ _ _ _ _
      | exact laws_eqIntsResult.mono _ _ _ _ _
      | exact laws_heldIntsResult.mono _ _ _ _
      | exact laws_markContract.mono _ _ _ _
      | exact laws_markIntsResult.mono _ _ _ _
      | exact laws_toContract.mono _ _ _
      | exact spec_ShardsOf.mono _ _ _
      | exact LeO.none _
      | refine LeO.ite ?_ ?_
      | refine LeO.bind ?_ (fun _ => ?_)
    · intro y0 y1 y2 y3 y4 y5 y6 y7
      unfold laws_FnExactShardsOf.j1
      repeat' first
      | (with_reducible exact ih0 _ _)
      | (with_reducible exact ih1 _ _ _ _ _ _ _ _)
      | (with_reducible exact ih2 _ _ _ _ _ _ _ _)
      | (with_reducible exact ih3 _ _ _ _ _ _ _)
      | (with_reducible exact ih4 _ _ _ _ _ _)
      | (with_reducible exact ih5 _ _ _ _ _ _ _ _)
      | (with_reducible exact ih6 _ _ _ _ _ _ _)
      | (with_reducible exact ih7 _ _ _)
      | (with_reducible exact impl_ShardsOf.mono _ _ _)
      | (with_reducible exact laws_eqContract.mono _ _ _ _ _)
      | (with_reducible exact laws_eqIntsResult.mono _ _ _ _ _)
      | (with_reducible exact laws_heldIntsResult.mono _ _ _ _)
      | (with_reducible exact laws_markContract.mono _ _ _ _)
      | (with_reducible exact laws_markIntsResult.mono _ _ _ _)
      | (with_reducible exact laws_toContract.mono _ _ _)
      | (with_reducible exact spec_ShardsOf.mono _ _ _)
      | (with_reducible exact LeO.refl _)
      | (with_reducible exact LeO.none _)
      | (with_reducible refine LeO.ite ?_ ?_)
      | (with_reducible refine LeO.bind ?_ (fun _ => ?_))
      | exact ih0 _ _
      | exact ih1 _ _ _ _ _ _ _ _
      | exact ih2 _ _ _ _ _ _ _ _
      | exact ih3 _ _ _ _ _ _ _
      | exact ih4 _ _ _ _ _ _
      | exact ih5 _ _ _ _ _ _ _ _
      | exact ih6 _ _ _ _ _ _ _
      | exact ih7 _ _ _
      | exact impl_ShardsOf.mono _ _ _
      | exact laws_eqContract.mono _ _ _ _ _
      | exact laws_eqIntsResult.mono _ _ _ _ _
      | exact laws_heldIntsResult.mono _ _ _ _
      | exact laws_markContract.mono _ _ _ _
      | exact laws_markIntsResult.mono _ _ _ _
      | exact laws_toContract.mono _ _ _
      | exact spec_ShardsOf.mono _ _ _
      | exact LeO.none _
      | refine LeO.ite ?_ ?_
      | refine LeO.bind ?_ (fun _ => ?_)
    · intro y0 y1 y2 y3 y4 y5 y6 y7
      unfold laws_FnExactShardsOf.j2
      repeat' first
      | (with_reducible exact ih0 _ _)
      | (with_reducible exact ih1 _ _ _ _ _ _ _ _)
      | (with_reducible exact ih2 _ _ _ _ _ _ _ _)
      | (with_reducible exact ih3 _ _ _ _ _ _ _)
      | (with_reducible exact ih4 _ _ _ _ _ _)
      | (with_reducible exact ih5 _ _ _ _ _ _ _ _)
      | (with_reducible exact ih6 _ _ _ _ _ _ _)
      | (with_reducible exact ih7 _ _ _)
      | (with_reducible exact impl_ShardsOf.mono _ _ _)
      | (with_reducible exact laws_eqContract.mono _ _ _ _ _)
      | (with_reducible exact laws_eqIntsResult.mono _ _ _ _ _)
      | (with_reducible exact laws_heldIntsResult.mono _ _ _ _)
      | (with_reducible exact laws_markContract.mono _ _ _ _)
      | (with_reducible exact laws_markIntsResult.mono _ _ _ _)
      | (with_reducible exact laws_toContract.mono _ _ _)
      | (with_reducible exact spec_ShardsOf.mono _ _ _)
      | (with_reducible exact LeO.refl _)
      | (with_reducible exact LeO.none _)
      | (with_reducible refine LeO.ite ?_ ?_)
      | (with_reducible refine LeO.bind ?_ (fun _ => ?_))
      | exact ih0 _ _
      | exact ih1 _ _ _ _ _ _ _ _
      | exact ih2 _ _ _ _ _ _ _ _
      | exact ih3 _ _ _ _ _ _ _
      | exact ih4 _ _ _ _ _ _
      | exact ih5 _ _ _ _ _ _ _ _
      | exact ih6 _ _ _ _ _ _ _
      | exact ih7 _ _ _
      | exact impl_ShardsOf.mono _ _ _
      | exact laws_eqContract.mono _ _ _ _ _
      | exact laws_eqIntsResult.mono _ _ _ _ _
      | exact laws_heldIntsResult.mono _ _ _ _
      | exact laws_markContract.mono _ _ _ _
      | exact laws_markIntsResult.mono _ _ _ _
      | exact laws_toContract.mono _ _ _
      | exact spec_ShardsOf.mono _ _ _
      | exact LeO.none _
      | refine LeO.ite ?_ ?_
      | refine LeO.bind ?_ (fun _ => ?_)
    · intro y0 y1 y2 y3 y4 y5 y6
      unfold laws_FnExactShardsOf.j3
      repeat' first
      | (with_reducible exact ih0 _ _)
      | (with_reducible exact ih1 _ _ _ _ _ _ _ _)
      | (with_reducible exact ih2 _ _ _ _ _ _ _ _)
      | (with_reducible exact ih3 _ _ _ _ _ _ _)
      | (with_reducible exact ih4 _ _ _ _ _ _)
      | (with_reducible exact ih5 _ _ _ _ _ _ _ _)
      | (with_reducible exact ih6 _ _ _ _ _ _ _)
      | (with_reducible exact ih7 _ _ _)
      | (with_reducible exact impl_ShardsOf.mono _ _ _)
      | (with_reducible exact laws_eqContract.mono _ _ _ _ _)
      | (with_reducible exact laws_eqIntsResult.mono _ _ _ _ _)
      | (with_reducible exact laws_heldIntsResult.mono _ _ _ _)
      | (with_reducible exact laws_markContract.mono _ _ _ _)
      | (with_reducible exact laws_markIntsResult.mono _ _ _ _)
      | (with_reducible exact laws_toContract.mono _ _ _)
      | (with_reducible exact spec_ShardsOf.mono _ _ _)
      | (with_reducible exact LeO.refl _)
      | (with_reducible exact LeO.none _)
      | (with_reducible refine LeO.ite ?_ ?_)
      | (with_reducible refine LeO.bind ?_ (fun _ => ?_))
      | exact ih0 _ _
      | exact ih1 _ _ _ _ _ _ _ _
      | exact ih2 _ _ _ _ _ _ _ _
      | exact ih3 _ _ _ _ _ _ _
      | exact ih4 _ _ _ _ _ _
      | exact ih5 _ _ _ _ _ _ _ _
      | exact ih6 _ _ _ _ _ _ _
      | exact ih7 _ _ _
      | exact impl_ShardsOf.mono _ _ _
      | exact laws_eqContract.mono _ _ _ _ _
      | exact laws_eqIntsResult.mono _ _ _ _ _
      | exact laws_heldIntsResult.mono _ _ _ _
      | exact laws_markContract.mono _ _ _ _
      | exact laws_markIntsResult.mono _ _ _ _
      | exact laws_toContract.mono _ _ _
      | exact spec_ShardsOf.mono _ _ _
      | exact LeO.none _
      | refine LeO.ite ?_ ?_
      | refine LeO.bind ?_ (fun _ => ?_)
    · intro y0 y1 y2 y3 y4 y5
      unfold laws_FnExactShardsOf.j4
      repeat' first
      | (with_reducible exact ih0 _ _)
      | (with_reducible exact ih1 _ _ _ _ _ _ _ _)
      | (with_reducible exact ih2 _ _ _ _ _ _ _ _)
      | (with_reducible exact ih3 _ _ _ _ _ _ _)
      | (with_reducible exact ih4 _ _ _ _ _ _)
      | (with_reducible exact ih5 _ _ _ _ _ _ _ _)
      | (with_reducible exact ih6 _ _ _ _ _ _ _)
      | (with_reducible exact ih7 _ _ _)
      | (with_reducible exact impl_ShardsOf.mono _ _ _)
      | (with_reducible exact laws_eqContract.mono _ _ _ _ _)
      | (with_reducible exact laws_eqIntsResult.mono _ _ _ _ _)
      | (with_reducible exact laws_heldIntsResult.mono _ _ _ _)
      | (with_reducible exact laws_markContract.mono _ _ _ _)
      | (with_reducible exact laws_markIntsResult.mono _ _ _ _)
      | (with_reducible exact laws_toContract.mono _ _ _)
      | (with_reducible exact spec_ShardsOf.mono _ _ _)
      | (with_reducible exact LeO.refl _)
      | (with_reducible exact LeO.none _)
      | (with_reducible refine LeO.ite ?_ ?_)
      | (with_reducible refine LeO.bind ?_ (fun _ => ?_))
      | exact ih0 _ _
      | exact ih1 _ _ _ _ _ _ _ _
      | exact ih2 _ _ _ _ _ _ _ _
      | exact ih3 _ _ _ _ _ _ _
      | exact ih4 _ _ _ _ _ _
      | exact ih5 _ _ _ _ _ _ _ _
      | exact ih6 _ _ _ _ _ _ _
      | exact ih7 _ _ _
      | exact impl_ShardsOf.mono _ _ _
      | exact laws_eqContract.mono _ _ _ _ _
      | exact laws_eqIntsResult.mono _ _ _ _ _
      | exact laws_heldIntsResult.mono _ _ _ _
      | exact laws_markContract.mono _ _ _ _
      | exact laws_markIntsResult.mono _ _ _ _
      | exact laws_toContract.mono _ _ _
      | exact spec_ShardsOf.mono _ _ _
      | exact LeO.none _
      | refine LeO.ite ?_ ?_
      | refine LeO.bind ?_ (fun _ => ?_)
    · intro y0 y1 y2 y3 y4 y5 y6 y7
      unfold laws_FnExactShardsOf.j5
      repeat' first
      | (with_reducible exact ih0 _ _)
      | (with_reducible exact ih1 _ _ _ _ _ _ _ _)
      | (with_reducible exact ih2 _ _ _ _ _ _ _ _)
      | (with_reducible exact ih3 _ _ _ _ _ _ _)
      | (with_reducible exact ih4 _ _ _ _ _ _)
      | (with_reducible exact ih5 _ _ _ _ _ _ _ _)
      | (with_reducible exact ih6 _ _ _ _ _ _ _)
      | (with_reducible exact ih7 _ _ _)
      | (with_reducible exact impl_ShardsOf.mono _ _ _)
      | (with_reducible exact laws_eqContract.mono _ _ _ _ _)
      | (with_reducible exact laws_eqIntsResult.mono _ _ _ _ _)
      | (with_reducible exact laws_heldIntsResult.mono _ _ _ _)
      | (with_reducible exact laws_markContract.mono _ _ _ _)
      | (with_reducible exact laws_markIntsResult.mono _ _ _ _)
      | (with_reducible exact laws_toContract.mono _ _ _)
      | (with_reducible exact spec_ShardsOf.mono _ _ _)
      | (with_reducible exact LeO.refl _)
      | (with_reducible exact LeO.none _)
      | (with_reducible refine LeO.ite ?_ ?_)
      | (with_reducible refine LeO.bind ?_ (fun _ => ?_))
      | exact ih0 _ _
      | exact ih1 _ _ _ _ _ _ _ _
      | exact ih2 _ _ _ _ _ _ _ _
      | exact ih3 _ _ _ _ _ _ _
      | exact ih4 _ _ _ _ _ _
      | exact ih5 _ _ _ _ _ _ _ _
      | exact ih6 _ _ _ _ _ _ _
      | exact ih7 _ _ _
      | exact impl_ShardsOf.mono _ _ _
      | exact laws_eqContract.mono _ _ _ _ _
      | exact laws_eqIntsResult.mono _ _ _ _ _
      | exact laws_heldIntsResult.mono _ _ _ _
      | exact laws_markContract.mono _ _ _ _
      | exact laws_markIntsResult.mono _ _ _ _
      | exact laws_toContract.mono _ _ _
      | exact spec_ShardsOf.mono _ _ _
      | exact LeO.none _
      | refine LeO.ite ?_ ?_
      | refine LeO.bind ?_ (fun _ => ?_)
    · intro y0 y1 y2 y3 y4 y5 y6
      unfold laws_FnExactShardsOf.j6
      repeat' first
      | (with_reducible exact ih0 _ _)
      | (with_reducible exact ih1 _ _ _ _ _ _ _ _)
      | (with_reducible exact ih2 _ _ _ _ _ _ _ _)
      | (with_reducible exact ih3 _ _ _ _ _ _ _)
      | (with_reducible exact ih4 _ _ _ _ _ _)
      | (with_reducible exact ih5 _ _ _ _ _ _ _ _)
      | (with_reducible exact ih6 _ _ _ _ _ _ _)
      | (with_reducible exact ih7 _ _ _)
      | (with_reducible exact impl_ShardsOf.mono _ _ _)
      | (with_reducible exact laws_eqContract.mono _ _ _ _ _)
      | (with_reducible exact laws_eqIntsResult.mono _ _ _ _ _)
      | (with_reducible exact laws_heldIntsResult.mono _ _ _ _)
      | (with_reducible exact laws_markContract.mono _ _ _ _)
      | (with_reducible exact laws_markIntsResult.mono _ _ _ _)
      | (with_reducible exact laws_toContract.mono _ _ _)
      | (with_reducible exact spec_ShardsOf.mono _ _ _)
      | (with_reducible exact LeO.refl _)
      | (with_reducible exact LeO.none _)
      | (with_reducible refine LeO.ite ?_ ?_)
      | (with_reducible refine LeO.bind ?_ (fun _ => ?_))
      | exact ih0 _ _
      | exact ih1 _ _ _ _ _ _ _ _
      | exact ih2 _ _ _ _ _ _ _ _
      | exact ih3 _ _ _ _ _ _ _
      | exact ih4 _ _ _ _ _ _
      | exact ih5 _ _ _ _ _ _ _ _
      | exact ih6 _ _ _ _ _ _ _
      | exact ih7 _ _ _
      | exact impl_ShardsOf.mono _ _ _
      | exact laws_eqContract.mono _ _ _ _ _
      | exact laws_eqIntsResult.mono _ _ _ _ _
      | exact laws_heldIntsResult.mono _ _ _ _
      | exact laws_markContract.mono _ _ _ _
      | exact laws_markIntsResult.mono _ _ _ _
      | exact laws_toContract.mono _ _ _
      | exact spec_ShardsOf.mono _ _ _
      | exact LeO.none _
      | refine LeO.ite ?_ ?_
      | refine LeO.bind ?_ (fun _ => ?_)
    · intro y0 y1 y2
      unfold laws_FnExactShardsOf.j7
      repeat' first
      | (with_reducible exact ih0 _ _)
      | (with_reducible exact ih1 _ _ _ _ _ _ _ _)
      | (with_reducible exact ih2 _ _ _ _ _ _ _ _)
      | (with_reducible exact ih3 _ _ _ _ _ _ _)
      | (with_reducible exact ih4 _ _ _ _ _ _)
      | (with_reducible exact ih5 _ _ _ _ _ _ _ _)
      | (with_reducible exact ih6 _ _ _ _ _ _ _)
      | (with_reducible exact ih7 _ _ _)
      | (with_reducible exact impl_ShardsOf.mono _ _ _)
      | (with_reducible exact laws_eqContract.mono _ _ _ _ _)
      | (with_reducible exact laws_eqIntsResult.mono _ _ _ _ _)
      | (with_reducible exact laws_heldIntsResult.mono _ _ _ _)
      | (with_reducible exact laws_markContract.mono _ _ _ _)
      | (with_reducible exact laws_markIntsResult.mono _ _ _ _)
      | (with_reducible exact laws_toContract.mono _ _ _)
      | (with_reducible exact spec_ShardsOf.mono _ _ _)
      | (with_reducible exact LeO.refl _)
      | (with_reducible exact LeO.none _)
      | (with_reducible refine LeO.ite ?_ ?_)
      | (with_reducible refine LeO.bind ?_ (fun _ => ?_))
      | exact ih0 _ _
      | exact ih1 _ _ _ _ _ _ _ _
      | exact ih2 _ _ _ _ _ _ _ _
      | exact ih3 _ _ _ _ _ _ _
      | exact ih4 _ _ _ _ _ _
      | exact ih5 _ _ _ _ _ _ _ _
      | exact ih6 _ _ _ _ _ _ _
      | exact ih7 _ _ _
      | exact impl_ShardsOf.mono _ _ _
      | exact laws_eqContract.mono _ _ _ _ _
      | exact laws_eqIntsResult.mono _ _ _ _ _
      | exact laws_heldIntsResult.mono _ _ _ _
      | exact laws_markContract.mono _ _ _ _
      | exact laws_markIntsResult.mono _ _ _ _
      | exact laws_toContract.mono _ _ _
      | exact spec_ShardsOf.mono _ _ _
      | exact LeO.none _
      | refine LeO.ite ?_ ?_
      | refine LeO.bind ?_ (fun _ => ?_)
theorem laws_FnExactShardsOf.mono : ∀ a0 a1 k, LeO (laws_FnExactShardsOf.f k a0 a1) (laws_FnExactShardsOf.f (k + 1) a0 a1) := by
  intro a0 a1 k
  obtain ⟨ih0, ih1, ih2, ih3, ih4, ih5, ih6, ih7⟩ := laws_FnExactShardsOf.mono_l k
  unfold laws_FnExactShardsOf.f
  repeat' first
      | (with_reducible exact ih0 _ _)
      | (with_reducible exact ih1 _ _ _ _ _ _ _ _)
      | (with_reducible exact ih2 _ _ _ _ _ _ _ _)
      | (with_reducible exact ih3 _ _ _ _ _ _ _)
      | (with_reducible exact ih4 _ _ _ _ _ _)
      | (with_reducible exact ih5 _ _ _ _ _ _ _ _)
      | (with_reducible exact ih6 _ _ _ _ _ _ _)
      | (with_reducible exact ih7 _ _ _)
      | (with_reducible exact impl_ShardsOf.mono _ _ _)
      | (with_reducible exact laws_eqContract.mono _ _ _ _ _)
      | (with_reducible exact laws_eqIntsResult.mono _ _ _ _ _)
      | (with_reducible exact laws_heldIntsResult.mono _ _ _ _)
      | (with_reducible exact laws_markContract.mono _ _ _ _)
      | (with_reducible exact laws_markIntsResult.mono _ _ _ _)
      | (with_reducible exact laws_toContract.mono _ _ _)
      | (with_reducible exact spec_ShardsOf.mono _ _ _)
      | (with_reducible exact LeO.refl _)
      | (with_reducible exact LeO.none _)
      | (with_reducible refine LeO.ite ?_ ?_)
      | (with_reducible refine LeO.bind ?_ (fun _ => ?_))
      | exact ih0 _ _
      | exact ih1 _ _ _ _ _ _ _ _
      | exact ih2 _ _ _ _ _ _ _ _
      | exact ih3 _ _ _ _ _ _ _
      | exact ih4 _ _ _ _ _ _
      | exact ih5 _ _ _ _ _ _ _ _
      | exact ih6 _ _ _ _ _ _ _
      | exact ih7 _ _ _
      | exact impl_ShardsOf.mono _ _ _
      | exact laws_eqContract.mono _ _ _ _ _
      | exact laws_eqIntsResult.mono _ _ _ _ _
      | exact laws_heldIntsResult.mono _ _ _ _
      | exact laws_markContract.mono _ _ _ _
      | exact laws_markIntsResult.mono _ _ _ _
      | exact laws_toContract.mono _ _ _
      | exact spec_ShardsOf.mono _ _ _
      | exact LeO.none _
      | refine LeO.ite ?_ ?_
      | refine LeO.bind ?_ (fun _ => ?_)
set_option maxHeartbeats 8000000 in
set_option maxRecDepth 100000 in
theorem laws_FnExactShardsOf.calls (k : Nat) (a0_0 : Int) (A0_1 : Option Addr) (c0_1 : Nat) (l0_1 : List (S119)) (r : Bool) (w : World) (hr0_1 : Kd.C k119 w A0_1 l0_1.length l0_1) (hc0_1 : l0_1.length ≤ c0_1) (h : laws_FnExactShardsOf.f k a0_0 l0_1 = some r) :
  Calls Try.prog 14 #[.agg #[.int .i64 a0_0, .slice A0_1 l0_1.length c0_1]] w fun e w' => e = .returned (.bool r) ∧ Below w.heap.size w w' := by
 have hu31 := Try.underlying31
 have hu83 := Try.underlying83
 have hu36 := Try.underlying36
 have HR0_1 := Aside0.mk hr0_1
 have HC0_1 := Aside0.mk hc0_1
 clear hr0_1 hc0_1
 have HB := Aside0.mk (Below.refl w.heap.size w)
 have H : ((laws_szContract.f a0_0 l0_1 1048576).bind fun t309 => (if t309 < 0 then (some true) else (laws_FnExactShardsOf.j0 k a0_0 l0_1))) = some r := h
 clear h
 replace H := Option.bind_eq_some_iff.mp H
 obtain ⟨t309, A20, H⟩ := H
 replace H : (if t309 < 0 then (some true) else (laws_FnExactShardsOf.j0 k a0_0 l0_1)) = some r := H
 have A2 := Aside0.mk A20
 clear A20
 have HC3 := Aside0.mk H
 clear H
 go_enter Try.func14, Try.ntmps14
 go_upto_if 15 with (first | ((with_reducible refine gate_dst (N := 1) rfl ?_); refine box_event ?hg (N := 1) ?hd (cs := #[.int .i64 a0_0, .slice A0_1 l0_1.length c0_1]) (t := 31) ?hr ?_; (case hd => rfl); (case hg => rfl); (case hr => first | (go_simp; done) | (go_simp; rfl)); intro gb308 hg w4 hbox hb; have n0_ := Aside0.mk (below_step bq hb); have n1_ := Aside0.mk (hbox); have n2_ := Aside0.mk ((by rw [hg]; exact (below_size bq) : w.heap.size ≤ gb308)); have n3_ := Aside0.mk ((by rw [hg]; exact (below_size bq) : w.heap.size ≤ gb308)); clear HB; have HB := n0_; have BK308 := n1_; have GW308 := n2_; have GE308 := n3_; clear n0_ n1_ n2_ n3_; clear hb hbox hg; have hcz5_0 : w4.cell? ⟨gb308, 0, none⟩ = some (.int .i64 a0_0) := (blk_cell BK308.out 0).trans rfl; have hcz5_1 : w4.cell? ⟨gb308, 1, none⟩ = some (.slice A0_1 l0_1.length c0_1) := (blk_cell BK308.out 1).trans rfl; have hfz5_0 := blk_frozen BK308.out 0; have hfz5_1 := blk_frozen BK308.out 1) | ((with_reducible refine gate_callee (f := 20) rfl ?_); refine goesLq (some 13) rfl rfl Try.func20 (by kernel_rfl) rfl #[.agg #[.int .i64 a0_0, .slice A0_1 l0_1.length c0_1], .int .i64 1048576] rfl ?_; (with_reducible refine (laws_szContract.calls a0_0 _ _ l0_1 1048576 t309 _ ?side1 ?side2 A2.out).mono ?_); (case side1 => repeat (first | exact (Kd.C_below HR0_1.out HB.out) | (with_reducible refine Kd.C_alloc ?_ _) | (with_reducible refine Kd.C_drewN ?_ _) | (with_reducible refine Kd.C_drew ?_))); (case side2 => exact HC0_1.out); rintro e w6 ⟨rfl, hb⟩; refine ⟨_, rfl, ?_⟩; have n0_ := Aside0.mk (blk_below (g := gb308) (o := .cells #[.int .i64 a0_0, .slice A0_1 l0_1.length c0_1] 31 (0, 0)) kq hb); have n1_ := Aside0.mk (below_step bq hb); clear BK308; clear HB; have BK308 := n0_; have HB := n1_; clear n0_ n1_; (try clear hb); (try clear hb2); (try clear hk); (try clear hi)))
 (try simp only [Act.put, List.setIfInBounds_toArray, List.set_cons_zero, List.set_cons_succ])
 go_cut [] (fun wc => ∃ (kq : Nat), Aside0 (laws_FnExactShardsOf.j0 kq a0_0 l0_1 = some r) ∧ Aside0 (kq ≤ k) ∧ Aside0 (wc.heap[gb308]? = some (.cells #[.int .i64 a0_0, (.slice A0_1 l0_1.length c0_1)] 31 (0, 0))) ∧ Aside0 (Below w.heap.size w wc))
 case first =>
  have H := HC3.out
  clear HC3
  by_cases c7 : t309 < 0
  ·rw [if_pos c7] at H
   have c7b0 : decide (t309 < 0) = true := decide_eq_true c7
   clear c7
   (first | rw [c7b0] | (simp only [i64_w, i32_w]; rw [c7b0]) | skip)
   obtain rfl := Option.some.inj H
   go_wp2
   go_ret
   exact ⟨by first | rfl | (simp [errW_none, errW_some] <;> rfl) | (simp [*, errW_none, errW_some] <;> rfl), bq⟩
  ·rw [if_neg c7] at H
   have c7b0 : decide (t309 < 0) = false := decide_eq_false c7
   clear c7
   (first | rw [c7b0] | (simp only [i64_w, i32_w]; rw [c7b0]) | skip)
   have H' := Aside0.mk H
   clear H
   go_wp2
   go_meet
   case rel => exact ⟨_, H', ⟨by first | omega | exact Nat.le_refl _⟩, ⟨by (with_reducible repeat (first | refine blk_drewN ?_ _ | refine blk_drew ?_ | refine blk_alloc ?_ _)); exact BK308.out⟩, ⟨bq⟩⟩
 case rest =>
  clear HC3
  (try clear c1); (try clear c2); (try clear p2); (try clear c7); (try clear c7b0); (try clear hcz5_0); (try clear hcz5_1); (try clear hfz5_0); (try clear hfz5_1)
  obtain ⟨kq, HA, HJ2, BK308, HB⟩ := hcut
  cases kq with
  | zero => exact absurd HA.out (by simp [laws_FnExactShardsOf.j0])
  | succ kj2 =>
   have H := HA.out
   clear HA
   simp only [laws_FnExactShardsOf.j0] at H
   replace H := Option.bind_eq_some_iff.mp H
   obtain ⟨⟨t310, t311⟩, A80, H⟩ := H
   replace H : ((spec_ShardsOf.f kj2 t310 t311).bind fun bt314 => ((laws_toContract.f kj2 a0_0 l0_1).bind fun bt319 => ((impl_ShardsOf.f kj2 bt319.1 bt319.2).bind fun bt324 => ((laws_eqIntsResult.f kj2 bt324.1 bt324.2 bt314.1 bt314.2).bind fun t329 => (if t329 = true then (laws_FnExactShardsOf.j1 kj2 a0_0 l0_1 bt314.1 bt314.2 bt319.1 bt319.2 bt324.1 bt324.2) else (some false)))))) = some r := H
   have A8 := Aside0.mk A80
   clear A80
   replace H := Option.bind_eq_some_iff.mp H
   obtain ⟨⟨t314, t315⟩, A90, H⟩ := H
   replace H : ((laws_toContract.f kj2 a0_0 l0_1).bind fun bt319 => ((impl_ShardsOf.f kj2 bt319.1 bt319.2).bind fun bt324 => ((laws_eqIntsResult.f kj2 bt324.1 bt324.2 t314 t315).bind fun t329 => (if t329 = true then (laws_FnExactShardsOf.j1 kj2 a0_0 l0_1 t314 t315 bt319.1 bt319.2 bt324.1 bt324.2) else (some false))))) = some r := H
   have A9 := Aside0.mk A90
   clear A90
   replace H := Option.bind_eq_some_iff.mp H
   obtain ⟨⟨t319, t320⟩, A100, H⟩ := H
   replace H : ((impl_ShardsOf.f kj2 t319 t320).bind fun bt324 => ((laws_eqIntsResult.f kj2 bt324.1 bt324.2 t314 t315).bind fun t329 => (if t329 = true then (laws_FnExactShardsOf.j1 kj2 a0_0 l0_1 t314 t315 t319 t320 bt324.1 bt324.2) else (some false)))) = some r := H
   have A10 := Aside0.mk A100
   clear A100
   replace H := Option.bind_eq_some_iff.mp H
   obtain ⟨⟨t324, t325⟩, A110, H⟩ := H
   replace H : ((laws_eqIntsResult.f kj2 t324 t325 t314 t315).bind fun t329 => (if t329 = true then (laws_FnExactShardsOf.j1 kj2 a0_0 l0_1 t314 t315 t319 t320 t324 t325) else (some false))) = some r := H
   have A11 := Aside0.mk A110
   clear A110
   replace H := Option.bind_eq_some_iff.mp H
   obtain ⟨t329, A120, H⟩ := H
   replace H : (if t329 = true then (laws_FnExactShardsOf.j1 kj2 a0_0 l0_1 t314 t315 t319 t320 t324 t325) else (some false)) = some r := H
   have A12 := Aside0.mk A120
   clear A120
   have HC13 := Aside0.mk H
   clear H
   have hcz14_0 : wc.cell? ⟨gb308, 0, none⟩ = some (.int .i64 a0_0) := (blk_cell BK308.out 0).trans rfl
   have hcz14_1 : wc.cell? ⟨gb308, 1, none⟩ = some (.slice A0_1 l0_1.length c0_1) := (blk_cell BK308.out 1).trans rfl
   have hfz14_0 := blk_frozen BK308.out 0
   have hfz14_1 := blk_frozen BK308.out 1
   go_upto_if 26 with (first | ((with_reducible refine gate_callee (f := 22) rfl ?_); refine goesLq (some 17) rfl rfl Try.func22 (by kernel_rfl) rfl #[.agg #[.int .i64 a0_0, .slice A0_1 l0_1.length c0_1]] rfl ?_; (with_reducible refine (laws_toContract.calls kj2 a0_0 _ _ l0_1 t310 t311 _ ?side1 ?side2 A8.out).mono ?_); (case side1 => repeat (first | exact (Kd.C_below HR0_1.out HB.out) | (with_reducible refine Kd.C_alloc ?_ _) | (with_reducible refine Kd.C_drewN ?_ _) | (with_reducible refine Kd.C_drew ?_))); (case side2 => exact HC0_1.out); rintro e w15 ⟨v312, rfl, ho0, hb⟩; refine ⟨_, rfl, ?_⟩; have n0_ := Aside0.mk (Kd.R_lower ho0 (below_size bq)); have n1_ := Aside0.mk (blk_below (g := gb308) (o := .cells #[.int .i64 a0_0, .slice A0_1 l0_1.length c0_1] 31 (0, 0)) kq hb); have n2_ := Aside0.mk (below_step bq hb); clear BK308; clear HB; have HO313 := n0_; have BK308 := n1_; have HB := n2_; clear n0_ n1_ n2_; (try clear hb); (try clear hb2); (try clear hk); (try clear hi); (try clear ho0); obtain ⟨Ao16, co16, eo16⟩ := Kd.R_slice HO313.out; subst eo16) | ((with_reducible refine gate_callee (f := 61) rfl ?_); refine goesLq (some 18) rfl rfl Try.func61 (by kernel_rfl) rfl #[.agg #[.int .i64 t310, .slice Ao16 t311.length co16]] rfl ?_; (with_reducible refine (spec_ShardsOf.calls kj2 t310 _ _ t311 t314 t315 _ ?side1 ?side2 A9.out).mono ?_); (case side1 => repeat (first | exact (Kd.R_reads' HO313.out).2.2 | (with_reducible refine Kd.C_alloc ?_ _) | (with_reducible refine Kd.C_drewN ?_ _) | (with_reducible refine Kd.C_drew ?_))); (case side2 => exact (Kd.R_reads' HO313.out).2.1); rintro e w17 ⟨v316, rfl, ho0, hb⟩; refine ⟨_, rfl, ?_⟩; have n0_ := Aside0.mk (Kd.R_below (by (with_reducible repeat (first | apply Kd.R_alloc | apply Kd.R_drewN | apply Kd.R_drew)); exact HO313.out) hb); have n1_ := Aside0.mk (Kd.V_lower (Kd.V_mono (ok' := fun k_ => some k_ ≠ (.slice Ao16 t311.length co16 : Value).ownBlock ∧ k_ ≠ gb308) ho0 (fun k_ hk_ => ⟨(Kd.fresh' (Kd.R_lt (by (with_reducible repeat (first | apply Kd.R_alloc | apply Kd.R_drewN | apply Kd.R_drew)); exact HO313.out)) k_ hk_), (Kd.freshB (g := gb308) (o := .cells #[.int .i64 a0_0, .slice A0_1 l0_1.length c0_1] 31 (0, 0)) kq k_ hk_)⟩)) (below_size bq)); have n2_ := Aside0.mk (blk_below (g := gb308) (o := .cells #[.int .i64 a0_0, .slice A0_1 l0_1.length c0_1] 31 (0, 0)) kq hb); have n3_ := Aside0.mk (below_step bq hb); clear HO313; clear BK308; clear HB; have HO313 := n0_; have HO317 := n1_; have BK308 := n2_; have HB := n3_; clear n0_ n1_ n2_ n3_; (try clear hb); (try clear hb2); (try clear hk); (try clear hi); (try clear ho0)) | ((with_reducible refine gate_dst (N := 4) rfl ?_); refine box_event ?hg (N := 4) ?hd (cs := #[.int .i64 0, .slice none 0 0]) (t := 83) ?hr ?_; (case hd => rfl); (case hg => rfl); (case hr => first | (go_simp; done) | (go_simp; rfl)); intro gb318 hg w18 hbox hb; have n0_ := Aside0.mk (Kd.R_below (by (with_reducible repeat (first | apply Kd.R_alloc | apply Kd.R_drewN | apply Kd.R_drew)); exact HO313.out) hb); have n1_ := Aside0.mk (Kd.V_below (Kd.V_elderB (by (with_reducible repeat (first | apply Kd.V_alloc | apply Kd.V_drewN | apply Kd.V_drew)); exact HO317.out) gb318 (Nat.le_of_eq hg.symm)) hb); have n2_ := Aside0.mk (blk_below (g := gb308) (o := .cells #[.int .i64 a0_0, .slice A0_1 l0_1.length c0_1] 31 (0, 0)) kq hb); have n3_ := Aside0.mk (below_step bq hb); have n4_ := Aside0.mk (hbox); have n5_ := Aside0.mk ((by rw [hg]; exact (below_size bq) : w.heap.size ≤ gb318)); have n6_ := Aside0.mk ((by rw [hg]; exact (below_size bq) : w.heap.size ≤ gb318)); have n7_ := Aside0.mk ((by rw [hg]; exact Nat.ne_of_lt (blk_lt (g := gb308) (o := .cells #[.int .i64 a0_0, .slice A0_1 l0_1.length c0_1] 31 (0, 0)) kq) : gb308 ≠ gb318)); have n8_ := Aside0.mk ((by rw [hg]; exact Nat.ne_of_gt (blk_lt (g := gb308) (o := .cells #[.int .i64 a0_0, .slice A0_1 l0_1.length c0_1] 31 (0, 0)) kq) : gb318 ≠ gb308)); clear HO313; clear HO317; clear BK308; clear HB; have HO313 := n0_; have HO317 := n1_; have BK308 := n2_; have HB := n3_; have BK318 := n4_; have GW318 := n5_; have GE318 := n6_; have NB308_318 := n7_; have NB318_308 := n8_; clear n0_ n1_ n2_ n3_ n4_ n5_ n6_ n7_ n8_; clear hb hbox hg; have hnb19 := NB318_308.out; have hnc19 := NB308_318.out; have hcz20_0 : w18.cell? ⟨gb318, 0, none⟩ = some (.int .i64 0) := (blk_cell BK318.out 0).trans rfl; have hcz20_1 : w18.cell? ⟨gb318, 1, none⟩ = some (.slice none 0 0) := (blk_cell BK318.out 1).trans rfl; have hfz20_0 := blk_frozen BK318.out 0; have hfz20_1 := blk_frozen BK318.out 1; obtain ⟨Ao21, co21, eo21⟩ := Kd.V_slice HO317.out; subst eo21; have hcz22_0 : w18.cell? ⟨gb308, 0, none⟩ = some (.int .i64 a0_0) := (blk_cell BK308.out 0).trans rfl; have hcz22_1 : w18.cell? ⟨gb308, 1, none⟩ = some (.slice A0_1 l0_1.length c0_1) := (blk_cell BK308.out 1).trans rfl; have hfz22_0 := blk_frozen BK308.out 0; have hfz22_1 := blk_frozen BK308.out 1) | ((with_reducible refine gate_callee (f := 22) rfl ?_); refine goesLq (some 20) rfl rfl Try.func22 (by kernel_rfl) rfl #[.agg #[.int .i64 a0_0, .slice A0_1 l0_1.length c0_1]] rfl ?_; (with_reducible refine (laws_toContract.calls kj2 a0_0 _ _ l0_1 t319 t320 _ ?side1 ?side2 A10.out).mono ?_); (case side1 => exact Kd.C_below HR0_1.out bq); (case side2 => exact HC0_1.out); rintro e w23 ⟨v321, rfl, ho0, hb⟩; refine ⟨_, rfl, ?_⟩; have n0_ := Aside0.mk (Kd.R_elder' (by (with_reducible repeat (first | apply Kd.R_alloc | apply Kd.R_drewN | apply Kd.R_drew)); exact (Kd.R_mono (Kd.R_far (p := ⟨gb318, 1, none⟩) (Kd.R_far (p := ⟨gb318, 0, none⟩) (Kd.R_types HO313.out BK318.out (by decide)) (fun _ hk => hk.2) (.int .i64 t314)) (fun _ hk => hk.2) (.slice Ao21 t315.length co21)) (fun _ h_ => h_.1))) (Kd.R_base ho0) hb); have n1_ := Aside0.mk (Kd.V_elder' (by (with_reducible repeat (first | apply Kd.V_alloc | apply Kd.V_drewN | apply Kd.V_drew)); exact (Kd.V_mono (Kd.V_far (p := ⟨gb318, 1, none⟩) (Kd.V_far (p := ⟨gb318, 0, none⟩) (Kd.V_mono HO317.out (fun k_ hk => (⟨hk, hk.2⟩ : _ ∧ k_ ≠ gb318))) (fun _ hk => hk.2) (.int .i64 t314)) (fun _ hk => hk.2) (.slice Ao21 t315.length co21)) (fun _ h_ => h_.1))) (Kd.R_base ho0) hb); have n2_ := Aside0.mk (Kd.R_lower (Kd.R_new' ho0 (Kd.R_lt (by (with_reducible repeat (first | apply Kd.R_alloc | apply Kd.R_drewN | apply Kd.R_drew)); exact (Kd.R_mono (Kd.R_far (p := ⟨gb318, 1, none⟩) (Kd.R_far (p := ⟨gb318, 0, none⟩) (Kd.R_types HO313.out BK318.out (by decide)) (fun _ hk => hk.2) (.int .i64 t314)) (fun _ hk => hk.2) (.slice Ao21 t315.length co21)) (fun _ h_ => h_.1))))) (below_size bq)); have n3_ := Aside0.mk (blk_below (g := gb308) (o := .cells #[.int .i64 a0_0, .slice A0_1 l0_1.length c0_1] 31 (0, 0)) (by (with_reducible repeat (first | refine blk_drewN ?_ _ | refine blk_drew ?_ | refine blk_alloc ?_ _)); refine blk_far ?_ NB308_318.out _; (with_reducible repeat (first | refine blk_drewN ?_ _ | refine blk_drew ?_ | refine blk_alloc ?_ _)); refine blk_far ?_ NB308_318.out _; (with_reducible repeat (first | refine blk_drewN ?_ _ | refine blk_drew ?_ | refine blk_alloc ?_ _)); exact BK308.out) hb); have n4_ := Aside0.mk (blk_below (g := gb318) (o := .cells #[.int .i64 t314, .slice Ao21 t315.length co21] 83 (0, 0)) (by (with_reducible repeat (first | refine blk_drewN ?_ _ | refine blk_drew ?_ | refine blk_alloc ?_ _)); refine blk_put (cs := #[.int .i64 t314, .slice none 0 0]) ?_ 1 _ rfl; (with_reducible repeat (first | refine blk_drewN ?_ _ | refine blk_drew ?_ | refine blk_alloc ?_ _)); refine blk_put (cs := #[.int .i64 0, .slice none 0 0]) ?_ 0 _ rfl; (with_reducible repeat (first | refine blk_drewN ?_ _ | refine blk_drew ?_ | refine blk_alloc ?_ _)); exact BK318.out) hb); have n5_ := Aside0.mk (below_step bq hb); clear HO313; clear HO317; clear BK308; clear BK318; clear HB; have HO313 := n0_; have HO317 := n1_; have HO322 := n2_; have BK308 := n3_; have BK318 := n4_; have HB := n5_; clear n0_ n1_ n2_ n3_ n4_ n5_; (try clear hb); (try clear hb2); (try clear hk); (try clear hi); (try clear ho0)) | ((with_reducible refine gate_dst (N := 5) rfl ?_); refine box_event ?hg (N := 5) ?hd (cs := #[.int .i64 0, .slice none 0 0]) (t := 36) ?hr ?_; (case hd => rfl); (case hg => rfl); (case hr => first | (go_simp; done) | (go_simp; rfl)); intro gb323 hg w24 hbox hb; have n0_ := Aside0.mk (Kd.R_below (by (with_reducible repeat (first | apply Kd.R_alloc | apply Kd.R_drewN | apply Kd.R_drew)); exact HO313.out) hb); have n1_ := Aside0.mk (Kd.V_below (Kd.V_elderB (by (with_reducible repeat (first | apply Kd.V_alloc | apply Kd.V_drewN | apply Kd.V_drew)); exact HO317.out) gb323 (Nat.le_of_eq hg.symm)) hb); have n2_ := Aside0.mk (Kd.R_below (by (with_reducible repeat (first | apply Kd.R_alloc | apply Kd.R_drewN | apply Kd.R_drew)); exact HO322.out) hb); have n3_ := Aside0.mk (blk_below (g := gb308) (o := .cells #[.int .i64 a0_0, .slice A0_1 l0_1.length c0_1] 31 (0, 0)) kq hb); have n4_ := Aside0.mk (blk_below (g := gb318) (o := .cells #[.int .i64 t314, .slice Ao21 t315.length co21] 83 (0, 0)) kq hb); have n5_ := Aside0.mk (below_step bq hb); have n6_ := Aside0.mk (hbox); have n7_ := Aside0.mk ((by rw [hg]; exact (below_size bq) : w.heap.size ≤ gb323)); have n8_ := Aside0.mk ((by rw [hg]; exact (below_size bq) : w.heap.size ≤ gb323)); have n9_ := Aside0.mk ((by rw [hg]; exact Nat.ne_of_lt (blk_lt (g := gb308) (o := .cells #[.int .i64 a0_0, .slice A0_1 l0_1.length c0_1] 31 (0, 0)) kq) : gb308 ≠ gb323)); have n10_ := Aside0.mk ((by rw [hg]; exact Nat.ne_of_gt (blk_lt (g := gb308) (o := .cells #[.int .i64 a0_0, .slice A0_1 l0_1.length c0_1] 31 (0, 0)) kq) : gb323 ≠ gb308)); have n11_ := Aside0.mk ((by rw [hg]; exact Nat.ne_of_lt (blk_lt (g := gb318) (o := .cells #[.int .i64 t314, .slice Ao21 t315.length co21] 83 (0, 0)) kq) : gb318 ≠ gb323)); have n12_ := Aside0.mk ((by rw [hg]; exact Nat.ne_of_gt (blk_lt (g := gb318) (o := .cells #[.int .i64 t314, .slice Ao21 t315.length co21] 83 (0, 0)) kq) : gb323 ≠ gb318)); clear HO313; clear HO317; clear HO322; clear BK308; clear BK318; clear HB; have HO313 := n0_; have HO317 := n1_; have HO322 := n2_; have BK308 := n3_; have BK318 := n4_; have HB := n5_; have BK323 := n6_; have GW323 := n7_; have GE323 := n8_; have NB308_323 := n9_; have NB323_308 := n10_; have NB318_323 := n11_; have NB323_318 := n12_; clear n0_ n1_ n2_ n3_ n4_ n5_ n6_ n7_ n8_ n9_ n10_ n11_ n12_; clear hb hbox hg; have hnb25 := NB323_308.out; have hnc25 := NB308_323.out; have hnb26 := NB323_318.out; have hnc26 := NB318_323.out; have hcz27_0 : w24.cell? ⟨gb323, 0, none⟩ = some (.int .i64 0) := (blk_cell BK323.out 0).trans rfl; have hcz27_1 : w24.cell? ⟨gb323, 1, none⟩ = some (.slice none 0 0) := (blk_cell BK323.out 1).trans rfl; have hfz27_0 := blk_frozen BK323.out 0; have hfz27_1 := blk_frozen BK323.out 1; obtain ⟨Ao28, co28, eo28⟩ := Kd.R_slice HO322.out; subst eo28) | ((with_reducible refine gate_callee (f := 60) rfl ?_); refine goesLq (some 22) rfl rfl Try.func60 (by kernel_rfl) rfl #[.agg #[.int .i64 t319, .slice Ao28 t320.length co28]] rfl ?_; (with_reducible refine (impl_ShardsOf.calls kj2 t319 _ _ t320 t324 t325 _ ?side1 ?side2 A11.out).mono ?_); (case side1 => refine (Kd.R_reads' (e := 89) (base := w.heap.size) (ok := fun k_ => (True ∧ some k_ ≠ (.slice Ao16 t311.length co16 : Value).ownBlock)) (n := t320.length) (c := co28) ?_).2.2; exact (by (with_reducible repeat (first | apply Kd.R_alloc | apply Kd.R_drewN | apply Kd.R_drew)); exact (Kd.R_mono (Kd.R_far (p := ⟨gb323, 1, none⟩) (Kd.R_far (p := ⟨gb323, 0, none⟩) (Kd.R_types HO322.out BK323.out (by decide)) (fun _ hk => hk.2) (.int .i64 t319)) (fun _ hk => hk.2) (.slice Ao28 t320.length co28)) (fun _ h_ => h_.1)))); (case side2 => exact (Kd.R_reads' HO322.out).2.1); rintro e w29 ⟨v326, rfl, ho0, hb⟩; refine ⟨_, rfl, ?_⟩; have n0_ := Aside0.mk (Kd.R_below (by (with_reducible repeat (first | apply Kd.R_alloc | apply Kd.R_drewN | apply Kd.R_drew)); exact (Kd.R_mono (Kd.R_far (p := ⟨gb323, 1, none⟩) (Kd.R_far (p := ⟨gb323, 0, none⟩) (Kd.R_types HO313.out BK323.out (by decide)) (fun _ hk => hk.2) (.int .i64 t319)) (fun _ hk => hk.2) (.slice Ao28 t320.length co28)) (fun _ h_ => h_.1))) hb); have n1_ := Aside0.mk (Kd.V_elder' (by (with_reducible repeat (first | apply Kd.V_alloc | apply Kd.V_drewN | apply Kd.V_drew)); exact (Kd.V_mono (Kd.V_far (p := ⟨gb323, 1, none⟩) (Kd.V_far (p := ⟨gb323, 0, none⟩) (Kd.V_mono HO317.out (fun k_ hk => (⟨hk, hk.2⟩ : _ ∧ k_ ≠ gb323))) (fun _ hk => hk.2) (.int .i64 t319)) (fun _ hk => hk.2) (.slice Ao28 t320.length co28)) (fun _ h_ => h_.1))) (Kd.R_base ho0) hb); have n2_ := Aside0.mk (Kd.R_below (by (with_reducible repeat (first | apply Kd.R_alloc | apply Kd.R_drewN | apply Kd.R_drew)); exact (Kd.R_mono (Kd.R_far (p := ⟨gb323, 1, none⟩) (Kd.R_far (p := ⟨gb323, 0, none⟩) (Kd.R_types HO322.out BK323.out (by decide)) (fun _ hk => hk.2) (.int .i64 t319)) (fun _ hk => hk.2) (.slice Ao28 t320.length co28)) (fun _ h_ => h_.1))) hb); have n3_ := Aside0.mk (Kd.R_lower ho0 (below_size bq)); have n4_ := Aside0.mk (blk_below (g := gb308) (o := .cells #[.int .i64 a0_0, .slice A0_1 l0_1.length c0_1] 31 (0, 0)) (by (with_reducible repeat (first | refine blk_drewN ?_ _ | refine blk_drew ?_ | refine blk_alloc ?_ _)); refine blk_far ?_ NB308_323.out _; (with_reducible repeat (first | refine blk_drewN ?_ _ | refine blk_drew ?_ | refine blk_alloc ?_ _)); refine blk_far ?_ NB308_323.out _; (with_reducible repeat (first | refine blk_drewN ?_ _ | refine blk_drew ?_ | refine blk_alloc ?_ _)); exact BK308.out) hb); have n5_ := Aside0.mk (blk_below (g := gb318) (o := .cells #[.int .i64 t314, .slice Ao21 t315.length co21] 83 (0, 0)) (by (with_reducible repeat (first | refine blk_drewN ?_ _ | refine blk_drew ?_ | refine blk_alloc ?_ _)); refine blk_far ?_ NB318_323.out _; (with_reducible repeat (first | refine blk_drewN ?_ _ | refine blk_drew ?_ | refine blk_alloc ?_ _)); refine blk_far ?_ NB318_323.out _; (with_reducible repeat (first | refine blk_drewN ?_ _ | refine blk_drew ?_ | refine blk_alloc ?_ _)); exact BK318.out) hb); have n6_ := Aside0.mk (blk_below (g := gb323) (o := .cells #[.int .i64 t319, .slice Ao28 t320.length co28] 36 (0, 0)) (by (with_reducible repeat (first | refine blk_drewN ?_ _ | refine blk_drew ?_ | refine blk_alloc ?_ _)); refine blk_put (cs := #[.int .i64 t319, .slice none 0 0]) ?_ 1 _ rfl; (with_reducible repeat (first | refine blk_drewN ?_ _ | refine blk_drew ?_ | refine blk_alloc ?_ _)); refine blk_put (cs := #[.int .i64 0, .slice none 0 0]) ?_ 0 _ rfl; (with_reducible repeat (first | refine blk_drewN ?_ _ | refine blk_drew ?_ | refine blk_alloc ?_ _)); exact BK323.out) hb); have n7_ := Aside0.mk (below_step bq hb); clear HO313; clear HO317; clear HO322; clear BK308; clear BK318; clear BK323; clear HB; have HO313 := n0_; have HO317 := n1_; have HO322 := n2_; have HO327 := n3_; have BK308 := n4_; have BK318 := n5_; have BK323 := n6_; have HB := n7_; clear n0_ n1_ n2_ n3_ n4_ n5_ n6_ n7_; (try clear hb); (try clear hb2); (try clear hk); (try clear hi); (try clear ho0)) | ((with_reducible refine gate_dst (N := 6) rfl ?_); refine box_event ?hg (N := 6) ?hd (cs := #[.int .i64 0, .slice none 0 0]) (t := 83) ?hr ?_; (case hd => rfl); (case hg => rfl); (case hr => first | (go_simp; done) | (go_simp; rfl)); intro gb328 hg w30 hbox hb; have n0_ := Aside0.mk (Kd.R_below (by (with_reducible repeat (first | apply Kd.R_alloc | apply Kd.R_drewN | apply Kd.R_drew)); exact HO313.out) hb); have n1_ := Aside0.mk (Kd.V_below (Kd.V_elderB (by (with_reducible repeat (first | apply Kd.V_alloc | apply Kd.V_drewN | apply Kd.V_drew)); exact HO317.out) gb328 (Nat.le_of_eq hg.symm)) hb); have n2_ := Aside0.mk (Kd.R_below (by (with_reducible repeat (first | apply Kd.R_alloc | apply Kd.R_drewN | apply Kd.R_drew)); exact HO322.out) hb); have n3_ := Aside0.mk (Kd.R_below (by (with_reducible repeat (first | apply Kd.R_alloc | apply Kd.R_drewN | apply Kd.R_drew)); exact HO327.out) hb); have n4_ := Aside0.mk (blk_below (g := gb308) (o := .cells #[.int .i64 a0_0, .slice A0_1 l0_1.length c0_1] 31 (0, 0)) kq hb); have n5_ := Aside0.mk (blk_below (g := gb318) (o := .cells #[.int .i64 t314, .slice Ao21 t315.length co21] 83 (0, 0)) kq hb); have n6_ := Aside0.mk (blk_below (g := gb323) (o := .cells #[.int .i64 t319, .slice Ao28 t320.length co28] 36 (0, 0)) kq hb); have n7_ := Aside0.mk (below_step bq hb); have n8_ := Aside0.mk (hbox); have n9_ := Aside0.mk ((by rw [hg]; exact (below_size bq) : w.heap.size ≤ gb328)); have n10_ := Aside0.mk ((by rw [hg]; exact (below_size bq) : w.heap.size ≤ gb328)); have n11_ := Aside0.mk ((by rw [hg]; exact Nat.ne_of_lt (blk_lt (g := gb308) (o := .cells #[.int .i64 a0_0, .slice A0_1 l0_1.length c0_1] 31 (0, 0)) kq) : gb308 ≠ gb328)); have n12_ := Aside0.mk ((by rw [hg]; exact Nat.ne_of_gt (blk_lt (g := gb308) (o := .cells #[.int .i64 a0_0, .slice A0_1 l0_1.length c0_1] 31 (0, 0)) kq) : gb328 ≠ gb308)); have n13_ := Aside0.mk ((by rw [hg]; exact Nat.ne_of_lt (blk_lt (g := gb318) (o := .cells #[.int .i64 t314, .slice Ao21 t315.length co21] 83 (0, 0)) kq) : gb318 ≠ gb328)); have n14_ := Aside0.mk ((by rw [hg]; exact Nat.ne_of_gt (blk_lt (g := gb318) (o := .cells #[.int .i64 t314, .slice Ao21 t315.length co21] 83 (0, 0)) kq) : gb328 ≠ gb318)); have n15_ := Aside0.mk ((by rw [hg]; exact Nat.ne_of_lt (blk_lt (g := gb323) (o := .cells #[.int .i64 t319, .slice Ao28 t320.length co28] 36 (0, 0)) kq) : gb323 ≠ gb328)); have n16_ := Aside0.mk ((by rw [hg]; exact Nat.ne_of_gt (blk_lt (g := gb323) (o := .cells #[.int .i64 t319, .slice Ao28 t320.length co28] 36 (0, 0)) kq) : gb328 ≠ gb323)); clear HO313; clear HO317; clear HO322; clear HO327; clear BK308; clear BK318; clear BK323; clear HB; have HO313 := n0_; have HO317 := n1_; have HO322 := n2_; have HO327 := n3_; have BK308 := n4_; have BK318 := n5_; have BK323 := n6_; have HB := n7_; have BK328 := n8_; have GW328 := n9_; have GE328 := n10_; have NB308_328 := n11_; have NB328_308 := n12_; have NB318_328 := n13_; have NB328_318 := n14_; have NB323_328 := n15_; have NB328_323 := n16_; clear n0_ n1_ n2_ n3_ n4_ n5_ n6_ n7_ n8_ n9_ n10_ n11_ n12_ n13_ n14_ n15_ n16_; clear hb hbox hg; have hnb31 := NB328_308.out; have hnc31 := NB308_328.out; have hnb32 := NB328_318.out; have hnc32 := NB318_328.out; have hnb33 := NB328_323.out; have hnc33 := NB323_328.out; have hcz34_0 : w30.cell? ⟨gb328, 0, none⟩ = some (.int .i64 0) := (blk_cell BK328.out 0).trans rfl; have hcz34_1 : w30.cell? ⟨gb328, 1, none⟩ = some (.slice none 0 0) := (blk_cell BK328.out 1).trans rfl; have hfz34_0 := blk_frozen BK328.out 0; have hfz34_1 := blk_frozen BK328.out 1; obtain ⟨Ao35, co35, eo35⟩ := Kd.R_slice HO327.out; subst eo35; have hcz36_0 : w30.cell? ⟨gb318, 0, none⟩ = some (.int .i64 t314) := (blk_cell BK318.out 0).trans rfl; have hcz36_1 : w30.cell? ⟨gb318, 1, none⟩ = some (.slice Ao21 t315.length co21) := (blk_cell BK318.out 1).trans rfl; have hfz36_0 := blk_frozen BK318.out 0; have hfz36_1 := blk_frozen BK318.out 1) | ((with_reducible refine gate_callee (f := 62) rfl ?_); refine goesLq (some 25) rfl rfl Try.func62 (by kernel_rfl) rfl #[.agg #[.int .i64 t324, .slice Ao35 t325.length co35], .agg #[.int .i64 t314, .slice Ao21 t315.length co21]] rfl ?_; (with_reducible refine (laws_eqIntsResult.calls kj2 t324 _ _ t325 t314 _ _ t315 t329 _ ?side1 ?side2 ?side3 ?side4 A12.out).mono ?_); (case side1 => refine (Kd.R_reads' (e := 2) (base := w.heap.size) (ok := fun k_ => True) (n := t325.length) (c := co35) ?_).2.2; exact (by (with_reducible repeat (first | apply Kd.R_alloc | apply Kd.R_drewN | apply Kd.R_drew)); exact (Kd.R_mono (Kd.R_far (p := ⟨gb328, 1, none⟩) (Kd.R_far (p := ⟨gb328, 0, none⟩) (Kd.R_types HO327.out BK328.out (by decide)) (fun _ hk => hk.2) (.int .i64 t324)) (fun _ hk => hk.2) (.slice Ao35 t325.length co35)) (fun _ h_ => h_.1)))); (case side2 => exact (Kd.R_reads' HO327.out).2.1); (case side3 => refine (Kd.V_reads' (e := 2) (base := w.heap.size) (ok := fun k_ => ((((((some k_ ≠ (.slice Ao16 t311.length co16 : Value).ownBlock ∧ k_ ≠ gb308) ∧ k_ ≠ gb318) ∧ some k_ ≠ (.slice Ao28 t320.length co28 : Value).ownBlock) ∧ k_ ≠ gb323) ∧ some k_ ≠ (.slice Ao35 t325.length co35 : Value).ownBlock) ∧ k_ ≠ gb328)) (n := t315.length) (c := co21) ?_).2.2; exact (by (with_reducible repeat (first | apply Kd.V_alloc | apply Kd.V_drewN | apply Kd.V_drew)); exact (Kd.V_mono (Kd.V_far (p := ⟨gb328, 1, none⟩) (Kd.V_far (p := ⟨gb328, 0, none⟩) (Kd.V_mono HO317.out (fun k_ hk => (⟨hk, hk.2⟩ : _ ∧ k_ ≠ gb328))) (fun _ hk => hk.2) (.int .i64 t324)) (fun _ hk => hk.2) (.slice Ao35 t325.length co35)) (fun _ h_ => h_.1)))); (case side4 => exact (Kd.V_reads' HO317.out).2.1); rintro e w37 ⟨rfl, hb⟩; refine ⟨_, rfl, ?_⟩; have n0_ := Aside0.mk (Kd.R_below (by (with_reducible repeat (first | apply Kd.R_alloc | apply Kd.R_drewN | apply Kd.R_drew)); exact (Kd.R_mono (Kd.R_far (p := ⟨gb328, 1, none⟩) (Kd.R_far (p := ⟨gb328, 0, none⟩) (Kd.R_types HO313.out BK328.out (by decide)) (fun _ hk => hk.2) (.int .i64 t324)) (fun _ hk => hk.2) (.slice Ao35 t325.length co35)) (fun _ h_ => h_.1))) hb); have n1_ := Aside0.mk (Kd.V_below (by (with_reducible repeat (first | apply Kd.V_alloc | apply Kd.V_drewN | apply Kd.V_drew)); exact (Kd.V_mono (Kd.V_far (p := ⟨gb328, 1, none⟩) (Kd.V_far (p := ⟨gb328, 0, none⟩) (Kd.V_mono HO317.out (fun k_ hk => (⟨hk, hk.2⟩ : _ ∧ k_ ≠ gb328))) (fun _ hk => hk.2) (.int .i64 t324)) (fun _ hk => hk.2) (.slice Ao35 t325.length co35)) (fun _ h_ => h_.1))) hb); have n2_ := Aside0.mk (Kd.R_below (by (with_reducible repeat (first | apply Kd.R_alloc | apply Kd.R_drewN | apply Kd.R_drew)); exact (Kd.R_mono (Kd.R_far (p := ⟨gb328, 1, none⟩) (Kd.R_far (p := ⟨gb328, 0, none⟩) (Kd.R_types HO322.out BK328.out (by decide)) (fun _ hk => hk.2) (.int .i64 t324)) (fun _ hk => hk.2) (.slice Ao35 t325.length co35)) (fun _ h_ => h_.1))) hb); have n3_ := Aside0.mk (Kd.R_below (by (with_reducible repeat (first | apply Kd.R_alloc | apply Kd.R_drewN | apply Kd.R_drew)); exact (Kd.R_mono (Kd.R_far (p := ⟨gb328, 1, none⟩) (Kd.R_far (p := ⟨gb328, 0, none⟩) (Kd.R_types HO327.out BK328.out (by decide)) (fun _ hk => hk.2) (.int .i64 t324)) (fun _ hk => hk.2) (.slice Ao35 t325.length co35)) (fun _ h_ => h_.1))) hb); have n4_ := Aside0.mk (blk_below (g := gb308) (o := .cells #[.int .i64 a0_0, .slice A0_1 l0_1.length c0_1] 31 (0, 0)) (by (with_reducible repeat (first | refine blk_drewN ?_ _ | refine blk_drew ?_ | refine blk_alloc ?_ _)); refine blk_far ?_ NB308_328.out _; (with_reducible repeat (first | refine blk_drewN ?_ _ | refine blk_drew ?_ | refine blk_alloc ?_ _)); refine blk_far ?_ NB308_328.out _; (with_reducible repeat (first | refine blk_drewN ?_ _ | refine blk_drew ?_ | refine blk_alloc ?_ _)); exact BK308.out) hb); have n5_ := Aside0.mk (blk_below (g := gb318) (o := .cells #[.int .i64 t314, .slice Ao21 t315.length co21] 83 (0, 0)) (by (with_reducible repeat (first | refine blk_drewN ?_ _ | refine blk_drew ?_ | refine blk_alloc ?_ _)); refine blk_far ?_ NB318_328.out _; (with_reducible repeat (first | refine blk_drewN ?_ _ | refine blk_drew ?_ | refine blk_alloc ?_ _)); refine blk_far ?_ NB318_328.out _; (with_reducible repeat (first | refine blk_drewN ?_ _ | refine blk_drew ?_ | refine blk_alloc ?_ _)); exact BK318.out) hb); have n6_ := Aside0.mk (blk_below (g := gb323) (o := .cells #[.int .i64 t319, .slice Ao28 t320.length co28] 36 (0, 0)) (by (with_reducible repeat (first | refine blk_drewN ?_ _ | refine blk_drew ?_ | refine blk_alloc ?_ _)); refine blk_far ?_ NB323_328.out _; (with_reducible repeat (first | refine blk_drewN ?_ _ | refine blk_drew ?_ | refine blk_alloc ?_ _)); refine blk_far ?_ NB323_328.out _; (with_reducible repeat (first | refine blk_drewN ?_ _ | refine blk_drew ?_ | refine blk_alloc ?_ _)); exact BK323.out) hb); have n7_ := Aside0.mk (blk_below (g := gb328) (o := .cells #[.int .i64 t324, .slice Ao35 t325.length co35] 83 (0, 0)) (by (with_reducible repeat (first | refine blk_drewN ?_ _ | refine blk_drew ?_ | refine blk_alloc ?_ _)); refine blk_put (cs := #[.int .i64 t324, .slice none 0 0]) ?_ 1 _ rfl; (with_reducible repeat (first | refine blk_drewN ?_ _ | refine blk_drew ?_ | refine blk_alloc ?_ _)); refine blk_put (cs := #[.int .i64 0, .slice none 0 0]) ?_ 0 _ rfl; (with_reducible repeat (first | refine blk_drewN ?_ _ | refine blk_drew ?_ | refine blk_alloc ?_ _)); exact BK328.out) hb); have n8_ := Aside0.mk (below_step bq hb); clear HO313; clear HO317; clear HO322; clear HO327; clear BK308; clear BK318; clear BK323; clear BK328; clear HB; have HO313 := n0_; have HO317 := n1_; have HO322 := n2_; have HO327 := n3_; have BK308 := n4_; have BK318 := n5_; have BK323 := n6_; have BK328 := n7_; have HB := n8_; clear n0_ n1_ n2_ n3_ n4_ n5_ n6_ n7_ n8_; (try clear hb); (try clear hb2); (try clear hk); (try clear hi)))
   (try simp only [Act.put, List.setIfInBounds_toArray, List.set_cons_zero, List.set_cons_succ])
   go_cut [] (fun wc => ∃ (kq : Nat), Aside0 (laws_FnExactShardsOf.j1 kq a0_0 l0_1 t314 t315 t319 t320 t324 t325 = some r) ∧ Aside0 (kq ≤ kj2) ∧ Aside0 (Kd.V (Kd.int .i64) 2 wc w.heap.size (fun k_ => some k_ ≠ ((.slice Ao28 t320.length co28) : Value).ownBlock ∧ some k_ ≠ ((.slice Ao35 t325.length co35) : Value).ownBlock ∧ k_ ≠ gb308 ∧ k_ ≠ gb318 ∧ k_ ≠ gb323 ∧ k_ ≠ gb328) (.slice Ao21 t315.length co21) t315) ∧ Aside0 (Kd.R k89 89 wc w.heap.size (fun _ => True) (.slice Ao28 t320.length co28) t320) ∧ Aside0 (Kd.R (Kd.int .i64) 2 wc w.heap.size (fun _ => True) (.slice Ao35 t325.length co35) t325) ∧ Aside0 (wc.heap[gb308]? = some (.cells #[.int .i64 a0_0, (.slice A0_1 l0_1.length c0_1)] 31 (0, 0))) ∧ Aside0 (wc.heap[gb318]? = some (.cells #[.int .i64 t314, (.slice Ao21 t315.length co21)] 83 (0, 0))) ∧ Aside0 (wc.heap[gb323]? = some (.cells #[.int .i64 t319, (.slice Ao28 t320.length co28)] 36 (0, 0))) ∧ Aside0 (wc.heap[gb328]? = some (.cells #[.int .i64 t324, (.slice Ao35 t325.length co35)] 83 (0, 0))) ∧ Aside0 (Below w.heap.size w wc))
   case first =>
    have H := HC13.out
    clear HC13
    by_cases c38 : t329 = true
    ·subst c38
     have H1 : (laws_FnExactShardsOf.j1 kj2 a0_0 l0_1 t314 t315 t319 t320 t324 t325) = some r := by rw [if_pos rfl] at H; exact H
     clear H
     have H := H1
     clear H1
     have H' := Aside0.mk H
     clear H
     go_wp2
     go_meet
     case rel => exact ⟨_, H', ⟨by have := HJ2.out; first | omega | exact Nat.le_refl _⟩, ⟨by (with_reducible repeat (first | apply Kd.V_alloc | apply Kd.V_drewN | apply Kd.V_drew)); exact Kd.V_mono HO317.out (fun _ hk => ⟨hk.1.1.1.2, ⟨hk.1.2, ⟨hk.1.1.1.1.1.2, ⟨hk.1.1.1.1.2, ⟨hk.1.1.2, hk.2⟩⟩⟩⟩⟩)⟩, ⟨by (with_reducible repeat (first | apply Kd.R_alloc | apply Kd.R_drewN | apply Kd.R_drew)); exact Kd.R_mono HO322.out (fun _ hk => trivial)⟩, ⟨by (with_reducible repeat (first | apply Kd.R_alloc | apply Kd.R_drewN | apply Kd.R_drew)); exact HO327.out⟩, ⟨by (with_reducible repeat (first | refine blk_drewN ?_ _ | refine blk_drew ?_ | refine blk_alloc ?_ _)); exact BK308.out⟩, ⟨by (with_reducible repeat (first | refine blk_drewN ?_ _ | refine blk_drew ?_ | refine blk_alloc ?_ _)); exact BK318.out⟩, ⟨by (with_reducible repeat (first | refine blk_drewN ?_ _ | refine blk_drew ?_ | refine blk_alloc ?_ _)); exact BK323.out⟩, ⟨by (with_reducible repeat (first | refine blk_drewN ?_ _ | refine blk_drew ?_ | refine blk_alloc ?_ _)); exact BK328.out⟩, ⟨bq⟩⟩
    ·replace c38 := Bool.eq_false_iff.mpr c38
     subst c38
     have H1 : (some false) = some r := by rw [if_neg (show ¬ (false = true) by decide)] at H; exact H
     clear H
     have H := H1
     clear H1
     obtain rfl := Option.some.inj H
     go_wp2
     go_ret
     exact ⟨by first | rfl | (simp [errW_none, errW_some] <;> rfl) | (simp [*, errW_none, errW_some] <;> rfl), bq⟩
   case rest =>
    clear HC13
    (try clear c1); (try clear c2); (try clear p2); (try clear c3); (try clear c6); (try clear c7); (try clear c7b0); (try clear c14); (try clear c19); (try clear c20); (try clear c22); (try clear c25)
    (try clear c26); (try clear c31); (try clear c32); (try clear c33); (try clear c38); (try clear hcz14_0); (try clear hcz14_1); (try clear hcz20_0); (try clear hcz20_1); (try clear hcz22_0); (try clear hcz22_1)
    (try clear hcz27_0); (try clear hcz27_1); (try clear hcz34_0); (try clear hcz34_1); (try clear hcz36_0); (try clear hcz36_1); (try clear hcz5_0); (try clear hcz5_1); (try clear hfz14_0); (try clear hfz14_1)
    (try clear hfz20_0); (try clear hfz20_1); (try clear hfz22_0); (try clear hfz22_1); (try clear hfz27_0); (try clear hfz27_1); (try clear hfz34_0); (try clear hfz34_1); (try clear hfz36_0); (try clear hfz36_1)
    (try clear hfz5_0); (try clear hfz5_1); (try clear p2)
    obtain ⟨kq, HA, HJ12, HO_319001, HO_324001, HO_329001, BK308, BK318, BK323, BK328, HB⟩ := hcut
    cases kq with
    | zero => exact absurd HA.out (by simp [laws_FnExactShardsOf.j1])
    | succ kj12 =>
     have H := HA.out
     clear HA
     simp only [laws_FnExactShardsOf.j1] at H
     replace H := Option.bind_eq_some_iff.mp H
     obtain ⟨⟨t330, t331⟩, A390, H⟩ := H
     replace H : ((laws_eqContract.f kj12 t319 t320 t330 t331).bind fun t334 => (if t334 = true then (laws_FnExactShardsOf.j2 kj12 a0_0 l0_1 t314 t315 t319 t320 t324 t325) else (some false))) = some r := H
     have A39 := Aside0.mk A390
     clear A390
     replace H := Option.bind_eq_some_iff.mp H
     obtain ⟨t334, A400, H⟩ := H
     replace H : (if t334 = true then (laws_FnExactShardsOf.j2 kj12 a0_0 l0_1 t314 t315 t319 t320 t324 t325) else (some false)) = some r := H
     have A40 := Aside0.mk A400
     clear A400
     have HC41 := Aside0.mk H
     clear H
     try go_wp2
     have n0_ := Aside0.mk (Kd.V_drew HO_319001.out)
     have n1_ := Aside0.mk (Kd.R_drew HO_324001.out)
     have n2_ := Aside0.mk (Kd.R_drew HO_329001.out)
     have n3_ := Aside0.mk (blk_drew BK308.out)
     have n4_ := Aside0.mk (blk_drew BK318.out)
     have n5_ := Aside0.mk (blk_drew BK323.out)
     have n6_ := Aside0.mk (blk_drew BK328.out)
     have n7_ := Aside0.mk (below_drew1 HB.out)
     clear HO_319001
     clear HO_324001
     clear HO_329001
     clear BK308
     clear BK318
     clear BK323
     clear BK328
     clear HB
     have HO_319001 := n0_
     have HO_324001 := n1_
     have HO_329001 := n2_
     have BK308 := n3_
     have BK318 := n4_
     have BK323 := n5_
     have BK328 := n6_
     have HB := n7_
     clear n0_ n1_ n2_ n3_ n4_ n5_ n6_ n7_
     refine start_ (n := 5) (S := fun w' => w'.cell? ⟨gb323, 0, none⟩ = some (.int .i64 t319) ∧ w'.cell? ⟨gb323, 1, none⟩ = some (.slice Ao28 t320.length co28) ∧ w'.cell? ⟨gb308, 0, none⟩ = some (.int .i64 a0_0) ∧ w'.cell? ⟨gb308, 1, none⟩ = some (.slice A0_1 l0_1.length c0_1)) (ds := []) #[false, false, false, false, false] (by kernel_rfl) rfl rfl ⟨(blk_cell BK323.out 0).trans rfl, (blk_cell BK323.out 1).trans rfl, (blk_cell BK308.out 0).trans rfl, (blk_cell BK308.out 1).trans rfl⟩ (fun hHeld => ?_)
     generalize wc.drew = w42 at HO_319001 HO_324001 HO_329001 BK308 BK318 BK323 BK328 HB hHeld ⊢
     refine take_ (i := 0) (N := some 27) (v := ?_) (a' := ?_) #[true, false, false, false, false] rfl rfl (by kernel_rfl) (fun _ _ _ h => h) (Or.inl ⟨by rfl, ?_⟩) hHeld ?_ ?_
     rotate_left
     ·rintro w' ⟨s0, s1, s2, s3⟩
      go_simp
      with_reducible rfl
     rotate_left
     ·simp only [Act.put, List.setIfInBounds_toArray, List.set_cons_zero, List.set_cons_succ, i64_w, i32_w]
      rfl
     refine take_ (i := 1) (N := some 28) (v := ?_) (a' := ?_) #[true, true, false, false, false] rfl rfl (by kernel_rfl) (fun _ _ _ h => h) (Or.inl ⟨by rfl, ?_⟩) hHeld ?_ ?_
     rotate_left
     ·rintro w' ⟨s0, s1, s2, s3⟩
      go_simp
      with_reducible rfl
     rotate_left
     ·simp only [Act.put, List.setIfInBounds_toArray, List.set_cons_zero, List.set_cons_succ, i64_w, i32_w]
      rfl
     refine one_ (i := 2) (N := some 29) #[true, true, true, false, false] rfl rfl (by kernel_rfl) (by decide) (fun K hK => ?_)
     refine goes_ Try.func22 (by kernel_rfl) rfl #[.agg #[.int .i64 a0_0, .slice A0_1 l0_1.length c0_1]] (by rfl) rfl rfl (by (try simp only [List.map_toArray, List.map_cons, List.map_nil]); first | done | rfl | (simp only [List.length_drop, List.length_take]; rfl)) ?_
     with_reducible refine (laws_toContract.calls kj12 a0_0 _ _ l0_1 t330 t331 _ ?side1 ?side2 A39.out).mono ?_
     (case side1 => repeat (first | exact (Kd.C_below HR0_1.out HB.out) | (with_reducible refine Kd.C_alloc ?_ _) | (with_reducible refine Kd.C_drewN ?_ _) | (with_reducible refine Kd.C_drew ?_)))
     (case side2 => exact HC0_1.out)
     rintro e w43 ⟨v332, rfl, ho0, hb⟩
     refine ⟨_, rfl, ?_⟩
     have n0_ := Aside0.mk (Kd.V_elder' (by (with_reducible repeat (first | apply Kd.V_alloc | apply Kd.V_drewN | apply Kd.V_drew)); exact HO_319001.out) (Kd.R_base ho0) hb)
     have n1_ := Aside0.mk (Kd.R_elder' (by (with_reducible repeat (first | apply Kd.R_alloc | apply Kd.R_drewN | apply Kd.R_drew)); exact HO_324001.out) (Kd.R_base ho0) hb)
     have n2_ := Aside0.mk (Kd.R_below (by (with_reducible repeat (first | apply Kd.R_alloc | apply Kd.R_drewN | apply Kd.R_drew)); exact HO_329001.out) hb)
     have n3_ := Aside0.mk (Kd.R_lower (Kd.R_new' ho0 (Kd.R_lt (by (with_reducible repeat (first | apply Kd.R_alloc | apply Kd.R_drewN | apply Kd.R_drew)); exact HO_324001.out))) (below_size bq))
     have n4_ := Aside0.mk (blk_below (g := gb308) (o := .cells #[.int .i64 a0_0, .slice A0_1 l0_1.length c0_1] 31 (0, 0)) kq hb)
     have n5_ := Aside0.mk (blk_below (g := gb318) (o := .cells #[.int .i64 t314, .slice Ao21 t315.length co21] 83 (0, 0)) kq hb)
     have n6_ := Aside0.mk (blk_below (g := gb323) (o := .cells #[.int .i64 t319, .slice Ao28 t320.length co28] 36 (0, 0)) kq hb)
     have n7_ := Aside0.mk (blk_below (g := gb328) (o := .cells #[.int .i64 t324, .slice Ao35 t325.length co35] 83 (0, 0)) kq hb)
     have n8_ := Aside0.mk (below_step bq hb)
     clear HO_319001
     clear HO_324001
     clear HO_329001
     clear BK308
     clear BK318
     clear BK323
     clear BK328
     clear HB
     have HO_319001 := n0_
     have HO_324001 := n1_
     have HO_329001 := n2_
     have HO333 := n3_
     have BK308 := n4_
     have BK318 := n5_
     have BK323 := n6_
     have BK328 := n7_
     have HB := n8_
     clear n0_ n1_ n2_ n3_ n4_ n5_ n6_ n7_ n8_
     (try clear hb)
     (try clear hb2)
     (try clear hk)
     (try clear hi)
     (try clear ho0)
     obtain ⟨Ao44, co44, eo44⟩ := Kd.R_slice HO333.out
     (first | subst eo44 | (injection eo44 with f1_ f2_ f3_; have f4_ := f1_.symm; have f5_ := f3_.symm; clear f1_ f2_ f3_; subst f4_; subst f5_))
     refine hK.out _ _ ⟨(blk_cell BK323.out 0).trans rfl, (blk_cell BK323.out 1).trans rfl, (blk_cell BK308.out 0).trans rfl, (blk_cell BK308.out 1).trans rfl⟩ (fun hHeld => ?_)
     clear hK K
     refine norm_ (a' := ?_) ?_ ?_
     rotate_left
     ·show Act.put _ (some 29) _ = _
      simp only [Act.put, List.setIfInBounds_toArray, List.set_cons_zero, List.set_cons_succ, i64_w, i32_w]
      rfl
     refine one_ (i := 3) (N := some 30) #[true, true, true, true, false] rfl rfl (by kernel_rfl) (by decide) (fun K hK => ?_)
     refine goes_ Try.func24 (by kernel_rfl) rfl #[.agg #[.int .i64 t319, .slice Ao28 t320.length co28], .agg #[.int .i64 t330, .slice Ao44 t331.length co44]] (by rfl) rfl rfl (by (try simp only [List.map_toArray, List.map_cons, List.map_nil]); first | done | rfl | (simp only [List.length_drop, List.length_take]; rfl)) ?_
     with_reducible refine (laws_eqContract.calls kj12 t319 _ _ t320 t330 _ _ t331 t334 _ ?side1 ?side2 ?side3 ?side4 A40.out).mono ?_
     (case side1 => repeat (first | exact (Kd.R_reads' HO_324001.out).2.2 | (with_reducible refine Kd.C_alloc ?_ _) | (with_reducible refine Kd.C_drewN ?_ _) | (with_reducible refine Kd.C_drew ?_)))
     (case side2 => exact (Kd.R_reads' HO_324001.out).2.1)
     (case side3 => repeat (first | exact (Kd.R_reads' HO333.out).2.2 | (with_reducible refine Kd.C_alloc ?_ _) | (with_reducible refine Kd.C_drewN ?_ _) | (with_reducible refine Kd.C_drew ?_)))
     (case side4 => exact (Kd.R_reads' HO333.out).2.1)
     rintro e w45 ⟨rfl, hb⟩
     refine ⟨_, rfl, ?_⟩
     have n0_ := Aside0.mk (Kd.V_below (by (with_reducible repeat (first | apply Kd.V_alloc | apply Kd.V_drewN | apply Kd.V_drew)); exact HO_319001.out) hb)
     have n1_ := Aside0.mk (Kd.R_below (by (with_reducible repeat (first | apply Kd.R_alloc | apply Kd.R_drewN | apply Kd.R_drew)); exact HO_324001.out) hb)
     have n2_ := Aside0.mk (Kd.R_below (by (with_reducible repeat (first | apply Kd.R_alloc | apply Kd.R_drewN | apply Kd.R_drew)); exact HO_329001.out) hb)
     have n3_ := Aside0.mk (Kd.R_below (by (with_reducible repeat (first | apply Kd.R_alloc | apply Kd.R_drewN | apply Kd.R_drew)); exact HO333.out) hb)
     have n4_ := Aside0.mk (blk_below (g := gb308) (o := .cells #[.int .i64 a0_0, .slice A0_1 l0_1.length c0_1] 31 (0, 0)) kq hb)
     have n5_ := Aside0.mk (blk_below (g := gb318) (o := .cells #[.int .i64 t314, .slice Ao21 t315.length co21] 83 (0, 0)) kq hb)
     have n6_ := Aside0.mk (blk_below (g := gb323) (o := .cells #[.int .i64 t319, .slice Ao28 t320.length co28] 36 (0, 0)) kq hb)
     have n7_ := Aside0.mk (blk_below (g := gb328) (o := .cells #[.int .i64 t324, .slice Ao35 t325.length co35] 83 (0, 0)) kq hb)
     have n8_ := Aside0.mk (below_step bq hb)
     clear HO_319001
     clear HO_324001
     clear HO_329001
     clear HO333
     clear BK308
     clear BK318
     clear BK323
     clear BK328
     clear HB
     have HO_319001 := n0_
     have HO_324001 := n1_
     have HO_329001 := n2_
     have HO333 := n3_
     have BK308 := n4_
     have BK318 := n5_
     have BK323 := n6_
     have BK328 := n7_
     have HB := n8_
     clear n0_ n1_ n2_ n3_ n4_ n5_ n6_ n7_ n8_
     (try clear hb)
     (try clear hb2)
     (try clear hk)
     (try clear hi)
     refine hK.out _ _ ⟨(blk_cell BK323.out 0).trans rfl, (blk_cell BK323.out 1).trans rfl, (blk_cell BK308.out 0).trans rfl, (blk_cell BK308.out 1).trans rfl⟩ (fun hHeld => ?_)
     clear hK K
     refine norm_ (a' := ?_) ?_ ?_
     rotate_left
     ·show Act.put _ (some 30) _ = _
      simp only [Act.put, List.setIfInBounds_toArray, List.set_cons_zero, List.set_cons_succ, i64_w, i32_w]
      rfl
     refine pure_ (i := 4) (N := some 31) (v := ?_) (a' := ?_) #[true, true, true, true, true] rfl rfl (by kernel_rfl) (fun _ _ _ h => h) (Or.inl ⟨by rfl, ?_⟩) ?_ ?_
     rotate_left
     ·intro w'
      go_simp
      with_reducible rfl
     rotate_left
     ·simp only [Act.put, List.setIfInBounds_toArray, List.set_cons_zero, List.set_cons_succ, i64_w, i32_w]
      rfl
     refine done_ (by kernel_rfl) ?_
     go_upto_if 31 with (fail)
     go_cut [] (fun wc => ∃ (kq : Nat), Aside0 (laws_FnExactShardsOf.j2 kq a0_0 l0_1 t314 t315 t319 t320 t324 t325 = some r) ∧ Aside0 (kq ≤ kj12) ∧ Aside0 (Kd.V (Kd.int .i64) 2 wc w.heap.size (fun k_ => some k_ ≠ ((.slice Ao28 t320.length co28) : Value).ownBlock ∧ some k_ ≠ ((.slice Ao35 t325.length co35) : Value).ownBlock ∧ k_ ≠ gb308 ∧ k_ ≠ gb318 ∧ k_ ≠ gb323 ∧ k_ ≠ gb328) (.slice Ao21 t315.length co21) t315) ∧ Aside0 (Kd.R k89 89 wc w.heap.size (fun _ => True) (.slice Ao28 t320.length co28) t320) ∧ Aside0 (Kd.R (Kd.int .i64) 2 wc w.heap.size (fun _ => True) (.slice Ao35 t325.length co35) t325) ∧ Aside0 (wc.heap[gb308]? = some (.cells #[.int .i64 a0_0, (.slice A0_1 l0_1.length c0_1)] 31 (0, 0))) ∧ Aside0 (wc.heap[gb318]? = some (.cells #[.int .i64 t314, (.slice Ao21 t315.length co21)] 83 (0, 0))) ∧ Aside0 (wc.heap[gb323]? = some (.cells #[.int .i64 t319, (.slice Ao28 t320.length co28)] 36 (0, 0))) ∧ Aside0 (wc.heap[gb328]? = some (.cells #[.int .i64 t324, (.slice Ao35 t325.length co35)] 83 (0, 0))) ∧ Aside0 (Below w.heap.size w wc))
     case first =>
      have H := HC41.out
      clear HC41
      by_cases c46 : t334 = true
      ·subst c46
       have H1 : (laws_FnExactShardsOf.j2 kj12 a0_0 l0_1 t314 t315 t319 t320 t324 t325) = some r := by rw [if_pos rfl] at H; exact H
       clear H
       have H := H1
       clear H1
       have H' := Aside0.mk H
       clear H
       go_wp2
       go_meet
       case rel => exact ⟨_, H', ⟨by have := HJ2.out; have := HJ12.out; first | omega | exact Nat.le_refl _⟩, ⟨by (with_reducible repeat (first | apply Kd.V_alloc | apply Kd.V_drewN | apply Kd.V_drew)); exact Kd.V_mono HO_319001.out (fun _ hk => ⟨hk.1.1, ⟨hk.1.2.1, ⟨hk.1.2.2.1, ⟨hk.1.2.2.2.1, ⟨hk.1.2.2.2.2.1, hk.1.2.2.2.2.2⟩⟩⟩⟩⟩)⟩, ⟨by (with_reducible repeat (first | apply Kd.R_alloc | apply Kd.R_drewN | apply Kd.R_drew)); exact Kd.R_mono HO_324001.out (fun _ hk => trivial)⟩, ⟨by (with_reducible repeat (first | apply Kd.R_alloc | apply Kd.R_drewN | apply Kd.R_drew)); exact HO_329001.out⟩, ⟨by (with_reducible repeat (first | refine blk_drewN ?_ _ | refine blk_drew ?_ | refine blk_alloc ?_ _)); exact BK308.out⟩, ⟨by (with_reducible repeat (first | refine blk_drewN ?_ _ | refine blk_drew ?_ | refine blk_alloc ?_ _)); exact BK318.out⟩, ⟨by (with_reducible repeat (first | refine blk_drewN ?_ _ | refine blk_drew ?_ | refine blk_alloc ?_ _)); exact BK323.out⟩, ⟨by (with_reducible repeat (first | refine blk_drewN ?_ _ | refine blk_drew ?_ | refine blk_alloc ?_ _)); exact BK328.out⟩, ⟨bq⟩⟩
      ·replace c46 := Bool.eq_false_iff.mpr c46
       subst c46
       have H1 : (some false) = some r := by rw [if_neg (show ¬ (false = true) by decide)] at H; exact H
       clear H
       have H := H1
       clear H1
       obtain rfl := Option.some.inj H
       go_wp2
       go_ret
       exact ⟨by first | rfl | (simp [errW_none, errW_some] <;> rfl) | (simp [*, errW_none, errW_some] <;> rfl), bq⟩
     case rest =>
      clear HC41
      (try clear c1); (try clear c2); (try clear p2); (try clear c3); (try clear c4); (try clear c6); (try clear c7); (try clear c7b0); (try clear c14); (try clear c19); (try clear c20); (try clear c22)
      (try clear c24); (try clear c25); (try clear c26); (try clear c31); (try clear c32); (try clear c33); (try clear c38); (try clear c46); (try clear hcz14_0); (try clear hcz14_1); (try clear hcz20_0)
      (try clear hcz20_1); (try clear hcz22_0); (try clear hcz22_1); (try clear hcz27_0); (try clear hcz27_1); (try clear hcz34_0); (try clear hcz34_1); (try clear hcz36_0); (try clear hcz36_1); (try clear hcz5_0)
      (try clear hcz5_1); (try clear hfz14_0); (try clear hfz14_1); (try clear hfz20_0); (try clear hfz20_1); (try clear hfz22_0); (try clear hfz22_1); (try clear hfz27_0); (try clear hfz27_1); (try clear hfz34_0)
      (try clear hfz34_1); (try clear hfz36_0); (try clear hfz36_1); (try clear hfz5_0); (try clear hfz5_1); (try clear p2)
      obtain ⟨kq, HA, HJ40, HO_319001, HO_324001, HO_329001, BK308, BK318, BK323, BK328, HB⟩ := hcut
      cases kq with
      | zero => exact absurd HA.out (by simp [laws_FnExactShardsOf.j2])
      | succ kj40 =>
       have H := HA.out
       clear HA
       simp only [laws_FnExactShardsOf.j2] at H
       replace H := Option.bind_eq_some_iff.mp H
       obtain ⟨⟨t335, t336⟩, A470, H⟩ := H
       replace H : (if t335 < 0 then (laws_FnExactShardsOf.j3 kj40 true a0_0 l0_1 t314 t315 t324 t325) else ((laws_eqIntsResult.f kj40 t324 t325 t314 t315).bind fun t337 => (laws_FnExactShardsOf.j3 kj40 (!t337) a0_0 l0_1 t314 t315 t324 t325))) = some r := H
       have A47 := Aside0.mk A470
       clear A470
       have HC48 := Aside0.mk H
       clear H
       have hnb49 := NB323_308.out
       have hnc49 := NB308_323.out
       have hnb50 := NB323_318.out
       have hnc50 := NB318_323.out
       have hnb51 := NB323_328.out
       have hnc51 := NB328_323.out
       have hcz52_0 : wc.cell? ⟨gb323, 0, none⟩ = some (.int .i64 t319) := (blk_cell BK323.out 0).trans rfl
       have hcz52_1 : wc.cell? ⟨gb323, 1, none⟩ = some (.slice Ao28 t320.length co28) := (blk_cell BK323.out 1).trans rfl
       have hfz52_0 := blk_frozen BK323.out 0
       have hfz52_1 := blk_frozen BK323.out 1
       go_upto_region 14 with (first | ((with_reducible refine gate_callee (f := 38) rfl ?_); refine goesLq (some 34) rfl rfl Try.func38 (by kernel_rfl) rfl #[.agg #[.int .i64 t319, .slice Ao28 t320.length co28], .int .i64 1] rfl ?_; (with_reducible refine (laws_markContract.calls kj40 t319 (fun k_ => some k_ = (.slice Ao28 t320.length co28 : Value).ownBlock) (.slice Ao28 t320.length co28) t320 1 t335 t336 w _ ?side1 ?side2 A47.out).mono ?_); (case side1 => repeat (first | (with_reducible first | exact HB.out | apply below_alloc | apply pw_below_drewN | apply below_drew1 | refine below_set ?_ GE308.out | refine below_set ?_ GE318.out | refine below_set ?_ GE323.out | refine below_set ?_ GE328.out) | exact HB.out)); (case side2 => exact Kd.R_tight rfl HO_324001.out); rintro e w53 ⟨rfl, hy0, hb, hkp⟩; refine ⟨_, rfl, ?_⟩; have n0_ := Aside0.mk (Kd.V_mono (ok' := fun k_ => some k_ ≠ (.slice Ao28 t320.length co28 : Value).ownBlock ∧ some k_ ≠ (.slice Ao35 t325.length co35 : Value).ownBlock ∧ k_ ≠ gb308 ∧ k_ ≠ gb318 ∧ k_ ≠ gb323 ∧ k_ ≠ gb328) (Kd.V_keptB (HO_319001.out) hkp (fun k_ hk_ hs_ => (hk_.1) hs_)) (fun k_ hk_ => ⟨hk_.1.1, hk_.1.2.1, hk_.1.2.2.1, hk_.1.2.2.2.1, hk_.1.2.2.2.2.1, hk_.1.2.2.2.2.2⟩)); have n1_ := Aside0.mk (Kd.R_reok rfl hy0 (fun k_ e_ => HO_324001.out.1 k_ e_)); have n2_ := Aside0.mk (Kd.R_mono (ok' := fun k_ => True) (Kd.R_keptB ((Kd.R_apart' HO_329001.out (Kd.R_typed HO_324001.out) (by decide))) hkp (fun k_ hk_ hs_ => (hk_.2) hs_)) (fun k_ hk_ => trivial)); have n3_ := Aside0.mk (blk_kept kq hkp (fun hs_ => (fun e_ => (Kd.R_ne HO_324001.out BK308.out (by decide)) e_) hs_)); have n4_ := Aside0.mk (blk_kept kq hkp (fun hs_ => (fun e_ => (Kd.R_ne HO_324001.out BK318.out (by decide)) e_) hs_)); have n5_ := Aside0.mk (blk_kept kq hkp (fun hs_ => (fun e_ => (Kd.R_ne HO_324001.out BK323.out (by decide)) e_) hs_)); have n6_ := Aside0.mk (blk_kept kq hkp (fun hs_ => (fun e_ => (Kd.R_ne HO_324001.out BK328.out (by decide)) e_) hs_)); have n7_ := Aside0.mk (hb); clear HO_319001; clear HO_324001; clear HO_329001; clear BK308; clear BK318; clear BK323; clear BK328; clear HB; have HO_319001 := n0_; have HO_324001 := n1_; have HO_329001 := n2_; have BK308 := n3_; have BK318 := n4_; have BK323 := n5_; have BK328 := n6_; have HB := n7_; clear n0_ n1_ n2_ n3_ n4_ n5_ n6_ n7_; (try clear hb); (try clear hkp); (try clear hy0)))
       (try simp only [Act.put, List.setIfInBounds_toArray, List.set_cons_zero, List.set_cons_succ])
       go_cut [42] (fun v42 wc => ∃ (kq : Nat) (x42_47 : Bool), v42 = .bool x42_47 ∧ Aside0 (laws_FnExactShardsOf.j3 kq x42_47 a0_0 l0_1 t314 t315 t324 t325 = some r) ∧ Aside0 (kq ≤ kj40) ∧ Aside0 (Kd.V (Kd.int .i64) 2 wc w.heap.size (fun k_ => some k_ ≠ ((.slice Ao28 t320.length co28) : Value).ownBlock ∧ some k_ ≠ ((.slice Ao35 t325.length co35) : Value).ownBlock ∧ k_ ≠ gb308 ∧ k_ ≠ gb318 ∧ k_ ≠ gb323 ∧ k_ ≠ gb328) (.slice Ao21 t315.length co21) t315) ∧ Aside0 (Kd.R k89 89 wc w.heap.size (fun _ => True) (.slice Ao28 t320.length co28) t336) ∧ Aside0 (Kd.R (Kd.int .i64) 2 wc w.heap.size (fun _ => True) (.slice Ao35 t325.length co35) t325) ∧ Aside0 (wc.heap[gb308]? = some (.cells #[.int .i64 a0_0, (.slice A0_1 l0_1.length c0_1)] 31 (0, 0))) ∧ Aside0 (wc.heap[gb318]? = some (.cells #[.int .i64 t314, (.slice Ao21 t315.length co21)] 83 (0, 0))) ∧ Aside0 (wc.heap[gb323]? = some (.cells #[.int .i64 t319, (.slice Ao28 t320.length co28)] 36 (0, 0))) ∧ Aside0 (wc.heap[gb328]? = some (.cells #[.int .i64 t324, (.slice Ao35 t325.length co35)] 83 (0, 0))) ∧ Aside0 (Below w.heap.size w wc))
       case first =>
        have H := HC48.out
        clear HC48
        by_cases c54 : t335 < 0
        ·rw [if_pos c54] at H
         have c54b0 : decide (t335 < 0) = true := decide_eq_true c54
         clear c54
         (first | rw [c54b0] | (simp only [i64_w, i32_w]; rw [c54b0]) | skip)
         have H' := Aside0.mk H
         clear H
         go_wp2
         go_meet
         case rel => exact ⟨_, (true), (by first | rfl | (simp; done) | (simp [*]; done)), H', ⟨by have := HJ2.out; have := HJ12.out; have := HJ40.out; first | omega | exact Nat.le_refl _⟩, ⟨by (with_reducible repeat (first | apply Kd.V_alloc | apply Kd.V_drewN | apply Kd.V_drew)); exact HO_319001.out⟩, ⟨by (with_reducible repeat (first | apply Kd.R_alloc | apply Kd.R_drewN | apply Kd.R_drew)); exact HO_324001.out⟩, ⟨by (with_reducible repeat (first | apply Kd.R_alloc | apply Kd.R_drewN | apply Kd.R_drew)); exact HO_329001.out⟩, ⟨by (with_reducible repeat (first | refine blk_drewN ?_ _ | refine blk_drew ?_ | refine blk_alloc ?_ _)); exact BK308.out⟩, ⟨by (with_reducible repeat (first | refine blk_drewN ?_ _ | refine blk_drew ?_ | refine blk_alloc ?_ _)); exact BK318.out⟩, ⟨by (with_reducible repeat (first | refine blk_drewN ?_ _ | refine blk_drew ?_ | refine blk_alloc ?_ _)); exact BK323.out⟩, ⟨by (with_reducible repeat (first | refine blk_drewN ?_ _ | refine blk_drew ?_ | refine blk_alloc ?_ _)); exact BK328.out⟩, ⟨bq⟩⟩
        ·rw [if_neg c54] at H
         have c54b0 : decide (t335 < 0) = false := decide_eq_false c54
         clear c54
         (first | rw [c54b0] | (simp only [i64_w, i32_w]; rw [c54b0]) | skip)
         replace H := Option.bind_eq_some_iff.mp H
         obtain ⟨t337, A550, H⟩ := H
         replace H : (laws_FnExactShardsOf.j3 kj40 (!t337) a0_0 l0_1 t314 t315 t324 t325) = some r := H
         have A55 := Aside0.mk A550
         clear A550
         have H' := Aside0.mk H
         clear H
         have hnb56 := NB328_308.out
         have hnc56 := NB308_328.out
         have hnb57 := NB328_318.out
         have hnc57 := NB318_328.out
         have hnb58 := NB328_323.out
         have hnc58 := NB323_328.out
         have hcz59_0 : w53.cell? ⟨gb328, 0, none⟩ = some (.int .i64 t324) := (blk_cell BK328.out 0).trans rfl
         have hcz59_1 : w53.cell? ⟨gb328, 1, none⟩ = some (.slice Ao35 t325.length co35) := (blk_cell BK328.out 1).trans rfl
         have hfz59_0 := blk_frozen BK328.out 0
         have hfz59_1 := blk_frozen BK328.out 1
         have hnb60 := NB318_308.out
         have hnc60 := NB308_318.out
         have hnb61 := NB318_323.out
         have hnc61 := NB323_318.out
         have hcz62_0 : w53.cell? ⟨gb318, 0, none⟩ = some (.int .i64 t314) := (blk_cell BK318.out 0).trans rfl
         have hcz62_1 : w53.cell? ⟨gb318, 1, none⟩ = some (.slice Ao21 t315.length co21) := (blk_cell BK318.out 1).trans rfl
         have hfz62_0 := blk_frozen BK318.out 0
         have hfz62_1 := blk_frozen BK318.out 1
         go_wp2_with (first | (go_at_call 62; (with_reducible refine (laws_eqIntsResult.calls kj40 t324 _ _ t325 t314 _ _ t315 t337 _ ?side1 ?side2 ?side3 ?side4 A55.out).mono ?_); (case side1 => repeat (first | exact (Kd.R_reads' HO_329001.out).2.2 | (with_reducible refine Kd.C_alloc ?_ _) | (with_reducible refine Kd.C_drewN ?_ _) | (with_reducible refine Kd.C_drew ?_))); (case side2 => exact (Kd.R_reads' HO_329001.out).2.1); (case side3 => repeat (first | exact (Kd.V_reads' HO_319001.out).2.2 | (with_reducible refine Kd.C_alloc ?_ _) | (with_reducible refine Kd.C_drewN ?_ _) | (with_reducible refine Kd.C_drew ?_))); (case side4 => exact (Kd.V_reads' HO_319001.out).2.1); rintro e w63 ⟨rfl, hb⟩; have n0_ := Aside0.mk (Kd.V_below (by (with_reducible repeat (first | apply Kd.V_alloc | apply Kd.V_drewN | apply Kd.V_drew)); exact HO_319001.out) hb); have n1_ := Aside0.mk (Kd.R_below (by (with_reducible repeat (first | apply Kd.R_alloc | apply Kd.R_drewN | apply Kd.R_drew)); exact HO_324001.out) hb); have n2_ := Aside0.mk (Kd.R_below (by (with_reducible repeat (first | apply Kd.R_alloc | apply Kd.R_drewN | apply Kd.R_drew)); exact HO_329001.out) hb); have n3_ := Aside0.mk (blk_below (g := gb308) (o := .cells #[.int .i64 a0_0, .slice A0_1 l0_1.length c0_1] 31 (0, 0)) kq hb); have n4_ := Aside0.mk (blk_below (g := gb318) (o := .cells #[.int .i64 t314, .slice Ao21 t315.length co21] 83 (0, 0)) kq hb); have n5_ := Aside0.mk (blk_below (g := gb323) (o := .cells #[.int .i64 t319, .slice Ao28 t320.length co28] 36 (0, 0)) kq hb); have n6_ := Aside0.mk (blk_below (g := gb328) (o := .cells #[.int .i64 t324, .slice Ao35 t325.length co35] 83 (0, 0)) kq hb); have n7_ := Aside0.mk (below_step bq hb); clear HO_319001; clear HO_324001; clear HO_329001; clear BK308; clear BK318; clear BK323; clear BK328; clear HB; have HO_319001 := n0_; have HO_324001 := n1_; have HO_329001 := n2_; have BK308 := n3_; have BK318 := n4_; have BK323 := n5_; have BK328 := n6_; have HB := n7_; clear n0_ n1_ n2_ n3_ n4_ n5_ n6_ n7_; (try clear hb); (try clear hb2); (try clear hk); (try clear hi)))
         go_meet
         case rel => exact ⟨_, (!t337), (by first | rfl | (simp; done) | (simp [*]; done)), H', ⟨by have := HJ2.out; have := HJ12.out; have := HJ40.out; first | omega | exact Nat.le_refl _⟩, ⟨by (with_reducible repeat (first | apply Kd.V_alloc | apply Kd.V_drewN | apply Kd.V_drew)); exact HO_319001.out⟩, ⟨by (with_reducible repeat (first | apply Kd.R_alloc | apply Kd.R_drewN | apply Kd.R_drew)); exact HO_324001.out⟩, ⟨by (with_reducible repeat (first | apply Kd.R_alloc | apply Kd.R_drewN | apply Kd.R_drew)); exact HO_329001.out⟩, ⟨by (with_reducible repeat (first | refine blk_drewN ?_ _ | refine blk_drew ?_ | refine blk_alloc ?_ _)); exact BK308.out⟩, ⟨by (with_reducible repeat (first | refine blk_drewN ?_ _ | refine blk_drew ?_ | refine blk_alloc ?_ _)); exact BK318.out⟩, ⟨by (with_reducible repeat (first | refine blk_drewN ?_ _ | refine blk_drew ?_ | refine blk_alloc ?_ _)); exact BK323.out⟩, ⟨by (with_reducible repeat (first | refine blk_drewN ?_ _ | refine blk_drew ?_ | refine blk_alloc ?_ _)); exact BK328.out⟩, ⟨bq⟩⟩
       case rest =>
        clear HC48
        (try clear c1); (try clear c2); (try clear p2); (try clear c3); (try clear c4); (try clear c5); (try clear c6); (try clear c7); (try clear c7b0); (try clear c14); (try clear c19); (try clear c20)
        (try clear c22); (try clear c24); (try clear c25); (try clear c26); (try clear c31); (try clear c32); (try clear c33); (try clear c38); (try clear c46); (try clear c49); (try clear c50); (try clear c51)
        (try clear c54); (try clear c54b0); (try clear c56); (try clear c57); (try clear c58); (try clear c60); (try clear c61); (try clear c62); (try clear hcz14_0); (try clear hcz14_1); (try clear hcz20_0)
        (try clear hcz20_1); (try clear hcz22_0); (try clear hcz22_1); (try clear hcz27_0); (try clear hcz27_1); (try clear hcz34_0); (try clear hcz34_1); (try clear hcz36_0); (try clear hcz36_1); (try clear hcz52_0)
        (try clear hcz52_1); (try clear hcz59_0); (try clear hcz59_1); (try clear hcz5_0); (try clear hcz5_1); (try clear hcz62_0); (try clear hcz62_1); (try clear hfz14_0); (try clear hfz14_1); (try clear hfz20_0)
        (try clear hfz20_1); (try clear hfz22_0); (try clear hfz22_1); (try clear hfz27_0); (try clear hfz27_1); (try clear hfz34_0); (try clear hfz34_1); (try clear hfz36_0); (try clear hfz36_1); (try clear hfz52_0)
        (try clear hfz52_1); (try clear hfz59_0); (try clear hfz59_1); (try clear hfz5_0); (try clear hfz5_1); (try clear hfz62_0); (try clear hfz62_1); (try clear p2)
        obtain ⟨kq, x42_47, rfl, HA, HJ47, HO_319001, HO_324001, HO_329001, BK308, BK318, BK323, BK328, HB⟩ := hcut
        have hl324001_47 := (Kd.R_reads' HO_324001.out).1
        rw [hl324001_47] at HO_324001
        (try simp only [hl324001_47])
        (try simp only [hl324001_47] at BK308)
        (try simp only [hl324001_47] at BK318)
        (try simp only [hl324001_47] at BK323)
        (try simp only [hl324001_47] at BK328)
        (try simp only [hl324001_47] at HO_319001)
        (try simp only [hl324001_47] at HO_329001)
        cases kq with
        | zero => exact absurd HA.out (by simp [laws_FnExactShardsOf.j3])
        | succ kj47 =>
         have H := HA.out
         clear HA
         simp only [laws_FnExactShardsOf.j3] at H
         have HC64 := Aside0.mk H
         clear H
         go_upto_if 42 with (fail)
         go_cut [] (fun wc => ∃ (kq : Nat), Aside0 (laws_FnExactShardsOf.j4 kq a0_0 l0_1 t314 t315 t324 t325 = some r) ∧ Aside0 (kq ≤ kj47) ∧ Aside0 (Kd.V (Kd.int .i64) 2 wc w.heap.size (fun k_ => some k_ ≠ ((.slice Ao28 t336.length co28) : Value).ownBlock ∧ some k_ ≠ ((.slice Ao35 t325.length co35) : Value).ownBlock ∧ k_ ≠ gb308 ∧ k_ ≠ gb318 ∧ k_ ≠ gb323 ∧ k_ ≠ gb328) (.slice Ao21 t315.length co21) t315) ∧ Aside0 (Kd.R k89 89 wc w.heap.size (fun _ => True) (.slice Ao28 t336.length co28) t336) ∧ Aside0 (Kd.R (Kd.int .i64) 2 wc w.heap.size (fun _ => True) (.slice Ao35 t325.length co35) t325) ∧ Aside0 (wc.heap[gb308]? = some (.cells #[.int .i64 a0_0, (.slice A0_1 l0_1.length c0_1)] 31 (0, 0))) ∧ Aside0 (wc.heap[gb318]? = some (.cells #[.int .i64 t314, (.slice Ao21 t315.length co21)] 83 (0, 0))) ∧ Aside0 (wc.heap[gb323]? = some (.cells #[.int .i64 t319, (.slice Ao28 t336.length co28)] 36 (0, 0))) ∧ Aside0 (wc.heap[gb328]? = some (.cells #[.int .i64 t324, (.slice Ao35 t325.length co35)] 83 (0, 0))) ∧ Aside0 (Below w.heap.size w wc))
         case first =>
          have H := HC64.out
          clear HC64
          by_cases c65 : x42_47 = true
          ·subst c65
           have H1 : (some false) = some r := by rw [if_pos rfl] at H; exact H
           clear H
           have H := H1
           clear H1
           obtain rfl := Option.some.inj H
           go_wp2
           go_ret
           exact ⟨by first | rfl | (simp [errW_none, errW_some] <;> rfl) | (simp [*, errW_none, errW_some] <;> rfl), bq⟩
          ·replace c65 := Bool.eq_false_iff.mpr c65
           subst c65
           have H1 : (laws_FnExactShardsOf.j4 kj47 a0_0 l0_1 t314 t315 t324 t325) = some r := by rw [if_neg (show ¬ (false = true) by decide)] at H; exact H
           clear H
           have H := H1
           clear H1
           have H' := Aside0.mk H
           clear H
           go_wp2
           go_meet
           case rel => exact ⟨_, H', ⟨by have := HJ2.out; have := HJ12.out; have := HJ40.out; have := HJ47.out; first | omega | exact Nat.le_refl _⟩, ⟨by (try simp only [hl324001_47]); (with_reducible repeat (first | apply Kd.V_alloc | apply Kd.V_drewN | apply Kd.V_drew)); exact HO_319001.out⟩, ⟨by (try simp only [hl324001_47]); (with_reducible repeat (first | apply Kd.R_alloc | apply Kd.R_drewN | apply Kd.R_drew)); exact HO_324001.out⟩, ⟨by (try simp only [hl324001_47]); (with_reducible repeat (first | apply Kd.R_alloc | apply Kd.R_drewN | apply Kd.R_drew)); exact HO_329001.out⟩, ⟨by (try simp only [hl324001_47]); (with_reducible repeat (first | refine blk_drewN ?_ _ | refine blk_drew ?_ | refine blk_alloc ?_ _)); exact BK308.out⟩, ⟨by (try simp only [hl324001_47]); (with_reducible repeat (first | refine blk_drewN ?_ _ | refine blk_drew ?_ | refine blk_alloc ?_ _)); exact BK318.out⟩, ⟨by (try simp only [hl324001_47]); (with_reducible repeat (first | refine blk_drewN ?_ _ | refine blk_drew ?_ | refine blk_alloc ?_ _)); exact BK323.out⟩, ⟨by (try simp only [hl324001_47]); (with_reducible repeat (first | refine blk_drewN ?_ _ | refine blk_drew ?_ | refine blk_alloc ?_ _)); exact BK328.out⟩, ⟨bq⟩⟩
         case rest =>
          clear HC64
          (try clear c1); (try clear c2); (try clear p2); (try clear c3); (try clear c4); (try clear c5); (try clear c6); (try clear c7); (try clear c7b0); (try clear c14); (try clear c19); (try clear c20)
          (try clear c22); (try clear c24); (try clear c25); (try clear c26); (try clear c31); (try clear c32); (try clear c33); (try clear c38); (try clear c46); (try clear c49); (try clear c50); (try clear c51)
          (try clear c54); (try clear c54b0); (try clear c56); (try clear c57); (try clear c58); (try clear c60); (try clear c61); (try clear c62); (try clear c65); (try clear hcz14_0); (try clear hcz14_1)
          (try clear hcz20_0); (try clear hcz20_1); (try clear hcz22_0); (try clear hcz22_1); (try clear hcz27_0); (try clear hcz27_1); (try clear hcz34_0); (try clear hcz34_1); (try clear hcz36_0); (try clear hcz36_1)
          (try clear hcz52_0); (try clear hcz52_1); (try clear hcz59_0); (try clear hcz59_1); (try clear hcz5_0); (try clear hcz5_1); (try clear hcz62_0); (try clear hcz62_1); (try clear hfz14_0); (try clear hfz14_1)
          (try clear hfz20_0); (try clear hfz20_1); (try clear hfz22_0); (try clear hfz22_1); (try clear hfz27_0); (try clear hfz27_1); (try clear hfz34_0); (try clear hfz34_1); (try clear hfz36_0); (try clear hfz36_1)
          (try clear hfz52_0); (try clear hfz52_1); (try clear hfz59_0); (try clear hfz59_1); (try clear hfz5_0); (try clear hfz5_1); (try clear hfz62_0); (try clear hfz62_1); (try clear p2)
          obtain ⟨kq, HA, HJ63, HO_319001, HO_324001, HO_329001, BK308, BK318, BK323, BK328, HB⟩ := hcut
          cases kq with
          | zero => exact absurd HA.out (by simp [laws_FnExactShardsOf.j4])
          | succ kj63 =>
           have H := HA.out
           clear HA
           simp only [laws_FnExactShardsOf.j4] at H
           replace H := Option.bind_eq_some_iff.mp H
           obtain ⟨⟨t338, t339⟩, A660, H⟩ := H
           replace H : ((laws_heldIntsResult.f kj63 t324 t339 1).bind fun t340 => (if t340 < 0 then (some false) else (laws_FnExactShardsOf.j5 kj63 t338 t340 a0_0 l0_1 t314 t315 t324 t339))) = some r := H
           have A66 := Aside0.mk A660
           clear A660
           replace H := Option.bind_eq_some_iff.mp H
           obtain ⟨t340, A670, H⟩ := H
           replace H : (if t340 < 0 then (some false) else (laws_FnExactShardsOf.j5 kj63 t338 t340 a0_0 l0_1 t314 t315 t324 t339)) = some r := H
           have A67 := Aside0.mk A670
           clear A670
           have HC68 := Aside0.mk H
           clear H
           have hnb69 := NB328_308.out
           have hnc69 := NB308_328.out
           have hnb70 := NB328_318.out
           have hnc70 := NB318_328.out
           have hnb71 := NB328_323.out
           have hnc71 := NB323_328.out
           have hcz72_0 : wc.cell? ⟨gb328, 0, none⟩ = some (.int .i64 t324) := (blk_cell BK328.out 0).trans rfl
           have hcz72_1 : wc.cell? ⟨gb328, 1, none⟩ = some (.slice Ao35 t325.length co35) := (blk_cell BK328.out 1).trans rfl
           have hfz72_0 := blk_frozen BK328.out 0
           have hfz72_1 := blk_frozen BK328.out 1
           go_upto_if 50 with (first | ((with_reducible refine gate_callee (f := 63) rfl ?_); refine goesLq (some 45) rfl rfl Try.func63 (by kernel_rfl) rfl #[.agg #[.int .i64 t324, .slice Ao35 t325.length co35], .int .i64 1] rfl ?_; (with_reducible refine (laws_markIntsResult.calls kj63 t324 (fun k_ => some k_ = (.slice Ao35 t325.length co35 : Value).ownBlock) (.slice Ao35 t325.length co35) t325 1 t338 t339 w _ ?side1 ?side2 A66.out).mono ?_); (case side1 => repeat (first | (with_reducible first | exact HB.out | apply below_alloc | apply pw_below_drewN | apply below_drew1 | refine below_set ?_ GE308.out | refine below_set ?_ GE318.out | refine below_set ?_ GE323.out | refine below_set ?_ GE328.out) | exact HB.out)); (case side2 => exact Kd.R_tight rfl HO_329001.out); rintro e w73 ⟨rfl, hy0, hb, hkp⟩; refine ⟨_, rfl, ?_⟩; have n0_ := Aside0.mk (Kd.V_mono (ok' := fun k_ => some k_ ≠ (.slice Ao28 t336.length co28 : Value).ownBlock ∧ some k_ ≠ (.slice Ao35 t325.length co35 : Value).ownBlock ∧ k_ ≠ gb308 ∧ k_ ≠ gb318 ∧ k_ ≠ gb323 ∧ k_ ≠ gb328) (Kd.V_keptB (HO_319001.out) hkp (fun k_ hk_ hs_ => (hk_.2.1) hs_)) (fun k_ hk_ => ⟨hk_.1.1, hk_.1.2.1, hk_.1.2.2.1, hk_.1.2.2.2.1, hk_.1.2.2.2.2.1, hk_.1.2.2.2.2.2⟩)); have n1_ := Aside0.mk (Kd.R_mono (ok' := fun k_ => True) (Kd.R_keptB ((Kd.R_apart' HO_324001.out (Kd.R_typed HO_329001.out) (by decide))) hkp (fun k_ hk_ hs_ => (hk_.2) hs_)) (fun k_ hk_ => trivial)); have n2_ := Aside0.mk (Kd.R_reok rfl hy0 (fun k_ e_ => HO_329001.out.1 k_ e_)); have n3_ := Aside0.mk (blk_kept kq hkp (fun hs_ => (fun e_ => (Kd.R_ne HO_329001.out BK308.out (by decide)) e_) hs_)); have n4_ := Aside0.mk (blk_kept kq hkp (fun hs_ => (fun e_ => (Kd.R_ne HO_329001.out BK318.out (by decide)) e_) hs_)); have n5_ := Aside0.mk (blk_kept kq hkp (fun hs_ => (fun e_ => (Kd.R_ne HO_329001.out BK323.out (by decide)) e_) hs_)); have n6_ := Aside0.mk (blk_kept kq hkp (fun hs_ => (fun e_ => (Kd.R_ne HO_329001.out BK328.out (by decide)) e_) hs_)); have n7_ := Aside0.mk (hb); clear HO_319001; clear HO_324001; clear HO_329001; clear BK308; clear BK318; clear BK323; clear BK328; clear HB; have HO_319001 := n0_; have HO_324001 := n1_; have HO_329001 := n2_; have BK308 := n3_; have BK318 := n4_; have BK323 := n5_; have BK328 := n6_; have HB := n7_; clear n0_ n1_ n2_ n3_ n4_ n5_ n6_ n7_; (try clear hb); (try clear hkp); (try clear hy0); have hcz74_0 : w73.cell? ⟨gb328, 0, none⟩ = some (.int .i64 t324) := (blk_cell BK328.out 0).trans rfl; have hcz74_1 : w73.cell? ⟨gb328, 1, none⟩ = some (.slice Ao35 t325.length co35) := (blk_cell BK328.out 1).trans rfl; have hfz74_0 := blk_frozen BK328.out 0; have hfz74_1 := blk_frozen BK328.out 1) | ((with_reducible refine gate_callee (f := 64) rfl ?_); refine goesL_ (some 48) rfl rfl Try.func64 (by kernel_rfl) rfl #[.agg #[.int .i64 t324, .slice Ao35 t339.length co35], .int .i64 1] rfl (by (try simp only [List.map_toArray, List.map_cons, List.map_nil]); first | done | (rw [show t339.length = t325.length from (Kd.R_reads' HO_329001.out).1.symm] <;> rfl) | rfl | (simp only [List.length_drop, List.length_take]; rfl)) ?_; (with_reducible refine (laws_heldIntsResult.calls kj63 t324 _ _ t339 1 t340 _ ?side1 ?side2 A67.out).mono ?_); (case side1 => repeat (first | exact (Kd.R_reads' HO_329001.out).2.2 | (with_reducible refine Kd.C_alloc ?_ _) | (with_reducible refine Kd.C_drewN ?_ _) | (with_reducible refine Kd.C_drew ?_))); (case side2 => rw [show t339.length = t325.length from (Kd.R_reads' HO_329001.out).1.symm]; exact (Kd.R_reads' HO_329001.out).2.1); rintro e w75 ⟨rfl, hb⟩; refine ⟨_, rfl, ?_⟩; have n0_ := Aside0.mk (Kd.V_below (by (with_reducible repeat (first | apply Kd.V_alloc | apply Kd.V_drewN | apply Kd.V_drew)); exact HO_319001.out) hb); have n1_ := Aside0.mk (Kd.R_below (by (with_reducible repeat (first | apply Kd.R_alloc | apply Kd.R_drewN | apply Kd.R_drew)); exact HO_324001.out) hb); have n2_ := Aside0.mk (Kd.R_below (by (with_reducible repeat (first | apply Kd.R_alloc | apply Kd.R_drewN | apply Kd.R_drew)); exact HO_329001.out) hb); have n3_ := Aside0.mk (blk_below (g := gb308) (o := .cells #[.int .i64 a0_0, .slice A0_1 l0_1.length c0_1] 31 (0, 0)) kq hb); have n4_ := Aside0.mk (blk_below (g := gb318) (o := .cells #[.int .i64 t314, .slice Ao21 t315.length co21] 83 (0, 0)) kq hb); have n5_ := Aside0.mk (blk_below (g := gb323) (o := .cells #[.int .i64 t319, .slice Ao28 t336.length co28] 36 (0, 0)) kq hb); have n6_ := Aside0.mk (blk_below (g := gb328) (o := .cells #[.int .i64 t324, .slice Ao35 t325.length co35] 83 (0, 0)) kq hb); have n7_ := Aside0.mk (below_step bq hb); clear HO_319001; clear HO_324001; clear HO_329001; clear BK308; clear BK318; clear BK323; clear BK328; clear HB; have HO_319001 := n0_; have HO_324001 := n1_; have HO_329001 := n2_; have BK308 := n3_; have BK318 := n4_; have BK323 := n5_; have BK328 := n6_; have HB := n7_; clear n0_ n1_ n2_ n3_ n4_ n5_ n6_ n7_; (try clear hb); (try clear hb2); (try clear hk); (try clear hi)))
           (try simp only [Act.put, List.setIfInBounds_toArray, List.set_cons_zero, List.set_cons_succ])
           go_cut [] (fun wc => ∃ (kq : Nat), Aside0 (laws_FnExactShardsOf.j5 kq t338 t340 a0_0 l0_1 t314 t315 t324 t339 = some r) ∧ Aside0 (kq ≤ kj63) ∧ Aside0 (Kd.V (Kd.int .i64) 2 wc w.heap.size (fun k_ => some k_ ≠ ((.slice Ao28 t336.length co28) : Value).ownBlock ∧ some k_ ≠ ((.slice Ao35 t325.length co35) : Value).ownBlock ∧ k_ ≠ gb308 ∧ k_ ≠ gb318 ∧ k_ ≠ gb323 ∧ k_ ≠ gb328) (.slice Ao21 t315.length co21) t315) ∧ Aside0 (Kd.R k89 89 wc w.heap.size (fun _ => True) (.slice Ao28 t336.length co28) t336) ∧ Aside0 (Kd.R (Kd.int .i64) 2 wc w.heap.size (fun _ => True) (.slice Ao35 t325.length co35) t339) ∧ Aside0 (wc.heap[gb308]? = some (.cells #[.int .i64 a0_0, (.slice A0_1 l0_1.length c0_1)] 31 (0, 0))) ∧ Aside0 (wc.heap[gb318]? = some (.cells #[.int .i64 t314, (.slice Ao21 t315.length co21)] 83 (0, 0))) ∧ Aside0 (wc.heap[gb323]? = some (.cells #[.int .i64 t319, (.slice Ao28 t336.length co28)] 36 (0, 0))) ∧ Aside0 (wc.heap[gb328]? = some (.cells #[.int .i64 t324, (.slice Ao35 t325.length co35)] 83 (0, 0))) ∧ Aside0 (Below w.heap.size w wc))
           case first =>
            have H := HC68.out
            clear HC68
            by_cases c76 : t340 < 0
            ·rw [if_pos c76] at H
             have c76b0 : decide (t340 < 0) = true := decide_eq_true c76
             clear c76
             (first | rw [c76b0] | (simp only [i64_w, i32_w]; rw [c76b0]) | skip)
             obtain rfl := Option.some.inj H
             go_wp2
             go_ret
             exact ⟨by first | rfl | (simp [errW_none, errW_some] <;> rfl) | (simp [*, errW_none, errW_some] <;> rfl), bq⟩
            ·rw [if_neg c76] at H
             have c76b0 : decide (t340 < 0) = false := decide_eq_false c76
             clear c76
             (first | rw [c76b0] | (simp only [i64_w, i32_w]; rw [c76b0]) | skip)
             have H' := Aside0.mk H
             clear H
             go_wp2
             go_meet
             case rel => exact ⟨_, H', ⟨by have := HJ2.out; have := HJ12.out; have := HJ40.out; have := HJ47.out; have := HJ63.out; first | omega | exact Nat.le_refl _⟩, ⟨by (try simp only [hl324001_47]); (with_reducible repeat (first | apply Kd.V_alloc | apply Kd.V_drewN | apply Kd.V_drew)); exact HO_319001.out⟩, ⟨by (try simp only [hl324001_47]); (with_reducible repeat (first | apply Kd.R_alloc | apply Kd.R_drewN | apply Kd.R_drew)); exact HO_324001.out⟩, ⟨by (try simp only [hl324001_47]); (with_reducible repeat (first | apply Kd.R_alloc | apply Kd.R_drewN | apply Kd.R_drew)); exact HO_329001.out⟩, ⟨by (try simp only [hl324001_47]); (with_reducible repeat (first | refine blk_drewN ?_ _ | refine blk_drew ?_ | refine blk_alloc ?_ _)); exact BK308.out⟩, ⟨by (try simp only [hl324001_47]); (with_reducible repeat (first | refine blk_drewN ?_ _ | refine blk_drew ?_ | refine blk_alloc ?_ _)); exact BK318.out⟩, ⟨by (try simp only [hl324001_47]); (with_reducible repeat (first | refine blk_drewN ?_ _ | refine blk_drew ?_ | refine blk_alloc ?_ _)); exact BK323.out⟩, ⟨by (try simp only [hl324001_47]); (with_reducible repeat (first | refine blk_drewN ?_ _ | refine blk_drew ?_ | refine blk_alloc ?_ _)); exact BK328.out⟩, ⟨bq⟩⟩
           case rest =>
            clear HC68
            (try clear c1); (try clear c2); (try clear p2); (try clear c3); (try clear c4); (try clear c5); (try clear c6); (try clear c7); (try clear c7b0); (try clear c14); (try clear c19); (try clear c20)
            (try clear c22); (try clear c24); (try clear c25); (try clear c26); (try clear c31); (try clear c32); (try clear c33); (try clear c38); (try clear c46); (try clear c49); (try clear c50); (try clear c51)
            (try clear c54); (try clear c54b0); (try clear c56); (try clear c57); (try clear c58); (try clear c60); (try clear c61); (try clear c62); (try clear c63); (try clear c64); (try clear c65); (try clear c69)
            (try clear c70); (try clear c71); (try clear c76); (try clear c76b0); (try clear hcz14_0); (try clear hcz14_1); (try clear hcz20_0); (try clear hcz20_1); (try clear hcz22_0); (try clear hcz22_1)
            (try clear hcz27_0); (try clear hcz27_1); (try clear hcz34_0); (try clear hcz34_1); (try clear hcz36_0); (try clear hcz36_1); (try clear hcz52_0); (try clear hcz52_1); (try clear hcz59_0); (try clear hcz59_1)
            (try clear hcz5_0); (try clear hcz5_1); (try clear hcz62_0); (try clear hcz62_1); (try clear hcz72_0); (try clear hcz72_1); (try clear hcz74_0); (try clear hcz74_1); (try clear hfz14_0); (try clear hfz14_1)
            (try clear hfz20_0); (try clear hfz20_1); (try clear hfz22_0); (try clear hfz22_1); (try clear hfz27_0); (try clear hfz27_1); (try clear hfz34_0); (try clear hfz34_1); (try clear hfz36_0); (try clear hfz36_1)
            (try clear hfz52_0); (try clear hfz52_1); (try clear hfz59_0); (try clear hfz59_1); (try clear hfz5_0); (try clear hfz5_1); (try clear hfz62_0); (try clear hfz62_1); (try clear hfz72_0); (try clear hfz72_1)
            (try clear hfz74_0); (try clear hfz74_1); (try clear p2)
            obtain ⟨kq, HA, HJ67, HO_319001, HO_324001, HO_329001, BK308, BK318, BK323, BK328, HB⟩ := hcut
            have hl329001_67 := (Kd.R_reads' HO_329001.out).1
            rw [hl329001_67] at HO_329001
            (try simp only [hl329001_67])
            (try simp only [hl329001_67] at BK308)
            (try simp only [hl329001_67] at BK318)
            (try simp only [hl329001_67] at BK323)
            (try simp only [hl329001_67] at BK328)
            (try simp only [hl329001_67] at HO_319001)
            (try simp only [hl329001_67] at HO_324001)
            cases kq with
            | zero => exact absurd HA.out (by simp [laws_FnExactShardsOf.j5])
            | succ kj67 =>
             have H := HA.out
             clear HA
             simp only [laws_FnExactShardsOf.j5] at H
             have HC77 := Aside0.mk H
             clear H
             go_upto_if 53 with (fail)
             go_cut [] (fun wc => ∃ (kq : Nat), Aside0 (laws_FnExactShardsOf.j6 kq t338 a0_0 l0_1 t314 t315 t324 t339 = some r) ∧ Aside0 (kq ≤ kj67) ∧ Aside0 (Kd.V (Kd.int .i64) 2 wc w.heap.size (fun k_ => some k_ ≠ ((.slice Ao28 t336.length co28) : Value).ownBlock ∧ some k_ ≠ ((.slice Ao35 t339.length co35) : Value).ownBlock ∧ k_ ≠ gb308 ∧ k_ ≠ gb318 ∧ k_ ≠ gb323 ∧ k_ ≠ gb328) (.slice Ao21 t315.length co21) t315) ∧ Aside0 (Kd.R k89 89 wc w.heap.size (fun _ => True) (.slice Ao28 t336.length co28) t336) ∧ Aside0 (Kd.R (Kd.int .i64) 2 wc w.heap.size (fun _ => True) (.slice Ao35 t339.length co35) t339) ∧ Aside0 (wc.heap[gb308]? = some (.cells #[.int .i64 a0_0, (.slice A0_1 l0_1.length c0_1)] 31 (0, 0))) ∧ Aside0 (wc.heap[gb318]? = some (.cells #[.int .i64 t314, (.slice Ao21 t315.length co21)] 83 (0, 0))) ∧ Aside0 (wc.heap[gb323]? = some (.cells #[.int .i64 t319, (.slice Ao28 t336.length co28)] 36 (0, 0))) ∧ Aside0 (wc.heap[gb328]? = some (.cells #[.int .i64 t324, (.slice Ao35 t339.length co35)] 83 (0, 0))) ∧ Aside0 (Below w.heap.size w wc))
             case first =>
              have H := HC77.out
              clear HC77
              by_cases c78 : t340 = t338
              ·rw [if_pos c78] at H
               have c78b0 : (t340 == t338) = true := beq_iff_eq.mpr c78
               have c78b1 : (t340 != t338) = false := bne_eq_false_iff_eq.mpr c78
               clear c78
               (first | rw [c78b0] | (simp only [i64_w, i32_w]; rw [c78b0]) | skip)
               have H' := Aside0.mk H
               clear H
               go_wp2
               go_meet
               case rel => exact ⟨_, H', ⟨by have := HJ2.out; have := HJ12.out; have := HJ40.out; have := HJ47.out; have := HJ63.out; have := HJ67.out; first | omega | exact Nat.le_refl _⟩, ⟨by (try simp only [hl324001_47]); (try simp only [hl329001_67]); (with_reducible repeat (first | apply Kd.V_alloc | apply Kd.V_drewN | apply Kd.V_drew)); exact HO_319001.out⟩, ⟨by (try simp only [hl324001_47]); (try simp only [hl329001_67]); (with_reducible repeat (first | apply Kd.R_alloc | apply Kd.R_drewN | apply Kd.R_drew)); exact HO_324001.out⟩, ⟨by (try simp only [hl324001_47]); (try simp only [hl329001_67]); (with_reducible repeat (first | apply Kd.R_alloc | apply Kd.R_drewN | apply Kd.R_drew)); exact HO_329001.out⟩, ⟨by (try simp only [hl324001_47]); (try simp only [hl329001_67]); (with_reducible repeat (first | refine blk_drewN ?_ _ | refine blk_drew ?_ | refine blk_alloc ?_ _)); exact BK308.out⟩, ⟨by (try simp only [hl324001_47]); (try simp only [hl329001_67]); (with_reducible repeat (first | refine blk_drewN ?_ _ | refine blk_drew ?_ | refine blk_alloc ?_ _)); exact BK318.out⟩, ⟨by (try simp only [hl324001_47]); (try simp only [hl329001_67]); (with_reducible repeat (first | refine blk_drewN ?_ _ | refine blk_drew ?_ | refine blk_alloc ?_ _)); exact BK323.out⟩, ⟨by (try simp only [hl324001_47]); (try simp only [hl329001_67]); (with_reducible repeat (first | refine blk_drewN ?_ _ | refine blk_drew ?_ | refine blk_alloc ?_ _)); exact BK328.out⟩, ⟨bq⟩⟩
              ·rw [if_neg c78] at H
               have c78b0 : (t340 == t338) = false := beq_eq_false_iff_ne.mpr c78
               have c78b1 : (t340 != t338) = true := bne_iff_ne.mpr c78
               (first | rw [c78b0] | (simp only [i64_w, i32_w]; rw [c78b0]) | skip)
               obtain rfl := Option.some.inj H
               go_wp2
               go_ret
               exact ⟨by first | rfl | (simp [errW_none, errW_some] <;> rfl) | (simp [*, errW_none, errW_some] <;> rfl), bq⟩
             case rest =>
              clear HC77
              (try clear c1); (try clear c2); (try clear p2); (try clear c3); (try clear c4); (try clear c5); (try clear c6); (try clear c7); (try clear c7b0); (try clear c14); (try clear c19); (try clear c20)
              (try clear c22); (try clear c24); (try clear c25); (try clear c26); (try clear c31); (try clear c32); (try clear c33); (try clear c38); (try clear c46); (try clear c49); (try clear c50); (try clear c51)
              (try clear c54); (try clear c54b0); (try clear c56); (try clear c57); (try clear c58); (try clear c60); (try clear c61); (try clear c62); (try clear c63); (try clear c64); (try clear c65)
              (try clear c69); (try clear c70); (try clear c71); (try clear c76); (try clear c76b0); (try clear c78); (try clear c78b0); (try clear c78b1); (try clear hcz14_0); (try clear hcz14_1); (try clear hcz20_0)
              (try clear hcz20_1); (try clear hcz22_0); (try clear hcz22_1); (try clear hcz27_0); (try clear hcz27_1); (try clear hcz34_0); (try clear hcz34_1); (try clear hcz36_0); (try clear hcz36_1)
              (try clear hcz52_0); (try clear hcz52_1); (try clear hcz59_0); (try clear hcz59_1); (try clear hcz5_0); (try clear hcz5_1); (try clear hcz62_0); (try clear hcz62_1); (try clear hcz72_0); (try clear hcz72_1)
              (try clear hcz74_0); (try clear hcz74_1); (try clear hfz14_0); (try clear hfz14_1); (try clear hfz20_0); (try clear hfz20_1); (try clear hfz22_0); (try clear hfz22_1); (try clear hfz27_0)
              (try clear hfz27_1); (try clear hfz34_0); (try clear hfz34_1); (try clear hfz36_0); (try clear hfz36_1); (try clear hfz52_0); (try clear hfz52_1); (try clear hfz59_0); (try clear hfz59_1)
              (try clear hfz5_0); (try clear hfz5_1); (try clear hfz62_0); (try clear hfz62_1); (try clear hfz72_0); (try clear hfz72_1); (try clear hfz74_0); (try clear hfz74_1); (try clear p2)
              obtain ⟨kq, HA, HJ76, HO_319001, HO_324001, HO_329001, BK308, BK318, BK323, BK328, HB⟩ := hcut
              cases kq with
              | zero => exact absurd HA.out (by simp [laws_FnExactShardsOf.j6])
              | succ kj76 =>
               have H := HA.out
               clear HA
               simp only [laws_FnExactShardsOf.j6] at H
               replace H := Option.bind_eq_some_iff.mp H
               obtain ⟨⟨t341, t342⟩, A790, H⟩ := H
               replace H : ((impl_ShardsOf.f kj76 t341 t342).bind fun bt345 => ((laws_eqIntsResult.f kj76 bt345.1 bt345.2 t314 t315).bind fun t350 => (if t350 = true then (laws_FnExactShardsOf.j7 kj76 t338 t324 t339) else (some false)))) = some r := H
               have A79 := Aside0.mk A790
               clear A790
               replace H := Option.bind_eq_some_iff.mp H
               obtain ⟨⟨t345, t346⟩, A800, H⟩ := H
               replace H : ((laws_eqIntsResult.f kj76 t345 t346 t314 t315).bind fun t350 => (if t350 = true then (laws_FnExactShardsOf.j7 kj76 t338 t324 t339) else (some false))) = some r := H
               have A80 := Aside0.mk A800
               clear A800
               replace H := Option.bind_eq_some_iff.mp H
               obtain ⟨t350, A810, H⟩ := H
               replace H : (if t350 = true then (laws_FnExactShardsOf.j7 kj76 t338 t324 t339) else (some false)) = some r := H
               have A81 := Aside0.mk A810
               clear A810
               have HC82 := Aside0.mk H
               clear H
               have hnb83 := NB308_318.out
               have hnc83 := NB318_308.out
               have hnb84 := NB308_323.out
               have hnc84 := NB323_308.out
               have hnb85 := NB308_328.out
               have hnc85 := NB328_308.out
               have hcz86_0 : wc.cell? ⟨gb308, 0, none⟩ = some (.int .i64 a0_0) := (blk_cell BK308.out 0).trans rfl
               have hcz86_1 : wc.cell? ⟨gb308, 1, none⟩ = some (.slice A0_1 l0_1.length c0_1) := (blk_cell BK308.out 1).trans rfl
               have hfz86_0 := blk_frozen BK308.out 0
               have hfz86_1 := blk_frozen BK308.out 1
               go_upto_if 60 with (first | ((with_reducible refine gate_callee (f := 22) rfl ?_); refine goesLq (some 55) rfl rfl Try.func22 (by kernel_rfl) rfl #[.agg #[.int .i64 a0_0, .slice A0_1 l0_1.length c0_1]] rfl ?_; (with_reducible refine (laws_toContract.calls kj76 a0_0 _ _ l0_1 t341 t342 _ ?side1 ?side2 A79.out).mono ?_); (case side1 => repeat (first | exact (Kd.C_below HR0_1.out HB.out) | (with_reducible refine Kd.C_alloc ?_ _) | (with_reducible refine Kd.C_drewN ?_ _) | (with_reducible refine Kd.C_drew ?_))); (case side2 => exact HC0_1.out); rintro e w87 ⟨v343, rfl, ho0, hb⟩; refine ⟨_, rfl, ?_⟩; have n0_ := Aside0.mk (Kd.V_elder' (by (with_reducible repeat (first | apply Kd.V_alloc | apply Kd.V_drewN | apply Kd.V_drew)); exact HO_319001.out) (Kd.R_base ho0) hb); have n1_ := Aside0.mk (Kd.R_elder' (by (with_reducible repeat (first | apply Kd.R_alloc | apply Kd.R_drewN | apply Kd.R_drew)); exact HO_324001.out) (Kd.R_base ho0) hb); have n2_ := Aside0.mk (Kd.R_below (by (with_reducible repeat (first | apply Kd.R_alloc | apply Kd.R_drewN | apply Kd.R_drew)); exact HO_329001.out) hb); have n3_ := Aside0.mk (Kd.R_lower (Kd.R_new' ho0 (Kd.R_lt (by (with_reducible repeat (first | apply Kd.R_alloc | apply Kd.R_drewN | apply Kd.R_drew)); exact HO_324001.out))) (below_size bq)); have n4_ := Aside0.mk (blk_below (g := gb308) (o := .cells #[.int .i64 a0_0, .slice A0_1 l0_1.length c0_1] 31 (0, 0)) kq hb); have n5_ := Aside0.mk (blk_below (g := gb318) (o := .cells #[.int .i64 t314, .slice Ao21 t315.length co21] 83 (0, 0)) kq hb); have n6_ := Aside0.mk (blk_below (g := gb323) (o := .cells #[.int .i64 t319, .slice Ao28 t336.length co28] 36 (0, 0)) kq hb); have n7_ := Aside0.mk (blk_below (g := gb328) (o := .cells #[.int .i64 t324, .slice Ao35 t339.length co35] 83 (0, 0)) kq hb); have n8_ := Aside0.mk (below_step bq hb); clear HO_319001; clear HO_324001; clear HO_329001; clear BK308; clear BK318; clear BK323; clear BK328; clear HB; have HO_319001 := n0_; have HO_324001 := n1_; have HO_329001 := n2_; have HO344 := n3_; have BK308 := n4_; have BK318 := n5_; have BK323 := n6_; have BK328 := n7_; have HB := n8_; clear n0_ n1_ n2_ n3_ n4_ n5_ n6_ n7_ n8_; (try clear hb); (try clear hb2); (try clear hk); (try clear hi); (try clear ho0); obtain ⟨Ao88, co88, eo88⟩ := Kd.R_slice HO344.out; subst eo88) | ((with_reducible refine gate_callee (f := 60) rfl ?_); refine goesLq (some 56) rfl rfl Try.func60 (by kernel_rfl) rfl #[.agg #[.int .i64 t341, .slice Ao88 t342.length co88]] rfl ?_; (with_reducible refine (impl_ShardsOf.calls kj76 t341 _ _ t342 t345 t346 _ ?side1 ?side2 A80.out).mono ?_); (case side1 => repeat (first | exact (Kd.R_reads' HO344.out).2.2 | (with_reducible refine Kd.C_alloc ?_ _) | (with_reducible refine Kd.C_drewN ?_ _) | (with_reducible refine Kd.C_drew ?_))); (case side2 => exact (Kd.R_reads' HO344.out).2.1); rintro e w89 ⟨v347, rfl, ho0, hb⟩; refine ⟨_, rfl, ?_⟩; have n0_ := Aside0.mk (Kd.V_elder' (by (with_reducible repeat (first | apply Kd.V_alloc | apply Kd.V_drewN | apply Kd.V_drew)); exact HO_319001.out) (Kd.R_base ho0) hb); have n1_ := Aside0.mk (Kd.R_below (by (with_reducible repeat (first | apply Kd.R_alloc | apply Kd.R_drewN | apply Kd.R_drew)); exact HO_324001.out) hb); have n2_ := Aside0.mk (Kd.R_elder' (by (with_reducible repeat (first | apply Kd.R_alloc | apply Kd.R_drewN | apply Kd.R_drew)); exact HO_329001.out) (Kd.R_base ho0) hb); have n3_ := Aside0.mk (Kd.R_below (by (with_reducible repeat (first | apply Kd.R_alloc | apply Kd.R_drewN | apply Kd.R_drew)); exact HO344.out) hb); have n4_ := Aside0.mk (Kd.R_lower (Kd.R_new' ho0 (Kd.R_lt (by (with_reducible repeat (first | apply Kd.R_alloc | apply Kd.R_drewN | apply Kd.R_drew)); exact HO_329001.out))) (below_size bq)); have n5_ := Aside0.mk (blk_below (g := gb308) (o := .cells #[.int .i64 a0_0, .slice A0_1 l0_1.length c0_1] 31 (0, 0)) kq hb); have n6_ := Aside0.mk (blk_below (g := gb318) (o := .cells #[.int .i64 t314, .slice Ao21 t315.length co21] 83 (0, 0)) kq hb); have n7_ := Aside0.mk (blk_below (g := gb323) (o := .cells #[.int .i64 t319, .slice Ao28 t336.length co28] 36 (0, 0)) kq hb); have n8_ := Aside0.mk (blk_below (g := gb328) (o := .cells #[.int .i64 t324, .slice Ao35 t339.length co35] 83 (0, 0)) kq hb); have n9_ := Aside0.mk (below_step bq hb); clear HO_319001; clear HO_324001; clear HO_329001; clear HO344; clear BK308; clear BK318; clear BK323; clear BK328; clear HB; have HO_319001 := n0_; have HO_324001 := n1_; have HO_329001 := n2_; have HO344 := n3_; have HO348 := n4_; have BK308 := n5_; have BK318 := n6_; have BK323 := n7_; have BK328 := n8_; have HB := n9_; clear n0_ n1_ n2_ n3_ n4_ n5_ n6_ n7_ n8_ n9_; (try clear hb); (try clear hb2); (try clear hk); (try clear hi); (try clear ho0)) | ((with_reducible refine gate_dst (N := 10) rfl ?_); refine box_event ?hg (N := 10) ?hd (cs := #[.int .i64 0, .slice none 0 0]) (t := 83) ?hr ?_; (case hd => rfl); (case hg => rfl); (case hr => first | (go_simp; done) | (go_simp; rfl)); intro gb349 hg w90 hbox hb; have n0_ := Aside0.mk (Kd.V_below (Kd.V_elderB (by (with_reducible repeat (first | apply Kd.V_alloc | apply Kd.V_drewN | apply Kd.V_drew)); exact HO_319001.out) gb349 (Nat.le_of_eq hg.symm)) hb); have n1_ := Aside0.mk (Kd.R_below (by (with_reducible repeat (first | apply Kd.R_alloc | apply Kd.R_drewN | apply Kd.R_drew)); exact HO_324001.out) hb); have n2_ := Aside0.mk (Kd.R_below (by (with_reducible repeat (first | apply Kd.R_alloc | apply Kd.R_drewN | apply Kd.R_drew)); exact HO_329001.out) hb); have n3_ := Aside0.mk (Kd.R_below (by (with_reducible repeat (first | apply Kd.R_alloc | apply Kd.R_drewN | apply Kd.R_drew)); exact HO344.out) hb); have n4_ := Aside0.mk (Kd.R_below (by (with_reducible repeat (first | apply Kd.R_alloc | apply Kd.R_drewN | apply Kd.R_drew)); exact HO348.out) hb); have n5_ := Aside0.mk (blk_below (g := gb308) (o := .cells #[.int .i64 a0_0, .slice A0_1 l0_1.length c0_1] 31 (0, 0)) kq hb); have n6_ := Aside0.mk (blk_below (g := gb318) (o := .cells #[.int .i64 t314, .slice Ao21 t315.length co21] 83 (0, 0)) kq hb); have n7_ := Aside0.mk (blk_below (g := gb323) (o := .cells #[.int .i64 t319, .slice Ao28 t336.length co28] 36 (0, 0)) kq hb); have n8_ := Aside0.mk (blk_below (g := gb328) (o := .cells #[.int .i64 t324, .slice Ao35 t339.length co35] 83 (0, 0)) kq hb); have n9_ := Aside0.mk (below_step bq hb); have n10_ := Aside0.mk (hbox); have n11_ := Aside0.mk ((by rw [hg]; exact (below_size bq) : w.heap.size ≤ gb349)); have n12_ := Aside0.mk ((by rw [hg]; exact (below_size bq) : w.heap.size ≤ gb349)); have n13_ := Aside0.mk ((by rw [hg]; exact Nat.ne_of_lt (blk_lt (g := gb308) (o := .cells #[.int .i64 a0_0, .slice A0_1 l0_1.length c0_1] 31 (0, 0)) kq) : gb308 ≠ gb349)); have n14_ := Aside0.mk ((by rw [hg]; exact Nat.ne_of_gt (blk_lt (g := gb308) (o := .cells #[.int .i64 a0_0, .slice A0_1 l0_1.length c0_1] 31 (0, 0)) kq) : gb349 ≠ gb308)); have n15_ := Aside0.mk ((by rw [hg]; exact Nat.ne_of_lt (blk_lt (g := gb318) (o := .cells #[.int .i64 t314, .slice Ao21 t315.length co21] 83 (0, 0)) kq) : gb318 ≠ gb349)); have n16_ := Aside0.mk ((by rw [hg]; exact Nat.ne_of_gt (blk_lt (g := gb318) (o := .cells #[.int .i64 t314, .slice Ao21 t315.length co21] 83 (0, 0)) kq) : gb349 ≠ gb318)); have n17_ := Aside0.mk ((by rw [hg]; exact Nat.ne_of_lt (blk_lt (g := gb323) (o := .cells #[.int .i64 t319, .slice Ao28 t336.length co28] 36 (0, 0)) kq) : gb323 ≠ gb349)); have n18_ := Aside0.mk ((by rw [hg]; exact Nat.ne_of_gt (blk_lt (g := gb323) (o := .cells #[.int .i64 t319, .slice Ao28 t336.length co28] 36 (0, 0)) kq) : gb349 ≠ gb323)); have n19_ := Aside0.mk ((by rw [hg]; exact Nat.ne_of_lt (blk_lt (g := gb328) (o := .cells #[.int .i64 t324, .slice Ao35 t339.length co35] 83 (0, 0)) kq) : gb328 ≠ gb349)); have n20_ := Aside0.mk ((by rw [hg]; exact Nat.ne_of_gt (blk_lt (g := gb328) (o := .cells #[.int .i64 t324, .slice Ao35 t339.length co35] 83 (0, 0)) kq) : gb349 ≠ gb328)); clear HO_319001; clear HO_324001; clear HO_329001; clear HO344; clear HO348; clear BK308; clear BK318; clear BK323; clear BK328; clear HB; have HO_319001 := n0_; have HO_324001 := n1_; have HO_329001 := n2_; have HO344 := n3_; have HO348 := n4_; have BK308 := n5_; have BK318 := n6_; have BK323 := n7_; have BK328 := n8_; have HB := n9_; have BK349 := n10_; have GW349 := n11_; have GE349 := n12_; have NB308_349 := n13_; have NB349_308 := n14_; have NB318_349 := n15_; have NB349_318 := n16_; have NB323_349 := n17_; have NB349_323 := n18_; have NB328_349 := n19_; have NB349_328 := n20_; clear n0_ n1_ n2_ n3_ n4_ n5_ n6_ n7_ n8_ n9_ n10_ n11_ n12_ n13_ n14_ n15_ n16_ n17_ n18_ n19_ n20_; clear hb hbox hg; have hnb91 := NB349_308.out; have hnc91 := NB308_349.out; have hnb92 := NB349_318.out; have hnc92 := NB318_349.out; have hnb93 := NB349_323.out; have hnc93 := NB323_349.out; have hnb94 := NB349_328.out; have hnc94 := NB328_349.out; have hcz95_0 : w90.cell? ⟨gb349, 0, none⟩ = some (.int .i64 0) := (blk_cell BK349.out 0).trans rfl; have hcz95_1 : w90.cell? ⟨gb349, 1, none⟩ = some (.slice none 0 0) := (blk_cell BK349.out 1).trans rfl; have hfz95_0 := blk_frozen BK349.out 0; have hfz95_1 := blk_frozen BK349.out 1; obtain ⟨Ao96, co96, eo96⟩ := Kd.R_slice HO348.out; subst eo96; have hnb97 := NB318_323.out; have hnc97 := NB323_318.out; have hnb98 := NB318_328.out; have hnc98 := NB328_318.out; have hcz99_0 : w90.cell? ⟨gb318, 0, none⟩ = some (.int .i64 t314) := (blk_cell BK318.out 0).trans rfl; have hcz99_1 : w90.cell? ⟨gb318, 1, none⟩ = some (.slice Ao21 t315.length co21) := (blk_cell BK318.out 1).trans rfl; have hfz99_0 := blk_frozen BK318.out 0; have hfz99_1 := blk_frozen BK318.out 1) | ((with_reducible refine gate_callee (f := 62) rfl ?_); refine goesLq (some 59) rfl rfl Try.func62 (by kernel_rfl) rfl #[.agg #[.int .i64 t345, .slice Ao96 t346.length co96], .agg #[.int .i64 t314, .slice Ao21 t315.length co21]] rfl ?_; (with_reducible refine (laws_eqIntsResult.calls kj76 t345 _ _ t346 t314 _ _ t315 t350 _ ?side1 ?side2 ?side3 ?side4 A81.out).mono ?_); (case side1 => refine (Kd.R_reads' (e := 2) (base := w.heap.size) (ok := fun k_ => (True ∧ some k_ ≠ (.slice Ao35 t339.length co35 : Value).ownBlock)) (n := t346.length) (c := co96) ?_).2.2; exact (by (with_reducible repeat (first | apply Kd.R_alloc | apply Kd.R_drewN | apply Kd.R_drew)); exact (Kd.R_mono (Kd.R_far (p := ⟨gb349, 1, none⟩) (Kd.R_far (p := ⟨gb349, 0, none⟩) (Kd.R_types HO348.out BK349.out (by decide)) (fun _ hk => hk.2) (.int .i64 t345)) (fun _ hk => hk.2) (.slice Ao96 t346.length co96)) (fun _ h_ => h_.1)))); (case side2 => exact (Kd.R_reads' HO348.out).2.1); (case side3 => refine (Kd.V_reads' (e := 2) (base := w.heap.size) (ok := fun k_ => ((((some k_ ≠ (.slice Ao28 t336.length co28 : Value).ownBlock ∧ (some k_ ≠ (.slice Ao35 t339.length co35 : Value).ownBlock ∧ (k_ ≠ gb308 ∧ (k_ ≠ gb318 ∧ (k_ ≠ gb323 ∧ k_ ≠ gb328))))) ∧ some k_ ≠ (.slice Ao88 t342.length co88 : Value).ownBlock) ∧ some k_ ≠ (.slice Ao96 t346.length co96 : Value).ownBlock) ∧ k_ ≠ gb349)) (n := t315.length) (c := co21) ?_).2.2; exact (by (with_reducible repeat (first | apply Kd.V_alloc | apply Kd.V_drewN | apply Kd.V_drew)); exact (Kd.V_mono (Kd.V_far (p := ⟨gb349, 1, none⟩) (Kd.V_far (p := ⟨gb349, 0, none⟩) (Kd.V_mono HO_319001.out (fun k_ hk => (⟨hk, hk.2⟩ : _ ∧ k_ ≠ gb349))) (fun _ hk => hk.2) (.int .i64 t345)) (fun _ hk => hk.2) (.slice Ao96 t346.length co96)) (fun _ h_ => h_.1)))); (case side4 => exact (Kd.V_reads' HO_319001.out).2.1); rintro e w100 ⟨rfl, hb⟩; refine ⟨_, rfl, ?_⟩; have n0_ := Aside0.mk (Kd.V_below (by (with_reducible repeat (first | apply Kd.V_alloc | apply Kd.V_drewN | apply Kd.V_drew)); exact (Kd.V_mono (Kd.V_far (p := ⟨gb349, 1, none⟩) (Kd.V_far (p := ⟨gb349, 0, none⟩) (Kd.V_mono HO_319001.out (fun k_ hk => (⟨hk, hk.2⟩ : _ ∧ k_ ≠ gb349))) (fun _ hk => hk.2) (.int .i64 t345)) (fun _ hk => hk.2) (.slice Ao96 t346.length co96)) (fun _ h_ => h_.1))) hb); have n1_ := Aside0.mk (Kd.R_below (by (with_reducible repeat (first | apply Kd.R_alloc | apply Kd.R_drewN | apply Kd.R_drew)); exact (Kd.R_mono (Kd.R_far (p := ⟨gb349, 1, none⟩) (Kd.R_far (p := ⟨gb349, 0, none⟩) (Kd.R_types HO_324001.out BK349.out (by decide)) (fun _ hk => hk.2) (.int .i64 t345)) (fun _ hk => hk.2) (.slice Ao96 t346.length co96)) (fun _ h_ => h_.1))) hb); have n2_ := Aside0.mk (Kd.R_below (by (with_reducible repeat (first | apply Kd.R_alloc | apply Kd.R_drewN | apply Kd.R_drew)); exact (Kd.R_mono (Kd.R_far (p := ⟨gb349, 1, none⟩) (Kd.R_far (p := ⟨gb349, 0, none⟩) (Kd.R_types HO_329001.out BK349.out (by decide)) (fun _ hk => hk.2) (.int .i64 t345)) (fun _ hk => hk.2) (.slice Ao96 t346.length co96)) (fun _ h_ => h_.1))) hb); have n3_ := Aside0.mk (Kd.R_below (by (with_reducible repeat (first | apply Kd.R_alloc | apply Kd.R_drewN | apply Kd.R_drew)); exact (Kd.R_mono (Kd.R_far (p := ⟨gb349, 1, none⟩) (Kd.R_far (p := ⟨gb349, 0, none⟩) (Kd.R_types HO344.out BK349.out (by decide)) (fun _ hk => hk.2) (.int .i64 t345)) (fun _ hk => hk.2) (.slice Ao96 t346.length co96)) (fun _ h_ => h_.1))) hb); have n4_ := Aside0.mk (Kd.R_below (by (with_reducible repeat (first | apply Kd.R_alloc | apply Kd.R_drewN | apply Kd.R_drew)); exact (Kd.R_mono (Kd.R_far (p := ⟨gb349, 1, none⟩) (Kd.R_far (p := ⟨gb349, 0, none⟩) (Kd.R_types HO348.out BK349.out (by decide)) (fun _ hk => hk.2) (.int .i64 t345)) (fun _ hk => hk.2) (.slice Ao96 t346.length co96)) (fun _ h_ => h_.1))) hb); have n5_ := Aside0.mk (blk_below (g := gb308) (o := .cells #[.int .i64 a0_0, .slice A0_1 l0_1.length c0_1] 31 (0, 0)) (by (with_reducible repeat (first | refine blk_drewN ?_ _ | refine blk_drew ?_ | refine blk_alloc ?_ _)); refine blk_far ?_ NB308_349.out _; (with_reducible repeat (first | refine blk_drewN ?_ _ | refine blk_drew ?_ | refine blk_alloc ?_ _)); refine blk_far ?_ NB308_349.out _; (with_reducible repeat (first | refine blk_drewN ?_ _ | refine blk_drew ?_ | refine blk_alloc ?_ _)); exact BK308.out) hb); have n6_ := Aside0.mk (blk_below (g := gb318) (o := .cells #[.int .i64 t314, .slice Ao21 t315.length co21] 83 (0, 0)) (by (with_reducible repeat (first | refine blk_drewN ?_ _ | refine blk_drew ?_ | refine blk_alloc ?_ _)); refine blk_far ?_ NB318_349.out _; (with_reducible repeat (first | refine blk_drewN ?_ _ | refine blk_drew ?_ | refine blk_alloc ?_ _)); refine blk_far ?_ NB318_349.out _; (with_reducible repeat (first | refine blk_drewN ?_ _ | refine blk_drew ?_ | refine blk_alloc ?_ _)); exact BK318.out) hb); have n7_ := Aside0.mk (blk_below (g := gb323) (o := .cells #[.int .i64 t319, .slice Ao28 t336.length co28] 36 (0, 0)) (by (with_reducible repeat (first | refine blk_drewN ?_ _ | refine blk_drew ?_ | refine blk_alloc ?_ _)); refine blk_far ?_ NB323_349.out _; (with_reducible repeat (first | refine blk_drewN ?_ _ | refine blk_drew ?_ | refine blk_alloc ?_ _)); refine blk_far ?_ NB323_349.out _; (with_reducible repeat (first | refine blk_drewN ?_ _ | refine blk_drew ?_ | refine blk_alloc ?_ _)); exact BK323.out) hb); have n8_ := Aside0.mk (blk_below (g := gb328) (o := .cells #[.int .i64 t324, .slice Ao35 t339.length co35] 83 (0, 0)) (by (with_reducible repeat (first | refine blk_drewN ?_ _ | refine blk_drew ?_ | refine blk_alloc ?_ _)); refine blk_far ?_ NB328_349.out _; (with_reducible repeat (first | refine blk_drewN ?_ _ | refine blk_drew ?_ | refine blk_alloc ?_ _)); refine blk_far ?_ NB328_349.out _; (with_reducible repeat (first | refine blk_drewN ?_ _ | refine blk_drew ?_ | refine blk_alloc ?_ _)); exact BK328.out) hb); have n9_ := Aside0.mk (blk_below (g := gb349) (o := .cells #[.int .i64 t345, .slice Ao96 t346.length co96] 83 (0, 0)) (by (with_reducible repeat (first | refine blk_drewN ?_ _ | refine blk_drew ?_ | refine blk_alloc ?_ _)); refine blk_put (cs := #[.int .i64 t345, .slice none 0 0]) ?_ 1 _ rfl; (with_reducible repeat (first | refine blk_drewN ?_ _ | refine blk_drew ?_ | refine blk_alloc ?_ _)); refine blk_put (cs := #[.int .i64 0, .slice none 0 0]) ?_ 0 _ rfl; (with_reducible repeat (first | refine blk_drewN ?_ _ | refine blk_drew ?_ | refine blk_alloc ?_ _)); exact BK349.out) hb); have n10_ := Aside0.mk (below_step bq hb); clear HO_319001; clear HO_324001; clear HO_329001; clear HO344; clear HO348; clear BK308; clear BK318; clear BK323; clear BK328; clear BK349; clear HB; have HO_319001 := n0_; have HO_324001 := n1_; have HO_329001 := n2_; have HO344 := n3_; have HO348 := n4_; have BK308 := n5_; have BK318 := n6_; have BK323 := n7_; have BK328 := n8_; have BK349 := n9_; have HB := n10_; clear n0_ n1_ n2_ n3_ n4_ n5_ n6_ n7_ n8_ n9_ n10_; (try clear hb); (try clear hb2); (try clear hk); (try clear hi)))
               (try simp only [Act.put, List.setIfInBounds_toArray, List.set_cons_zero, List.set_cons_succ])
               go_cut [] (fun wc => ∃ (kq : Nat), Aside0 (laws_FnExactShardsOf.j7 kq t338 t324 t339 = some r) ∧ Aside0 (kq ≤ kj76) ∧ Aside0 (Kd.V (Kd.int .i64) 2 wc w.heap.size (fun k_ => some k_ ≠ ((.slice Ao28 t336.length co28) : Value).ownBlock ∧ some k_ ≠ ((.slice Ao35 t339.length co35) : Value).ownBlock ∧ some k_ ≠ ((.slice Ao96 t346.length co96) : Value).ownBlock ∧ k_ ≠ gb308 ∧ k_ ≠ gb318 ∧ k_ ≠ gb323 ∧ k_ ≠ gb328 ∧ k_ ≠ gb349) (.slice Ao21 t315.length co21) t315) ∧ Aside0 (Kd.R k89 89 wc w.heap.size (fun _ => True) (.slice Ao28 t336.length co28) t336) ∧ Aside0 (Kd.R (Kd.int .i64) 2 wc w.heap.size (fun k_ => some k_ ≠ ((.slice Ao96 t346.length co96) : Value).ownBlock) (.slice Ao35 t339.length co35) t339) ∧ Aside0 (Kd.R (Kd.int .i64) 2 wc w.heap.size (fun k_ => some k_ ≠ ((.slice Ao35 t339.length co35) : Value).ownBlock) (.slice Ao96 t346.length co96) t346) ∧ Aside0 (wc.heap[gb308]? = some (.cells #[.int .i64 a0_0, (.slice A0_1 l0_1.length c0_1)] 31 (0, 0))) ∧ Aside0 (wc.heap[gb318]? = some (.cells #[.int .i64 t314, (.slice Ao21 t315.length co21)] 83 (0, 0))) ∧ Aside0 (wc.heap[gb323]? = some (.cells #[.int .i64 t319, (.slice Ao28 t336.length co28)] 36 (0, 0))) ∧ Aside0 (wc.heap[gb328]? = some (.cells #[.int .i64 t324, (.slice Ao35 t339.length co35)] 83 (0, 0))) ∧ Aside0 (wc.heap[gb349]? = some (.cells #[.int .i64 t345, (.slice Ao96 t346.length co96)] 83 (0, 0))) ∧ Aside0 (Below w.heap.size w wc))
               case first =>
                have H := HC82.out
                clear HC82
                by_cases c101 : t350 = true
                ·subst c101
                 have H1 : (laws_FnExactShardsOf.j7 kj76 t338 t324 t339) = some r := by rw [if_pos rfl] at H; exact H
                 clear H
                 have H := H1
                 clear H1
                 have H' := Aside0.mk H
                 clear H
                 go_wp2
                 go_meet
                 case rel => exact ⟨_, H', ⟨by have := HJ2.out; have := HJ12.out; have := HJ40.out; have := HJ47.out; have := HJ63.out; have := HJ67.out; have := HJ76.out; first | omega | exact Nat.le_refl _⟩, ⟨by (try simp only [hl324001_47]); (try simp only [hl329001_67]); (with_reducible repeat (first | apply Kd.V_alloc | apply Kd.V_drewN | apply Kd.V_drew)); exact Kd.V_mono HO_319001.out (fun _ hk => ⟨hk.1.1.1.1, ⟨hk.1.1.1.2.1, ⟨hk.1.2, ⟨hk.1.1.1.2.2.1, ⟨hk.1.1.1.2.2.2.1, ⟨hk.1.1.1.2.2.2.2.1, ⟨hk.1.1.1.2.2.2.2.2, hk.2⟩⟩⟩⟩⟩⟩⟩)⟩, ⟨by (try simp only [hl324001_47]); (try simp only [hl329001_67]); (with_reducible repeat (first | apply Kd.R_alloc | apply Kd.R_drewN | apply Kd.R_drew)); exact Kd.R_mono HO_324001.out (fun _ hk => trivial)⟩, ⟨by (try simp only [hl324001_47]); (try simp only [hl329001_67]); (with_reducible repeat (first | apply Kd.R_alloc | apply Kd.R_drewN | apply Kd.R_drew)); exact Kd.R_mono HO_329001.out (fun _ hk => hk.2)⟩, ⟨by (try simp only [hl324001_47]); (try simp only [hl329001_67]); (with_reducible repeat (first | apply Kd.R_alloc | apply Kd.R_drewN | apply Kd.R_drew)); exact Kd.R_mono HO348.out (fun _ hk => hk.2)⟩, ⟨by (try simp only [hl324001_47]); (try simp only [hl329001_67]); (with_reducible repeat (first | refine blk_drewN ?_ _ | refine blk_drew ?_ | refine blk_alloc ?_ _)); exact BK308.out⟩, ⟨by (try simp only [hl324001_47]); (try simp only [hl329001_67]); (with_reducible repeat (first | refine blk_drewN ?_ _ | refine blk_drew ?_ | refine blk_alloc ?_ _)); exact BK318.out⟩, ⟨by (try simp only [hl324001_47]); (try simp only [hl329001_67]); (with_reducible repeat (first | refine blk_drewN ?_ _ | refine blk_drew ?_ | refine blk_alloc ?_ _)); exact BK323.out⟩, ⟨by (try simp only [hl324001_47]); (try simp only [hl329001_67]); (with_reducible repeat (first | refine blk_drewN ?_ _ | refine blk_drew ?_ | refine blk_alloc ?_ _)); exact BK328.out⟩, ⟨by (try simp only [hl324001_47]); (try simp only [hl329001_67]); (with_reducible repeat (first | refine blk_drewN ?_ _ | refine blk_drew ?_ | refine blk_alloc ?_ _)); exact BK349.out⟩, ⟨bq⟩⟩
                ·replace c101 := Bool.eq_false_iff.mpr c101
                 subst c101
                 have H1 : (some false) = some r := by rw [if_neg (show ¬ (false = true) by decide)] at H; exact H
                 clear H
                 have H := H1
                 clear H1
                 obtain rfl := Option.some.inj H
                 go_wp2
                 go_ret
                 exact ⟨by first | rfl | (simp [errW_none, errW_some] <;> rfl) | (simp [*, errW_none, errW_some] <;> rfl), bq⟩
               case rest =>
                clear HC82
                (try clear c1); (try clear c2); (try clear p2); (try clear c3); (try clear c4); (try clear c5); (try clear c6); (try clear c7); (try clear c7b0); (try clear c8); (try clear c9); (try clear c10)
                (try clear c14); (try clear c19); (try clear c20); (try clear c22); (try clear c24); (try clear c25); (try clear c26); (try clear c31); (try clear c32); (try clear c33); (try clear c38)
                (try clear c46); (try clear c49); (try clear c50); (try clear c51); (try clear c54); (try clear c54b0); (try clear c56); (try clear c57); (try clear c58); (try clear c60); (try clear c61)
                (try clear c62); (try clear c63); (try clear c64); (try clear c65); (try clear c69); (try clear c70); (try clear c71); (try clear c76); (try clear c76b0); (try clear c78); (try clear c78b0)
                (try clear c78b1); (try clear c83); (try clear c84); (try clear c85); (try clear c91); (try clear c92); (try clear c93); (try clear c94); (try clear c97); (try clear c98); (try clear c101)
                (try clear hcz14_0); (try clear hcz14_1); (try clear hcz20_0); (try clear hcz20_1); (try clear hcz22_0); (try clear hcz22_1); (try clear hcz27_0); (try clear hcz27_1); (try clear hcz34_0)
                (try clear hcz34_1); (try clear hcz36_0); (try clear hcz36_1); (try clear hcz52_0); (try clear hcz52_1); (try clear hcz59_0); (try clear hcz59_1); (try clear hcz5_0); (try clear hcz5_1)
                (try clear hcz62_0); (try clear hcz62_1); (try clear hcz72_0); (try clear hcz72_1); (try clear hcz74_0); (try clear hcz74_1); (try clear hcz86_0); (try clear hcz86_1); (try clear hcz95_0)
                (try clear hcz95_1); (try clear hcz99_0); (try clear hcz99_1); (try clear hfz14_0); (try clear hfz14_1); (try clear hfz20_0); (try clear hfz20_1); (try clear hfz22_0); (try clear hfz22_1)
                (try clear hfz27_0); (try clear hfz27_1); (try clear hfz34_0); (try clear hfz34_1); (try clear hfz36_0); (try clear hfz36_1); (try clear hfz52_0); (try clear hfz52_1); (try clear hfz59_0)
                (try clear hfz59_1); (try clear hfz5_0); (try clear hfz5_1); (try clear hfz62_0); (try clear hfz62_1); (try clear hfz72_0); (try clear hfz72_1); (try clear hfz74_0); (try clear hfz74_1)
                (try clear hfz86_0); (try clear hfz86_1); (try clear hfz95_0); (try clear hfz95_1); (try clear hfz99_0); (try clear hfz99_1); (try clear p2)
                obtain ⟨kq, HA, HJ81, HO_319001, HO_324001, HO_329001, HO_350001, BK308, BK318, BK323, BK328, BK349, HB⟩ := hcut
                cases kq with
                | zero => exact absurd HA.out (by simp [laws_FnExactShardsOf.j7])
                | succ kj81 =>
                 have H := HA.out
                 clear HA
                 simp only [laws_FnExactShardsOf.j7] at H
                 replace H := Option.bind_eq_some_iff.mp H
                 obtain ⟨t351, A1020, H⟩ := H
                 replace H : (if t351 < 0 then (some false) else (if t351 = t338 then (some true) else (some false))) = some r := H
                 have A102 := Aside0.mk A1020
                 clear A1020
                 by_cases c103 : t351 < 0
                 ·rw [if_pos c103] at H
                  have c103b0 : decide (t351 < 0) = true := decide_eq_true c103
                  clear c103
                  obtain rfl := Option.some.inj H
                  have hnb104 := NB328_308.out
                  have hnc104 := NB308_328.out
                  have hnb105 := NB328_318.out
                  have hnc105 := NB318_328.out
                  have hnb106 := NB328_323.out
                  have hnc106 := NB323_328.out
                  have hnb107 := NB328_349.out
                  have hnc107 := NB349_328.out
                  have hcz108_0 : wc.cell? ⟨gb328, 0, none⟩ = some (.int .i64 t324) := (blk_cell BK328.out 0).trans rfl
                  have hcz108_1 : wc.cell? ⟨gb328, 1, none⟩ = some (.slice Ao35 t339.length co35) := (blk_cell BK328.out 1).trans rfl
                  have hfz108_0 := blk_frozen BK328.out 0
                  have hfz108_1 := blk_frozen BK328.out 1
                  go_wp2_with (first | ((with_reducible refine gate_callee (f := 64) rfl ?_); refine goesLq (some 63) rfl rfl Try.func64 (by kernel_rfl) rfl #[.agg #[.int .i64 t324, .slice Ao35 t339.length co35], .int .i64 1] rfl ?_; (with_reducible refine (laws_heldIntsResult.calls kj81 t324 _ _ t339 1 t351 _ ?side1 ?side2 A102.out).mono ?_); (case side1 => repeat (first | exact (Kd.R_reads' HO_329001.out).2.2 | (with_reducible refine Kd.C_alloc ?_ _) | (with_reducible refine Kd.C_drewN ?_ _) | (with_reducible refine Kd.C_drew ?_))); (case side2 => exact (Kd.R_reads' HO_329001.out).2.1); rintro e w109 ⟨rfl, hb⟩; refine ⟨_, rfl, ?_⟩; have n0_ := Aside0.mk (Kd.V_below (by (with_reducible repeat (first | apply Kd.V_alloc | apply Kd.V_drewN | apply Kd.V_drew)); exact HO_319001.out) hb); have n1_ := Aside0.mk (Kd.R_below (by (with_reducible repeat (first | apply Kd.R_alloc | apply Kd.R_drewN | apply Kd.R_drew)); exact HO_324001.out) hb); have n2_ := Aside0.mk (Kd.R_below (by (with_reducible repeat (first | apply Kd.R_alloc | apply Kd.R_drewN | apply Kd.R_drew)); exact HO_329001.out) hb); have n3_ := Aside0.mk (Kd.R_below (by (with_reducible repeat (first | apply Kd.R_alloc | apply Kd.R_drewN | apply Kd.R_drew)); exact HO_350001.out) hb); have n4_ := Aside0.mk (blk_below (g := gb308) (o := .cells #[.int .i64 a0_0, .slice A0_1 l0_1.length c0_1] 31 (0, 0)) kq hb); have n5_ := Aside0.mk (blk_below (g := gb318) (o := .cells #[.int .i64 t314, .slice Ao21 t315.length co21] 83 (0, 0)) kq hb); have n6_ := Aside0.mk (blk_below (g := gb323) (o := .cells #[.int .i64 t319, .slice Ao28 t336.length co28] 36 (0, 0)) kq hb); have n7_ := Aside0.mk (blk_below (g := gb328) (o := .cells #[.int .i64 t324, .slice Ao35 t339.length co35] 83 (0, 0)) kq hb); have n8_ := Aside0.mk (blk_below (g := gb349) (o := .cells #[.int .i64 t345, .slice Ao96 t346.length co96] 83 (0, 0)) kq hb); have n9_ := Aside0.mk (below_step bq hb); clear HO_319001; clear HO_324001; clear HO_329001; clear HO_350001; clear BK308; clear BK318; clear BK323; clear BK328; clear BK349; clear HB; have HO_319001 := n0_; have HO_324001 := n1_; have HO_329001 := n2_; have HO_350001 := n3_; have BK308 := n4_; have BK318 := n5_; have BK323 := n6_; have BK328 := n7_; have BK349 := n8_; have HB := n9_; clear n0_ n1_ n2_ n3_ n4_ n5_ n6_ n7_ n8_ n9_; (try clear hb); (try clear hb2); (try clear hk); (try clear hi)))
                  go_ret
                  exact ⟨by first | rfl | (simp [errW_none, errW_some] <;> rfl) | (simp [*, errW_none, errW_some] <;> rfl), bq⟩
                 ·rw [if_neg c103] at H
                  have c103b0 : decide (t351 < 0) = false := decide_eq_false c103
                  clear c103
                  by_cases c110 : t351 = t338
                  ·rw [if_pos c110] at H
                   have c110b0 : (t351 == t338) = true := beq_iff_eq.mpr c110
                   have c110b1 : (t351 != t338) = false := bne_eq_false_iff_eq.mpr c110
                   clear c110
                   obtain rfl := Option.some.inj H
                   have hnb111 := NB328_308.out
                   have hnc111 := NB308_328.out
                   have hnb112 := NB328_318.out
                   have hnc112 := NB318_328.out
                   have hnb113 := NB328_323.out
                   have hnc113 := NB323_328.out
                   have hnb114 := NB328_349.out
                   have hnc114 := NB349_328.out
                   have hcz115_0 : wc.cell? ⟨gb328, 0, none⟩ = some (.int .i64 t324) := (blk_cell BK328.out 0).trans rfl
                   have hcz115_1 : wc.cell? ⟨gb328, 1, none⟩ = some (.slice Ao35 t339.length co35) := (blk_cell BK328.out 1).trans rfl
                   have hfz115_0 := blk_frozen BK328.out 0
                   have hfz115_1 := blk_frozen BK328.out 1
                   go_wp2_with (first | ((with_reducible refine gate_callee (f := 64) rfl ?_); refine goesLq (some 63) rfl rfl Try.func64 (by kernel_rfl) rfl #[.agg #[.int .i64 t324, .slice Ao35 t339.length co35], .int .i64 1] rfl ?_; (with_reducible refine (laws_heldIntsResult.calls kj81 t324 _ _ t339 1 t351 _ ?side1 ?side2 A102.out).mono ?_); (case side1 => repeat (first | exact (Kd.R_reads' HO_329001.out).2.2 | (with_reducible refine Kd.C_alloc ?_ _) | (with_reducible refine Kd.C_drewN ?_ _) | (with_reducible refine Kd.C_drew ?_))); (case side2 => exact (Kd.R_reads' HO_329001.out).2.1); rintro e w116 ⟨rfl, hb⟩; refine ⟨_, rfl, ?_⟩; have n0_ := Aside0.mk (Kd.V_below (by (with_reducible repeat (first | apply Kd.V_alloc | apply Kd.V_drewN | apply Kd.V_drew)); exact HO_319001.out) hb); have n1_ := Aside0.mk (Kd.R_below (by (with_reducible repeat (first | apply Kd.R_alloc | apply Kd.R_drewN | apply Kd.R_drew)); exact HO_324001.out) hb); have n2_ := Aside0.mk (Kd.R_below (by (with_reducible repeat (first | apply Kd.R_alloc | apply Kd.R_drewN | apply Kd.R_drew)); exact HO_329001.out) hb); have n3_ := Aside0.mk (Kd.R_below (by (with_reducible repeat (first | apply Kd.R_alloc | apply Kd.R_drewN | apply Kd.R_drew)); exact HO_350001.out) hb); have n4_ := Aside0.mk (blk_below (g := gb308) (o := .cells #[.int .i64 a0_0, .slice A0_1 l0_1.length c0_1] 31 (0, 0)) kq hb); have n5_ := Aside0.mk (blk_below (g := gb318) (o := .cells #[.int .i64 t314, .slice Ao21 t315.length co21] 83 (0, 0)) kq hb); have n6_ := Aside0.mk (blk_below (g := gb323) (o := .cells #[.int .i64 t319, .slice Ao28 t336.length co28] 36 (0, 0)) kq hb); have n7_ := Aside0.mk (blk_below (g := gb328) (o := .cells #[.int .i64 t324, .slice Ao35 t339.length co35] 83 (0, 0)) kq hb); have n8_ := Aside0.mk (blk_below (g := gb349) (o := .cells #[.int .i64 t345, .slice Ao96 t346.length co96] 83 (0, 0)) kq hb); have n9_ := Aside0.mk (below_step bq hb); clear HO_319001; clear HO_324001; clear HO_329001; clear HO_350001; clear BK308; clear BK318; clear BK323; clear BK328; clear BK349; clear HB; have HO_319001 := n0_; have HO_324001 := n1_; have HO_329001 := n2_; have HO_350001 := n3_; have BK308 := n4_; have BK318 := n5_; have BK323 := n6_; have BK328 := n7_; have BK349 := n8_; have HB := n9_; clear n0_ n1_ n2_ n3_ n4_ n5_ n6_ n7_ n8_ n9_; (try clear hb); (try clear hb2); (try clear hk); (try clear hi)))
                   go_ret
                   exact ⟨by first | rfl | (simp [errW_none, errW_some] <;> rfl) | (simp [*, errW_none, errW_some] <;> rfl), bq⟩
                  ·rw [if_neg c110] at H
                   have c110b0 : (t351 == t338) = false := beq_eq_false_iff_ne.mpr c110
                   have c110b1 : (t351 != t338) = true := bne_iff_ne.mpr c110
                   obtain rfl := Option.some.inj H
                   have hnb117 := NB328_308.out
                   have hnc117 := NB308_328.out
                   have hnb118 := NB328_318.out
                   have hnc118 := NB318_328.out
                   have hnb119 := NB328_323.out
                   have hnc119 := NB323_328.out
                   have hnb120 := NB328_349.out
                   have hnc120 := NB349_328.out
                   have hcz121_0 : wc.cell? ⟨gb328, 0, none⟩ = some (.int .i64 t324) := (blk_cell BK328.out 0).trans rfl
                   have hcz121_1 : wc.cell? ⟨gb328, 1, none⟩ = some (.slice Ao35 t339.length co35) := (blk_cell BK328.out 1).trans rfl
                   have hfz121_0 := blk_frozen BK328.out 0
                   have hfz121_1 := blk_frozen BK328.out 1
                   go_wp2_with (first | ((with_reducible refine gate_callee (f := 64) rfl ?_); refine goesLq (some 63) rfl rfl Try.func64 (by kernel_rfl) rfl #[.agg #[.int .i64 t324, .slice Ao35 t339.length co35], .int .i64 1] rfl ?_; (with_reducible refine (laws_heldIntsResult.calls kj81 t324 _ _ t339 1 t351 _ ?side1 ?side2 A102.out).mono ?_); (case side1 => repeat (first | exact (Kd.R_reads' HO_329001.out).2.2 | (with_reducible refine Kd.C_alloc ?_ _) | (with_reducible refine Kd.C_drewN ?_ _) | (with_reducible refine Kd.C_drew ?_))); (case side2 => exact (Kd.R_reads' HO_329001.out).2.1); rintro e w122 ⟨rfl, hb⟩; refine ⟨_, rfl, ?_⟩; have n0_ := Aside0.mk (Kd.V_below (by (with_reducible repeat (first | apply Kd.V_alloc | apply Kd.V_drewN | apply Kd.V_drew)); exact HO_319001.out) hb); have n1_ := Aside0.mk (Kd.R_below (by (with_reducible repeat (first | apply Kd.R_alloc | apply Kd.R_drewN | apply Kd.R_drew)); exact HO_324001.out) hb); have n2_ := Aside0.mk (Kd.R_below (by (with_reducible repeat (first | apply Kd.R_alloc | apply Kd.R_drewN | apply Kd.R_drew)); exact HO_329001.out) hb); have n3_ := Aside0.mk (Kd.R_below (by (with_reducible repeat (first | apply Kd.R_alloc | apply Kd.R_drewN | apply Kd.R_drew)); exact HO_350001.out) hb); have n4_ := Aside0.mk (blk_below (g := gb308) (o := .cells #[.int .i64 a0_0, .slice A0_1 l0_1.length c0_1] 31 (0, 0)) kq hb); have n5_ := Aside0.mk (blk_below (g := gb318) (o := .cells #[.int .i64 t314, .slice Ao21 t315.length co21] 83 (0, 0)) kq hb); have n6_ := Aside0.mk (blk_below (g := gb323) (o := .cells #[.int .i64 t319, .slice Ao28 t336.length co28] 36 (0, 0)) kq hb); have n7_ := Aside0.mk (blk_below (g := gb328) (o := .cells #[.int .i64 t324, .slice Ao35 t339.length co35] 83 (0, 0)) kq hb); have n8_ := Aside0.mk (blk_below (g := gb349) (o := .cells #[.int .i64 t345, .slice Ao96 t346.length co96] 83 (0, 0)) kq hb); have n9_ := Aside0.mk (below_step bq hb); clear HO_319001; clear HO_324001; clear HO_329001; clear HO_350001; clear BK308; clear BK318; clear BK323; clear BK328; clear BK349; clear HB; have HO_319001 := n0_; have HO_324001 := n1_; have HO_329001 := n2_; have HO_350001 := n3_; have BK308 := n4_; have BK318 := n5_; have BK323 := n6_; have BK328 := n7_; have BK349 := n8_; have HB := n9_; clear n0_ n1_ n2_ n3_ n4_ n5_ n6_ n7_ n8_ n9_; (try clear hb); (try clear hb2); (try clear hk); (try clear hi)))
                   go_ret
                   exact ⟨by first | rfl | (simp [errW_none, errW_some] <;> rfl) | (simp [*, errW_none, errW_some] <;> rfl), bq⟩

end Go.Proofs.Ytooiamkaipdmpaa.PFnExactShardsOf
