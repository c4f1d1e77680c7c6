/- The functions that a law reaches, each as a plain Lean function with the proof that the machine comes to its answer: written by program (the kit's print, turned by wip/gen). No conditions. -/
import Derived.Test.YtcdpiejcdeedoaaPFnExactTrimLogx0
import Derived.Test.YtcdpiejcdeedoaaPFnExactTrimLogx1
import Derived.Test.YtcdpiejcdeedoaaPFnExactTrimLogx2
import Derived.Test.YtcdpiejcdeedoaaPFnExactTrimLogx4
namespace Go.Proofs.Ytcdpiejcdeedoaa.PFnExactTrimLog
open Go.RowKit Go.Proofs.YtcdpiejcdeedoaaW.PrintWords Go.Proofs.YtcdpiejcdeedoaaW.PrintLast Go.Proofs.YtcdpiejcdeedoaaW.PrintMore
attribute [local go_sem] max2_int min2_int max_two min_two max_three min_three max_four min_four   -- for this text's walks alone
set_option linter.unusedVariables false
set_option linter.unusedSimpArgs false

/-! ### laws_FnExactTrimLog: function 9 -/
mutual
def laws_FnExactTrimLog.j0 : Nat → List Int → List Int → Option (Bool)
  | 0, _, _ => none
  | k + 1, x241000, x241001 => (laws_toLog.f k x241000 x241001).bind fun bt242 => ((spec_TrimLog.f k bt242.1 bt242.2).bind fun bt248 => ((laws_toLog.f k x241000 x241001).bind fun bt256 => ((impl_TrimLog.f k bt256.1 bt256.2).bind fun bt263 => ((laws_eqLogResult.f k bt263.1 bt263.2.1 bt263.2.2 bt248.1 bt248.2.1 bt248.2.2).bind fun t271 => (if t271 = true then (laws_FnExactTrimLog.j1 k x241000 x241001 bt248.1 bt248.2.1 bt248.2.2 bt256.1 bt256.2 bt263.1 bt263.2.1 bt263.2.2) else (some false))))))
def laws_FnExactTrimLog.j1 : Nat → List Int → List Int → Int → List Int → List Int → List Int → List Int → Int → List Int → List Int → Option (Bool)
  | 0, _, _, _, _, _, _, _, _, _, _ => none
  | k + 1, x241000, x241001, x256000, x256001, x256002, x263000, x263001, x271000, x271001, x271002 => (laws_toLog.f k x241000 x241001).bind fun bt272 => ((laws_eqLog.f k x263000 x263001 bt272.1 bt272.2).bind fun t278 => (if t278 = true then (laws_FnExactTrimLog.j2 k x241000 x241001 x256000 x256001 x256002 x263000 x263001 x271000 x271001 x271002) else (some false)))
def laws_FnExactTrimLog.j2 : Nat → List Int → List Int → Int → List Int → List Int → List Int → List Int → Int → List Int → List Int → Option (Bool)
  | 0, _, _, _, _, _, _, _, _, _, _ => none
  | k + 1, x241000, x241001, x256000, x256001, x256002, x263000, x263001, x271000, x271001, x271002 => (laws_markLog.f k x263000 x263001 1).bind fun bt279 => (if bt279.1 < 0 then (laws_FnExactTrimLog.j3 k true x241000 x241001 x256000 x256001 x256002 x271000 x271001 x271002) else ((laws_eqLogResult.f k x271000 x271001 x271002 x256000 x256001 x256002).bind fun t282 => (laws_FnExactTrimLog.j3 k (!t282) x241000 x241001 x256000 x256001 x256002 x271000 x271001 x271002)))
def laws_FnExactTrimLog.j3 : Nat → Bool → List Int → List Int → Int → List Int → List Int → Int → List Int → List Int → Option (Bool)
  | 0, _, _, _, _, _, _, _, _, _ => none
  | k + 1, x42, x241000, x241001, x256000, x256001, x256002, x271000, x271001, x271002 => if x42 = true then (some false) else (laws_FnExactTrimLog.j4 k x241000 x241001 x256000 x256001 x256002 x271000 x271001 x271002)
def laws_FnExactTrimLog.j4 : Nat → List Int → List Int → Int → List Int → List Int → Int → List Int → List Int → Option (Bool)
  | 0, _, _, _, _, _, _, _, _ => none
  | k + 1, x241000, x241001, x256000, x256001, x256002, x271000, x271001, x271002 => (laws_markLogResult.f k x271000 x271001 x271002 1).bind fun bt283 => ((laws_heldLogResult.f k x271000 bt283.2.1 bt283.2.2 1).bind fun t286 => (if t286 < 0 then (some false) else (laws_FnExactTrimLog.j5 k bt283.1 t286 x241000 x241001 x256000 x256001 x256002 x271000 bt283.2.1 bt283.2.2)))
def laws_FnExactTrimLog.j5 : Nat → Int → Int → List Int → List Int → Int → List Int → List Int → Int → List Int → List Int → Option (Bool)
  | 0, _, _, _, _, _, _, _, _, _, _ => none
  | k + 1, x8, x9, x241000, x241001, x256000, x256001, x256002, x271000, x271001, x271002 => if x9 = x8 then (laws_FnExactTrimLog.j6 k x8 x241000 x241001 x256000 x256001 x256002 x271000 x271001 x271002) else (some false)
def laws_FnExactTrimLog.j6 : Nat → Int → List Int → List Int → Int → List Int → List Int → Int → List Int → List Int → Option (Bool)
  | 0, _, _, _, _, _, _, _, _, _ => none
  | k + 1, x8, x241000, x241001, x256000, x256001, x256002, x271000, x271001, x271002 => (laws_toLog.f k x241000 x241001).bind fun bt287 => ((impl_TrimLog.f k bt287.1 bt287.2).bind fun bt293 => ((laws_eqLogResult.f k bt293.1 bt293.2.1 bt293.2.2 x256000 x256001 x256002).bind fun t301 => (if t301 = true then (laws_FnExactTrimLog.j7 k x8 x271000 x271001 x271002) else (some false))))
def laws_FnExactTrimLog.j7 : Nat → Int → Int → List Int → List Int → Option (Bool)
  | 0, _, _, _, _ => none
  | k + 1, x8, x271000, x271001, x271002 => (laws_heldLogResult.f k x271000 x271001 x271002 1).bind fun t302 => (if t302 < 0 then (some false) else (if t302 = x8 then (some true) else (some false)))
end
def laws_FnExactTrimLog.f (k : Nat) (l0_0 : List Int) (l0_1 : List Int) : Option (Bool) := (laws_szLog.f l0_0 l0_1 1048576).bind fun t241 => (if t241 < 0 then (some true) else (laws_FnExactTrimLog.j0 k l0_0 l0_1))
theorem laws_FnExactTrimLog.mono_l : ∀ k, (∀ y0 y1, LeO (laws_FnExactTrimLog.j0 k y0 y1) (laws_FnExactTrimLog.j0 (k + 1) y0 y1)) ∧ (∀ y0 y1 y2 y3 y4 y5 y6 y7 y8 y9, LeO (laws_FnExactTrimLog.j1 k y0 y1 y2 y3 y4 y5 y6 y7 y8 y9) (laws_FnExactTrimLog.j1 (k + 1) y0 y1 y2 y3 y4 y5 y6 y7 y8 y9)) ∧ (∀ y0 y1 y2 y3 y4 y5 y6 y7 y8 y9, LeO (laws_FnExactTrimLog.j2 k y0 y1 y2 y3 y4 y5 y6 y7 y8 y9) (laws_FnExactTrimLog.j2 (k + 1) y0 y1 y2 y3 y4 y5 y6 y7 y8 y9)) ∧ (∀ y0 y1 y2 y3 y4 y5 y6 y7 y8, LeO (laws_FnExactTrimLog.j3 k y0 y1 y2 y3 y4 y5 y6 y7 y8) (laws_FnExactTrimLog.j3 (k + 1) y0 y1 y2 y3 y4 y5 y6 y7 y8)) ∧ (∀ y0 y1 y2 y3 y4 y5 y6 y7, LeO (laws_FnExactTrimLog.j4 k y0 y1 y2 y3 y4 y5 y6 y7) (laws_FnExactTrimLog.j4 (k + 1) y0 y1 y2 y3 y4 y5 y6 y7)) ∧ (∀ y0 y1 y2 y3 y4 y5 y6 y7 y8 y9, LeO (laws_FnExactTrimLog.j5 k y0 y1 y2 y3 y4 y5 y6 y7 y8 y9) (laws_FnExactTrimLog.j5 (k + 1) y0 y1 y2 y3 y4 y5 y6 y7 y8 y9)) ∧ (∀ y0 y1 y2 y3 y4 y5 y6 y7 y8, LeO (laws_FnExactTrimLog.j6 k y0 y1 y2 y3 y4 y5 y6 y7 y8) (laws_FnExactTrimLog.j6 (k + 1) y0 y1 y2 y3 y4 y5 y6 y7 y8)) ∧ (∀ y0 y1 y2 y3, LeO (laws_FnExactTrimLog.j7 k y0 y1 y2 y3) (laws_FnExactTrimLog.j7 (k + 1) y0 y1 y2 y3))
  | 0 => ⟨fun _ _ r h => by simp [laws_FnExactTrimLog.j0] at h, fun _ _ _ _ _ _ _ _ _ _ r h => by simp [laws_FnExactTrimLog.j1] at h, fun _ _ _ _ _ _ _ _ _ _ r h => by simp [laws_FnExactTrimLog.j2] at h, fun _ _ _ _ _ _ _ _ _ r h => by simp [laws_FnExactTrimLog.j3] at h, fun _ _ _ _ _ _ _ _ r h => by simp [laws_FnExactTrimLog.j4] at h, fun _ _ _ _ _ _ _ _ _ _ r h => by simp [laws_FnExactTrimLog.j5] at h, fun _ _ _ _ _ _ _ _ _ r h => by simp [laws_FnExactTrimLog.j6] at h, fun _ _ _ _ r h => by simp [laws_FnExactTrimLog.j7] at h⟩
  | k + 1 => by
    obtain ⟨ih0, ih1, ih2, ih3, ih4, ih5, ih6, ih7⟩ := laws_FnExactTrimLog.mono_l k
    refine ⟨?_, ?_, ?_, ?_, ?_, ?_, ?_, ?_⟩
    · intro y0 y1
      unfold laws_FnExactTrimLog.j0
      repeat' first
      | (with_reducible exact ih0 _ _)
      | (with_reducible exact ih1 _ _ _ _ _ _ _ _ _ _)
      | (with_reducible exact ih2 _ _ _ _ _ _ _ _ _ _)
      | (with_reducible exact ih3 _ _ _ _ _ _ _ _ _)
      | (with_reducible exact ih4 _ _ _ _ _ _ _ _)
      | (with_reducible exact ih5 _ _ _ _ _ _ _ _ _ _)
      | (with_reducible exact ih6 _ _ _ _ _ _ _ _ _)
      | (with_reducible exact ih7 _ _ _ _)
      | (with_reducible exact impl_TrimLog.mono _ _ _)
      | (with_reducible exact laws_eqLog.mono _ _ _ _ _)
      | (with_reducible exact laws_eqLogResult.mono _ _ _ _ _ _ _)
      | (with_reducible exact laws_heldLogResult.mono _ _ _ _ _)
      | (with_reducible exact laws_markLog.mono _ _ _ _)
      | (with_reducible exact laws_markLogResult.mono _ _ _ _ _)
      | (with_reducible exact laws_toLog.mono _ _ _)
      | (with_reducible exact spec_TrimLog.mono _ _ _)
      | (with_reducible exact LeO.refl _)
      | (with_reducible exact LeO.none _)
      | (with_reducible refine LeO.ite ?_ ?_)
      | (with_reducible refine LeO.bind ?_ (fun _ => ?_))
      | exact ih0 _ _
      | exact ih1 _ _ _ _ _ _ _ _ _ _
      | exact ih2 _ _ _ _ _ _ _ _ _ _
      | exact ih3 _ _ _ _ _ _ _ _ _
      | exact ih4 _ _ _ _ _ _ _ _
      | exact ih5 _ _ _ _ _ _ _ _ _ _
      | exact ih6 _ _ _ _ _ _ _ _ _
      | exact ih7 _ _ _ _
      | exact impl_TrimLog.mono _ _ _
      | exact laws_eqLog.mono _ _ _ _ _
      | exact laws_eqLogResult.mono _ _ _ _ _ _ _
      | exact laws_heldLogResult.mono _ _ _ _ _
      | exact laws_markLog.mono _ _ _ _
      | exact laws_markLogResult.mono _ _ _ _ _
      | exact laws_toLog.mono _ _ _
      | exact spec_TrimLog.mono _ _ _
      | exact LeO.none _
      | refine LeO.ite ?_ ?_
      | refine LeO.bind ?_ (fun _ => ?_)
    · intro y0 y1 y2 y3 y4 y5 y6 y7 y8 y9
      unfold laws_FnExactTrimLog.j1
      repeat' first
      | (with_reducible exact ih0 _ _)
      | (with_reducible exact ih1 _ _ _ _ _ _ _ _ _ _)
      | (with_reducible exact ih2 _ _ _ _ _ _ _ _ _ _)
      | (with_reducible exact ih3 _ _ _ _ _ _ _ _ _)
      | (with_reducible exact ih4 _ _ _ _ _ _ _ _)
      | (with_reducible exact ih5 _ _ _ _ _ _ _ _ _ _)
      | (with_reducible exact ih6 _ _ _ _ _ _ _ _ _)
      | (with_reducible exact ih7 _ _ _ _)
      | (with_reducible exact impl_TrimLog.mono _ _ _)
      | (with_reducible exact laws_eqLog.mono _ _ _ _ _)
      | (with_reducible exact laws_eqLogResult.mono _ _ _ _ _ _ _)
      | (with_reducible exact laws_heldLogResult.mono _ _ _ _ _)
      | (with_reducible exact laws_markLog.mono _ _ _ _)
      | (with_reducible exact laws_markLogResult.mono _ _ _ _ _)
      | (with_reducible exact laws_toLog.mono _ _ _)
      | (with_reducible exact spec_TrimLog.mono _ _ _)
      | (with_reducible exact LeO.refl _)
      | (with_reducible exact LeO.none _)
      | (with_reducible refine LeO.ite ?_ ?_)
      | (with_reducible refine LeO.bind ?_ (fun _ => ?_))
      | exact ih0 _ _
      | exact ih1 _ _ _ _ _ _ _ _ _ _
      | exact ih2 _ _ _ _ _ _ _ _ _ _
      | exact ih3 _ _ _ _ _ _ _ _ _
      | exact ih4 _ _ _ _ _ _ _ _
      | exact ih5 _ _ _ _ _ _ _ _ _ _
      | exact ih6 _ _ _ _ _ _ _ _ _
      | exact ih7 _ _ _ _
      | exact impl_TrimLog.mono _ _ _
      | exact laws_eqLog.mono _ _ _ _ _
      | exact laws_eqLogResult.mono _ _ _ _ _ _ _
      | exact laws_heldLogResult.mono _ _ _ _ _
      | exact laws_markLog.mono _ _ _ _
      | exact laws_markLogResult.mono _ _ _ _ _
      | exact laws_toLog.mono _ _ _
      | exact spec_TrimLog.mono _ _ _
      | exact LeO.none _
      | refine LeO.ite ?_ ?_
      | refine LeO.bind ?_ (fun _ => ?_)
    · intro y0 y1 y2 y3 y4 y5 y6 y7 y8 y9
      unfold laws_FnExactTrimLog.j2
      repeat' first
      | (with_reducible exact ih0 _ _)
      | (with_reducible exact ih1 _ _ _ _ _ _ _ _ _ _)
      | (with_reducible exact ih2 _ _ _ _ _ _ _ _ _ _)
      | (with_reducible exact ih3 _ _ _ _ _ _ _ _ _)
      | (with_reducible exact ih4 _ _ _ _ _ _ _ _)
      | (with_reducible exact ih5 _ _ _ _ _ _ _ _ _ _)
      | (with_reducible exact ih6 _ _ _ _ _ _ _ _ _)
      | (with_reducible exact ih7 _ _ _ _)
      | (with_reducible exact impl_TrimLog.mono _ _ _)
      | (with_reducible exact laws_eqLog.mono _ _ _ _ _)
      | (with_reducible exact laws_eqLogResult.mono _ _ _ _ _ _ _)
      | (with_reducible exact laws_heldLogResult.mono _ _ _ _ _)
      | (with_reducible exact laws_markLog.mono _ _ _ _)
      | (with_reducible exact laws_markLogResult.mono _ _ _ _ _)
      | (with_reducible exact laws_toLog.mono _ _ _)
      | (with_reducible exact spec_TrimLog.mono _ _ _)
      | (with_reducible exact LeO.refl _)
      | (with_reducible exact LeO.none _)
      | (with_reducible refine LeO.ite ?_ ?_)
      | (with_reducible refine LeO.bind ?_ (fun _ => ?_))
      | exact ih0 _ _
      | exact ih1 _ _ _ _ _ _ _ _ _ _
      | exact ih2 _ _ _ _ _ _ _ _ _ _
      | exact ih3 _ _ _ _ _ _ _ _ _
      | exact ih4 _ _ _ _ _ _ _ _
      | exact ih5 _ _ _ _ _ _ _ _ _ _
      | exact ih6 _ _ _ _ _ _ _ _ _
      | exact ih7 _ _ _ _
      | exact impl_TrimLog.mono _ _ _
      | exact laws_eqLog.mono _ _ _ _ _
      | exact laws_eqLogResult.mono _ _ _ _ _ _ _
      | exact laws_heldLogResult.mono _ _ _ _ _
      | exact laws_markLog.mono _ _ _ _
      | exact laws_markLogResult.mono _ _ _ _ _
      | exact laws_toLog.mono _ _ _
      | exact spec_TrimLog.mono _ _ _
      | exact LeO.none _
      | refine LeO.ite ?_ ?_
      | refine LeO.bind ?_ (fun _ => ?_)
    · intro y0 y1 y2 y3 y4 y5 y6 y7 y8
      unfold laws_FnExactTrimLog.j3
      repeat' first
      | (with_reducible exact ih0 _ _)
      | (with_reducible exact ih1 _ _ _ _ _ _ _ _ _ _)
      | (with_reducible exact ih2 _ _ _ _ _ _ _ _ _ _)
      | (with_reducible exact ih3 _ _ _ _ _ _ _ _ _)
      | (with_reducible exact ih4 _ _ _ _ _ _ _ _)
      | (with_reducible exact ih5 _ _ _ _ _ _ _ _ _ _)
      | (with_reducible exact ih6 _ _ _ _ _ _ _ _ _)
      | (with_reducible exact ih7 _ _ _ _)
      | (with_reducible exact impl_TrimLog.mono _ _ _)
      | (with_reducible exact laws_eqLog.mono _ _ _ _ _)
      | (with_reducible exact laws_eqLogResult.mono _ _ _ _ _ _ _)
      | (with_reducible exact laws_heldLogResult.mono _ _ _ _ _)
      | (with_reducible exact laws_markLog.mono _ _ _ _)
      | (with_reducible exact laws_markLogResult.mono _ _ _ _ _)
      | (with_reducible exact laws_toLog.mono _ _ _)
      | (with_reducible exact spec_TrimLog.mono _ _ _)
      | (with_reducible exact LeO.refl _)
      | (with_reducible exact LeO.none _)
      | (with_reducible refine LeO.ite ?_ ?_)
      | (with_reducible refine LeO.bind ?_ (fun _ => ?_))
      | exact ih0 _ _
      | exact ih1 _ _ _ _ _ _ _ _ _ _
      | exact ih2 _ _ _ _ _ _ _ _ _ _
      | exact ih3 _ _ _ _ _ _ _ _ _
      | exact ih4 _ _ _ _ _ _ _ _
      | exact ih5 _ _ _ _ _ _ _ _ _ _
      | exact ih6 _ _ _ _ _ _ _ _ _
      | exact ih7 _ _ _ _
      | exact impl_TrimLog.mono _ _ _
      | exact laws_eqLog.mono _ _ _ _ _
      | exact laws_eqLogResult.mono _ _ _ _ _ _ _
      | exact laws_heldLogResult.mono _ _ _ _ _
      | exact laws_markLog.mono _ _ _ _
      | exact laws_markLogResult.mono _ _ _ _ _
      | exact laws_toLog.mono _ _ _
      | exact spec_TrimLog.mono _ _ _
      | exact LeO.none _
      | refine LeO.ite ?_ ?_
      | refine LeO.bind ?_ (fun _ => ?_)
    · intro y0 y1 y2 y3 y4 y5 y6 y7
      unfold laws_FnExactTrimLog.j4
      repeat' first
      | (with_reducible exact ih0 _ _)
      | (with_reducible exact ih1 _ _ _ _ _ _ _ _ _ _)
      | (with_reducible exact ih2 _ _ _ _ _ _ _ _ _ _)
      | (with_reducible exact ih3 _ _ _ _ _ _ _ _ _)
      | (with_reducible exact ih4 _ _ _ _ _ _ _ _)
      | (with_reducible exact ih5 _ _ _ _ _ _ _ _ _ _)
      | (with_reducible exact ih6 _ _ _ _ _ _ _ _ _)
      | (with_reducible exact ih7 _ _ _ _)
      | (with_reducible exact impl_TrimLog.mono _ _ _)
      | (with_reducible exact laws_eqLog.mono _ _ _ _ _)
      | (with_reducible exact laws_eqLogResult.mono _ _ _ _ _ _ _)
      | (with_reducible exact laws_heldLogResult.mono _ _ _ _ _)
      | (with_reducible exact laws_markLog.mono _ _ _ _)
      | (with_reducible exact laws_markLogResult.mono _ _ _ _ _)
      | (with_reducible exact laws_toLog.mono _ _ _)
      | (with_reducible exact spec_TrimLog.mono _ _ _)
      | (with_reducible exact LeO.refl _)
      | (with_reducible exact LeO.none _)
      | (with_reducible refine LeO.ite ?_ ?_)
      | (with_reducible refine LeO.bind ?_ (fun _ => ?_))
      | exact ih0 _ _
      | exact ih1 _ _ _ _ _ _ _ _ _ _
      | exact ih2 _ _ _ _ _ _ _ _ _ _
      | exact ih3 _ _ _ _ _ _ _ _ _
      | exact ih4 _ _ _ _ _ _ _ _
      | exact ih5 _ _ _ _ _ _ _ _ _ _
      | exact ih6 _ _ _ _ _ _ _ _ _
      | exact ih7 _ _ _ _
      | exact impl_TrimLog.mono _ _ _
      | exact laws_eqLog.mono _ _ _ _ _
      | exact laws_eqLogResult.mono _ _ _ _ _ _ _
      | exact laws_heldLogResult.mono _ _ _ _ _
      | exact laws_markLog.mono _ _ _ _
      | exact laws_markLogResult.mono _ _ _ _ _
      | exact laws_toLog.mono _ _ _
      | exact spec_TrimLog.mono _ _ _
      | exact LeO.none _
      | refine LeO.ite ?_ ?_
      | refine LeO.bind ?_ (fun _ => ?_)
    · intro y0 y1 y2 y3 y4 y5 y6 y7 y8 y9
      unfold laws_FnExactTrimLog.j5
      repeat' first
      | (with_reducible exact ih0 _ _)
      | (with_reducible exact ih1 _ _ _ _ _ _ _ _ _ _)
      | (with_reducible exact ih2 _ _ _ _ _ _ _ _ _ _)
      | (with_reducible exact ih3 _ _ _ _ _ _ _ _ _)
      | (with_reducible exact ih4 _ _ _ _ _ _ _ _)
      | (with_reducible exact ih5 _ _ _ _ _ _ _ _ _ _)
      | (with_reducible exact ih6 _ _ _ _ _ _ _ _ _)
      | (with_reducible exact ih7 _ _ _ _)
      | (with_reducible exact impl_TrimLog.mono _ _ _)
      | (with_reducible exact laws_eqLog.mono _ _ _ _ _)
      | (with_reducible exact laws_eqLogResult.mono _ _ _ _ _ _ _)
      | (with_reducible exact laws_heldLogResult.mono _ _ _ _ _)
      | (with_reducible exact laws_markLog.mono _ _ _ _)
      | (with_reducible exact laws_markLogResult.mono _ _ _ _ _)
      | (with_reducible exact laws_toLog.mono _ _ _)
      | (with_reducible exact spec_TrimLog.mono _ _ _)
      | (with_reducible exact LeO.refl _)
      | (with_reducible exact LeO.none _)
      | (with_reducible refine LeO.ite ?_ ?_)
      | (with_reducible refine LeO.bind ?_ (fun _ => ?_))
      | exact ih0 _ _
      | exact ih1 _ _ _ _ _ _ _ _ _ _
      | exact ih2 _ _ _ _ _ _ _ _ _ _
      | exact ih3 _ _ _ _ _ _ _ _ _
      | exact ih4 _ _ _ _ _ _ _ _
      | exact ih5 _ _ _ _ _ _ _ _ _ _
      | exact ih6 _ _ _ _ _ _ _ _ _
      | exact ih7 _ _ _ _
      | exact impl_TrimLog.mono _ _ _
      | exact laws_eqLog.mono _ _ _ _ _
      | exact laws_eqLogResult.mono _ _ _ _ _ _ _
      | exact laws_heldLogResult.mono _ _ _ _ _
      | exact laws_markLog.mono _ _ _ _
      | exact laws_markLogResult.mono _ _ _ _ _
      | exact laws_toLog.mono _ _ _
      | exact spec_TrimLog.mono _ _ _
      | exact LeO.none _
      | refine LeO.ite ?_ ?_
      | refine LeO.bind ?_ (fun _ => ?_)
    · intro y0 y1 y2 y3 y4 y5 y6 y7 y8
      unfold laws_FnExactTrimLog.j6
      repeat' first
      | (with_reducible exact ih0 _ _)
      | (with_reducible exact ih1 _ _ _ _ _ _ _ _ _ _)
      | (with_reducible exact ih2 _ _ _ _ _ _ _ _ _ _)
      | (with_reducible exact ih3 _ _ _ _ _ _ _ _ _)
      | (with_reducible exact ih4 _ _ _ _ _ _ _ _)
      | (with_reducible exact ih5 _ _ _ _ _ _ _ _ _ _)
      | (with_reducible exact ih6 _ _ _ _ _ _ _ _ _)
      | (with_reducible exact ih7 _ _ _ _)
      | (with_reducible exact impl_TrimLog.mono _ _ _)
      | (with_reducible exact laws_eqLog.mono _ _ _ _ _)
      | (with_reducible exact laws_eqLogResult.mono _ _ _ _ _ _ _)
      | (with_reducible exact laws_heldLogResult.mono _ _ _ _ _)
      | (with_reducible exact laws_markLog.mono _ _ _ _)
      | (with_reducible exact laws_markLogResult.mono _ _ _ _ _)
      | (with_reducible exact laws_toLog.mono _ _ _)
      | (with_reducible exact spec_TrimLog.mono _ _ _)
      | (with_reducible exact LeO.refl _)
      | (with_reducible exact LeO.none _)
      | (with_reducible refine LeO.ite ?_ ?_)
      | (with_reducible refine LeO.bind ?_ (fun _ => ?_))
      | exact ih0 _ _
      | exact ih1 _ _ _ _ _ _ _ _ _ _
      | exact ih2 _ _ _ _ _ _ _ _ _ _
      | exact ih3 _ _ _ _ _ _ _ _ _
      | exact ih4 _ _ _ _ _ _ _ _
      | exact ih5 _ _ _ _ _ _ _ _ _ _
      | exact ih6 _ _ _ _ _ _ _ _ _
      | exact ih7 _ _ _ _
      | exact impl_TrimLog.mono _ _ _
      | exact laws_eqLog.mono _ _ _ _ _
      | exact laws_eqLogResult.mono _ _ _ _ _ _ _
      | exact laws_heldLogResult.mono _ _ _ _ _
      | exact laws_markLog.mono _ _ _ _
      | exact laws_markLogResult.mono _ _ _ _ _
      | exact laws_toLog.mono _ _ _
      | exact spec_TrimLog.mono _ _ _
      | exact LeO.none _
      | refine LeO.ite ?_ ?_
      | refine LeO.bind ?_ (fun _ => ?_)
    · intro y0 y1 y2 y3
      unfold laws_FnExactTrimLog.j7
      repeat' first
      | (with_reducible exact ih0 _ _)
      | (with_reducible exact ih1 _ _ _ _ _ _ _ _ _ _)
      | (with_reducible exact ih2 _ _ _ _ _ _ _ _ _ _)
      | (with_reducible exact ih3 _ _ _ _ _ _ _ _ _)
      | (with_reducible exact ih4 _ _ _ _ _ _ _ _)
      | (with_reducible exact ih5 _ _ _ _ _ _ _ _ _ _)
      | (with_reducible exact ih6 _ _ _ _ _ _ _ _ _)
      | (with_reducible exact ih7 _ _ _ _)
      | (with_reducible exact impl_TrimLog.mono _ _ _)
      | (with_reducible exact laws_eqLog.mono _ _ _ _ _)
      | (with_reducible exact laws_eqLogResult.mono _ _ _ _ _ _ _)
      | (with_reducible exact laws_heldLogResult.mono _ _ _ _ _)
      | (with_reducible exact laws_markLog.mono _ _ _ _)
      | (with_reducible exact laws_markLogResult.mono _ _ _ _ _)
      | (with_reducible exact laws_toLog.mono _ _ _)
      | (with_reducible exact spec_TrimLog.mono _ _ _)
      | (with_reducible exact LeO.refl _)
      | (with_reducible exact LeO.none _)
      | (with_reducible refine LeO.ite ?_ ?_)
      | (with_reducible refine LeO.bind ?_ (fun _ => ?_))
      | exact ih0 _ _
      | exact ih1 _ _ _ _ _ _ _ _ _ _
      | exact ih2 _ _ _ _ _ _ _ _ _ _
      | exact ih3 _ _ _ _ _ _ _ _ _
      | exact ih4 _ _ _ _ _ _ _ _
      | exact ih5 _ _ _ _ _ _ _ _ _ _
      | exact ih6 _ _ _ _ _ _ _ _ _
      | exact ih7 _ _ _ _
      | exact impl_TrimLog.mono _ _ _
      | exact laws_eqLog.mono _ _ _ _ _
      | exact laws_eqLogResult.mono _ _ _ _ _ _ _
      | exact laws_heldLogResult.mono _ _ _ _ _
      | exact laws_markLog.mono _ _ _ _
      | exact laws_markLogResult.mono _ _ _ _ _
      | exact laws_toLog.mono _ _ _
      | exact spec_TrimLog.mono _ _ _
      | exact LeO.none _
      | refine LeO.ite ?_ ?_
      | refine LeO.bind ?_ (fun _ => ?_)
theorem laws_FnExactTrimLog.mono : ∀ a0 a1 k, LeO (laws_FnExactTrimLog.f k a0 a1) (laws_FnExactTrimLog.f (k + 1) a0 a1) := by
  intro a0 a1 k
  obtain ⟨ih0, ih1, ih2, ih3, ih4, ih5, ih6, ih7⟩ := laws_FnExactTrimLog.mono_l k
  unfold laws_FnExactTrimLog.f
  repeat' first
      | (with_reducible exact ih0 _ _)
      | (with_reducible exact ih1 _ _ _ _ _ _ _ _ _ _)
      | (with_reducible exact ih2 _ _ _ _ _ _ _ _ _ _)
      | (with_reducible exact ih3 _ _ _ _ _ _ _ _ _)
      | (with_reducible exact ih4 _ _ _ _ _ _ _ _)
      | (with_reducible exact ih5 _ _ _ _ _ _ _ _ _ _)
      | (with_reducible exact ih6 _ _ _ _ _ _ _ _ _)
      | (with_reducible exact ih7 _ _ _ _)
      | (with_reducible exact impl_TrimLog.mono _ _ _)
      | (with_reducible exact laws_eqLog.mono _ _ _ _ _)
      | (with_reducible exact laws_eqLogResult.mono _ _ _ _ _ _ _)
      | (with_reducible exact laws_heldLogResult.mono _ _ _ _ _)
      | (with_reducible exact laws_markLog.mono _ _ _ _)
      | (with_reducible exact laws_markLogResult.mono _ _ _ _ _)
      | (with_reducible exact laws_toLog.mono _ _ _)
      | (with_reducible exact spec_TrimLog.mono _ _ _)
      | (with_reducible exact LeO.refl _)
      | (with_reducible exact LeO.none _)
      | (with_reducible refine LeO.ite ?_ ?_)
      | (with_reducible refine LeO.bind ?_ (fun _ => ?_))
      | exact ih0 _ _
      | exact ih1 _ _ _ _ _ _ _ _ _ _
      | exact ih2 _ _ _ _ _ _ _ _ _ _
      | exact ih3 _ _ _ _ _ _ _ _ _
      | exact ih4 _ _ _ _ _ _ _ _
      | exact ih5 _ _ _ _ _ _ _ _ _ _
      | exact ih6 _ _ _ _ _ _ _ _ _
      | exact ih7 _ _ _ _
      | exact impl_TrimLog.mono _ _ _
      | exact laws_eqLog.mono _ _ _ _ _
      | exact laws_eqLogResult.mono _ _ _ _ _ _ _
      | exact laws_heldLogResult.mono _ _ _ _ _
      | exact laws_markLog.mono _ _ _ _
      | exact laws_markLogResult.mono _ _ _ _ _
      | exact laws_toLog.mono _ _ _
      | exact spec_TrimLog.mono _ _ _
      | exact LeO.none _
      | refine LeO.ite ?_ ?_
      | refine LeO.bind ?_ (fun _ => ?_)
set_option maxHeartbeats 8000000 in
set_option maxRecDepth 100000 in
theorem laws_FnExactTrimLog.calls (k : Nat) (A0_0 : Option Addr) (c0_0 : Nat) (l0_0 : List Int) (A0_1 : Option Addr) (c0_1 : Nat) (l0_1 : List Int) (r : Bool) (w : World) (hr0_0 : Kd.C (Kd.int .u8) w A0_0 l0_0.length l0_0) (hc0_0 : l0_0.length ≤ c0_0) (hr0_1 : Kd.C (Kd.int .u8) w A0_1 l0_1.length l0_1) (hc0_1 : l0_1.length ≤ c0_1) (h : laws_FnExactTrimLog.f k l0_0 l0_1 = some r) :
    Calls Try.prog 9 #[.agg #[.slice A0_0 l0_0.length c0_0, .slice A0_1 l0_1.length c0_1]] w fun e w' => e = .returned (.bool r) ∧ Below w.heap.size w w' := by
  have hu24 := Try.underlying24
  have hu46 := Try.underlying46
  have hu27 := Try.underlying27
  have HR0_0 := Aside0.mk hr0_0
  have HC0_0 := Aside0.mk hc0_0
  clear hr0_0 hc0_0
  have HR0_1 := Aside0.mk hr0_1
  have HC0_1 := Aside0.mk hc0_1
  clear hr0_1 hc0_1
  have HB := Aside0.mk (Below.refl w.heap.size w)
  have H : ((laws_szLog.f l0_0 l0_1 1048576).bind fun t241 => (if t241 < 0 then (some true) else (laws_FnExactTrimLog.j0 k l0_0 l0_1))) = some r := h
  clear h
  replace H := Option.bind_eq_some_iff.mp H
  obtain ⟨t241, A20, H⟩ := H
  replace H : (if t241 < 0 then (some true) else (laws_FnExactTrimLog.j0 k l0_0 l0_1)) = some r := H
  have A2 := Aside0.mk A20
  clear A20
  have HC3 := Aside0.mk H
  clear H
  go_enter Try.func9, Try.ntmps9
  go_upto_if 15 with (first | ((with_reducible refine gate_dst (N := 1) rfl ?_); refine box_event ?hg (N := 1) ?hd (cs := #[.slice A0_0 l0_0.length c0_0, .slice A0_1 l0_1.length c0_1]) (t := 24) ?hr ?_; (case hd => rfl); (case hg => rfl); (case hr => first | (go_simp; done) | (go_simp; rfl)); intro gb240 hg w4 hbox hb; have n0_ := Aside0.mk (below_step (by repeat (first | (with_reducible first | exact HB.out | apply below_alloc | apply pw_below_drewN | apply below_drew1) | exact HB.out)) hb); have n1_ := Aside0.mk (hbox); have n2_ := Aside0.mk ((by rw [hg]; exact (below_size (by repeat (first | (with_reducible first | exact HB.out | apply below_alloc | apply pw_below_drewN | apply below_drew1) | exact HB.out))) : w.heap.size ≤ gb240)); have n3_ := Aside0.mk ((by rw [hg]; exact (below_size (by repeat (first | (with_reducible first | exact HB.out | apply below_alloc | apply pw_below_drewN | apply below_drew1) | exact HB.out))) : w.heap.size ≤ gb240)); clear HB; have HB := n0_; have BK240 := n1_; have GW240 := n2_; have GE240 := n3_; clear n0_ n1_ n2_ n3_; clear hb hbox hg; have hcz5_0 : w4.cell? ⟨gb240, 0, none⟩ = some (.slice A0_0 l0_0.length c0_0) := (blk_cell BK240.out 0).trans rfl; have hcz5_1 : w4.cell? ⟨gb240, 1, none⟩ = some (.slice A0_1 l0_1.length c0_1) := (blk_cell BK240.out 1).trans rfl; have hfz5_0 := blk_frozen BK240.out 0; have hfz5_1 := blk_frozen BK240.out 1) | ((with_reducible refine gate_callee (f := 14) rfl ?_); refine goesL_ (some 13) rfl rfl Try.func14 (by kernel_rfl) rfl #[.agg #[.slice A0_0 l0_0.length c0_0, .slice A0_1 l0_1.length c0_1], .int .i64 1048576] rfl (by (try simp only [List.map_toArray, List.map_cons, List.map_nil]); first | done | rfl | (simp only [List.length_drop, List.length_take]; rfl)) ?_; (with_reducible refine (laws_szLog.calls _ _ l0_0 _ _ l0_1 1048576 t241 _ ?side1 ?side2 ?side3 ?side4 A2.out).mono ?_); (case side1 => repeat (first | exact (Kd.C_below HR0_0.out HB.out) | (with_reducible refine Kd.C_alloc ?_ _) | (with_reducible refine Kd.C_drewN ?_ _) | (with_reducible refine Kd.C_drew ?_))); (case side2 => exact HC0_0.out); (case side3 => repeat (first | exact (Kd.C_below HR0_1.out HB.out) | (with_reducible refine Kd.C_alloc ?_ _) | (with_reducible refine Kd.C_drewN ?_ _) | (with_reducible refine Kd.C_drew ?_))); (case side4 => exact HC0_1.out); rintro e w6 ⟨rfl, hb⟩; refine ⟨_, rfl, ?_⟩; have n0_ := Aside0.mk (blk_below (g := gb240) (o := .cells #[.slice A0_0 l0_0.length c0_0, .slice A0_1 l0_1.length c0_1] 24 (0, 0)) (by (with_reducible repeat (first | refine blk_drewN ?_ _ | refine blk_drew ?_ | refine blk_alloc ?_ _)); exact BK240.out) hb); have n1_ := Aside0.mk (below_step (by repeat (first | (with_reducible first | exact HB.out | apply below_alloc | apply pw_below_drewN | apply below_drew1 | refine below_set ?_ GE240.out) | exact HB.out)) hb); clear BK240; clear HB; have BK240 := n0_; have HB := n1_; clear n0_ n1_; (try clear hb); (try clear hb2); (try clear hk); (try clear hi)))
  (try simp only [Act.put, List.setIfInBounds_toArray, List.set_cons_zero, List.set_cons_succ])
  go_cut [] (fun wc => ∃ (kq : Nat), Aside0 (laws_FnExactTrimLog.j0 kq l0_0 l0_1 = some r) ∧ Aside0 (kq ≤ k) ∧ Aside0 (wc.heap[gb240]? = some (.cells #[(.slice A0_0 l0_0.length c0_0), (.slice A0_1 l0_1.length c0_1)] 24 (0, 0))) ∧ Aside0 (Below w.heap.size w wc))
  case first =>
    have H := HC3.out
    clear HC3
    by_cases c7 : t241 < 0
    · rw [if_pos c7] at H
      have c7b0 : decide (t241 < 0) = true := decide_eq_true c7
      clear c7
      (first | rw [c7b0] | (simp only [i64_w, i32_w]; rw [c7b0]) | skip)
      obtain rfl := Option.some.inj H
      go_wp2
      go_ret
      exact ⟨by first | rfl | (simp [errW_none, errW_some] <;> rfl) | (simp [*, errW_none, errW_some] <;> rfl), by repeat (first | (with_reducible first | exact HB.out | apply below_alloc | apply pw_below_drewN | apply below_drew1 | refine below_set ?_ GE240.out) | exact HB.out)⟩
    · rw [if_neg c7] at H
      have c7b0 : decide (t241 < 0) = false := decide_eq_false c7
      clear c7
      (first | rw [c7b0] | (simp only [i64_w, i32_w]; rw [c7b0]) | skip)
      have H' := Aside0.mk H
      clear H
      go_wp2
      go_meet
      case rel => exact ⟨_, H', ⟨by first | omega | exact Nat.le_refl _⟩, ⟨by (with_reducible repeat (first | refine blk_drewN ?_ _ | refine blk_drew ?_ | refine blk_alloc ?_ _)); exact BK240.out⟩, ⟨by repeat (first | (with_reducible first | exact HB.out | apply below_alloc | apply pw_below_drewN | apply below_drew1 | refine below_set ?_ GE240.out) | exact HB.out)⟩⟩
  case rest =>
    clear HC3
    try clear c1
    try clear p2
    try clear c7
    try clear c7b0
    try clear hcz5_0
    try clear hcz5_1
    try clear hfz5_0
    try clear hfz5_1
    obtain ⟨kq, HA, HJ2, BK240, HB⟩ := hcut
    cases kq with
    | zero => exact absurd HA.out (by simp [laws_FnExactTrimLog.j0])
    | succ kj2 =>
      have H := HA.out
      clear HA
      simp only [laws_FnExactTrimLog.j0] at H
      replace H := Option.bind_eq_some_iff.mp H
      obtain ⟨⟨t242, t245⟩, A80, H⟩ := H
      replace H : ((spec_TrimLog.f kj2 t242 t245).bind fun bt248 => ((laws_toLog.f kj2 l0_0 l0_1).bind fun bt256 => ((impl_TrimLog.f kj2 bt256.1 bt256.2).bind fun bt263 => ((laws_eqLogResult.f kj2 bt263.1 bt263.2.1 bt263.2.2 bt248.1 bt248.2.1 bt248.2.2).bind fun t271 => (if t271 = true then (laws_FnExactTrimLog.j1 kj2 l0_0 l0_1 bt248.1 bt248.2.1 bt248.2.2 bt256.1 bt256.2 bt263.1 bt263.2.1 bt263.2.2) else (some false)))))) = some r := H
      have A8 := Aside0.mk A80
      clear A80
      replace H := Option.bind_eq_some_iff.mp H
      obtain ⟨⟨t248, t249, t252⟩, A90, H⟩ := H
      replace H : ((laws_toLog.f kj2 l0_0 l0_1).bind fun bt256 => ((impl_TrimLog.f kj2 bt256.1 bt256.2).bind fun bt263 => ((laws_eqLogResult.f kj2 bt263.1 bt263.2.1 bt263.2.2 t248 t249 t252).bind fun t271 => (if t271 = true then (laws_FnExactTrimLog.j1 kj2 l0_0 l0_1 t248 t249 t252 bt256.1 bt256.2 bt263.1 bt263.2.1 bt263.2.2) else (some false))))) = some r := H
      have A9 := Aside0.mk A90
      clear A90
      replace H := Option.bind_eq_some_iff.mp H
      obtain ⟨⟨t256, t259⟩, A100, H⟩ := H
      replace H : ((impl_TrimLog.f kj2 t256 t259).bind fun bt263 => ((laws_eqLogResult.f kj2 bt263.1 bt263.2.1 bt263.2.2 t248 t249 t252).bind fun t271 => (if t271 = true then (laws_FnExactTrimLog.j1 kj2 l0_0 l0_1 t248 t249 t252 t256 t259 bt263.1 bt263.2.1 bt263.2.2) else (some false)))) = some r := H
      have A10 := Aside0.mk A100
      clear A100
      replace H := Option.bind_eq_some_iff.mp H
      obtain ⟨⟨t263, t264, t267⟩, A110, H⟩ := H
      replace H : ((laws_eqLogResult.f kj2 t263 t264 t267 t248 t249 t252).bind fun t271 => (if t271 = true then (laws_FnExactTrimLog.j1 kj2 l0_0 l0_1 t248 t249 t252 t256 t259 t263 t264 t267) else (some false))) = some r := H
      have A11 := Aside0.mk A110
      clear A110
      replace H := Option.bind_eq_some_iff.mp H
      obtain ⟨t271, A120, H⟩ := H
      replace H : (if t271 = true then (laws_FnExactTrimLog.j1 kj2 l0_0 l0_1 t248 t249 t252 t256 t259 t263 t264 t267) else (some false)) = some r := H
      have A12 := Aside0.mk A120
      clear A120
      have HC13 := Aside0.mk H
      clear H
      have hcz14_0 : wc.cell? ⟨gb240, 0, none⟩ = some (.slice A0_0 l0_0.length c0_0) := (blk_cell BK240.out 0).trans rfl
      have hcz14_1 : wc.cell? ⟨gb240, 1, none⟩ = some (.slice A0_1 l0_1.length c0_1) := (blk_cell BK240.out 1).trans rfl
      have hfz14_0 := blk_frozen BK240.out 0
      have hfz14_1 := blk_frozen BK240.out 1
      go_upto_if 26 with (first | ((with_reducible refine gate_callee (f := 16) rfl ?_); refine goesL_ (some 17) rfl rfl Try.func16 (by kernel_rfl) rfl #[.agg #[.slice A0_0 l0_0.length c0_0, .slice A0_1 l0_1.length c0_1]] rfl (by (try simp only [List.map_toArray, List.map_cons, List.map_nil]); first | done | rfl | (simp only [List.length_drop, List.length_take]; rfl)) ?_; (with_reducible refine (laws_toLog.calls kj2 _ _ l0_0 _ _ l0_1 t242 t245 _ ?side1 ?side2 ?side3 ?side4 A8.out).mono ?_); (case side1 => repeat (first | exact (Kd.C_below HR0_0.out HB.out) | (with_reducible refine Kd.C_alloc ?_ _) | (with_reducible refine Kd.C_drewN ?_ _) | (with_reducible refine Kd.C_drew ?_))); (case side2 => exact HC0_0.out); (case side3 => repeat (first | exact (Kd.C_below HR0_1.out HB.out) | (with_reducible refine Kd.C_alloc ?_ _) | (with_reducible refine Kd.C_drewN ?_ _) | (with_reducible refine Kd.C_drew ?_))); (case side4 => exact HC0_1.out); rintro e w15 ⟨v243, v246, rfl, ho0, ho1, hb⟩; refine ⟨_, rfl, ?_⟩; have n0_ := Aside0.mk (Kd.R_lower ho0 (below_size (by repeat (first | (with_reducible first | exact HB.out | apply below_alloc | apply pw_below_drewN | apply below_drew1 | refine below_set ?_ GE240.out) | exact HB.out)))); have n1_ := Aside0.mk (Kd.R_lower ho1 (below_size (by repeat (first | (with_reducible first | exact HB.out | apply below_alloc | apply pw_below_drewN | apply below_drew1 | refine below_set ?_ GE240.out) | exact HB.out)))); have n2_ := Aside0.mk (blk_below (g := gb240) (o := .cells #[.slice A0_0 l0_0.length c0_0, .slice A0_1 l0_1.length c0_1] 24 (0, 0)) (by (with_reducible repeat (first | refine blk_drewN ?_ _ | refine blk_drew ?_ | refine blk_alloc ?_ _)); exact BK240.out) hb); have n3_ := Aside0.mk (below_step (by repeat (first | (with_reducible first | exact HB.out | apply below_alloc | apply pw_below_drewN | apply below_drew1 | refine below_set ?_ GE240.out) | exact HB.out)) hb); clear BK240; clear HB; have HO244 := n0_; have HO247 := n1_; have BK240 := n2_; have HB := n3_; clear n0_ n1_ n2_ n3_; (try clear hb); (try clear hb2); (try clear hk); (try clear hi); (try clear ho0); (try clear ho1); obtain ⟨Ao16, co16, eo16⟩ := Kd.R_slice HO244.out; subst eo16; obtain ⟨Ao17, co17, eo17⟩ := Kd.R_slice HO247.out; subst eo17) | ((with_reducible refine gate_callee (f := 43) rfl ?_); refine goesL_ (some 18) rfl rfl Try.func43 (by kernel_rfl) rfl #[.agg #[.slice Ao16 t242.length co16, .slice Ao17 t245.length co17]] rfl (by (try simp only [List.map_toArray, List.map_cons, List.map_nil]); first | done | rfl | (simp only [List.length_drop, List.length_take]; rfl)) ?_; (with_reducible refine (spec_TrimLog.calls kj2 _ _ t242 _ _ t245 t248 t249 t252 _ ?side1 ?side2 ?side3 ?side4 A9.out).mono ?_); (case side1 => repeat (first | exact (Kd.R_reads' HO244.out).2.2 | (with_reducible refine Kd.C_alloc ?_ _) | (with_reducible refine Kd.C_drewN ?_ _) | (with_reducible refine Kd.C_drew ?_))); (case side2 => exact (Kd.R_reads' HO244.out).2.1); (case side3 => repeat (first | exact (Kd.R_reads' HO247.out).2.2 | (with_reducible refine Kd.C_alloc ?_ _) | (with_reducible refine Kd.C_drewN ?_ _) | (with_reducible refine Kd.C_drew ?_))); (case side4 => exact (Kd.R_reads' HO247.out).2.1); rintro e w18 ⟨v250, v253, rfl, ho0, ho1, hb⟩; refine ⟨_, rfl, ?_⟩; have n0_ := Aside0.mk (Kd.R_mono (Kd.R_told (Kd.R_told (Kd.R_old (by (with_reducible repeat (first | apply Kd.R_alloc | apply Kd.R_drewN | apply Kd.R_drew)); exact HO244.out) hb) (Kd.R_base ho0)) (Kd.R_base ho1)) (fun _ h_ => h_.1)); have n1_ := Aside0.mk (Kd.R_mono (Kd.R_told (Kd.R_told (Kd.R_old (by (with_reducible repeat (first | apply Kd.R_alloc | apply Kd.R_drewN | apply Kd.R_drew)); exact HO247.out) hb) (Kd.R_base ho0)) (Kd.R_base ho1)) (fun _ h_ => h_.1)); have n2_ := Aside0.mk (Kd.R_lower (Kd.R_new' (Kd.R_new' ho0 (Kd.R_lt (by (with_reducible repeat (first | apply Kd.R_alloc | apply Kd.R_drewN | apply Kd.R_drew)); exact HO244.out))) (Kd.R_lt (by (with_reducible repeat (first | apply Kd.R_alloc | apply Kd.R_drewN | apply Kd.R_drew)); exact HO247.out))) (below_size (by repeat (first | (with_reducible first | exact HB.out | apply below_alloc | apply pw_below_drewN | apply below_drew1 | refine below_set ?_ GE240.out) | exact HB.out)))); have n3_ := Aside0.mk (Kd.R_lower (Kd.R_new' (Kd.R_new' ho1 (Kd.R_lt (by (with_reducible repeat (first | apply Kd.R_alloc | apply Kd.R_drewN | apply Kd.R_drew)); exact HO244.out))) (Kd.R_lt (by (with_reducible repeat (first | apply Kd.R_alloc | apply Kd.R_drewN | apply Kd.R_drew)); exact HO247.out))) (below_size (by repeat (first | (with_reducible first | exact HB.out | apply below_alloc | apply pw_below_drewN | apply below_drew1 | refine below_set ?_ GE240.out) | exact HB.out)))); have n4_ := Aside0.mk (blk_below (g := gb240) (o := .cells #[.slice A0_0 l0_0.length c0_0, .slice A0_1 l0_1.length c0_1] 24 (0, 0)) (by (with_reducible repeat (first | refine blk_drewN ?_ _ | refine blk_drew ?_ | refine blk_alloc ?_ _)); exact BK240.out) hb); have n5_ := Aside0.mk (below_step (by repeat (first | (with_reducible first | exact HB.out | apply below_alloc | apply pw_below_drewN | apply below_drew1 | refine below_set ?_ GE240.out) | exact HB.out)) hb); clear HO244; clear HO247; clear BK240; clear HB; have HO244 := n0_; have HO247 := n1_; have HO251 := n2_; have HO254 := n3_; have BK240 := n4_; have HB := n5_; clear n0_ n1_ n2_ n3_ n4_ n5_; (try clear hb); (try clear hb2); (try clear hk); (try clear hi); (try clear ho0); (try clear ho1)) | ((with_reducible refine gate_dst (N := 4) rfl ?_); refine box_event ?hg (N := 4) ?hd (cs := #[.int .i64 0, .slice none 0 0, .slice none 0 0]) (t := 46) ?hr ?_; (case hd => rfl); (case hg => rfl); (case hr => first | (go_simp; done) | (go_simp; rfl)); intro gb255 hg w19 hbox hb; have n0_ := Aside0.mk (Kd.R_below (by (with_reducible repeat (first | apply Kd.R_alloc | apply Kd.R_drewN | apply Kd.R_drew)); exact HO244.out) hb); have n1_ := Aside0.mk (Kd.R_below (by (with_reducible repeat (first | apply Kd.R_alloc | apply Kd.R_drewN | apply Kd.R_drew)); exact HO247.out) hb); have n2_ := Aside0.mk (Kd.R_below (by (with_reducible repeat (first | apply Kd.R_alloc | apply Kd.R_drewN | apply Kd.R_drew)); exact HO251.out) hb); have n3_ := Aside0.mk (Kd.R_below (by (with_reducible repeat (first | apply Kd.R_alloc | apply Kd.R_drewN | apply Kd.R_drew)); exact HO254.out) hb); have n4_ := Aside0.mk (blk_below (g := gb240) (o := .cells #[.slice A0_0 l0_0.length c0_0, .slice A0_1 l0_1.length c0_1] 24 (0, 0)) (by (with_reducible repeat (first | refine blk_drewN ?_ _ | refine blk_drew ?_ | refine blk_alloc ?_ _)); exact BK240.out) hb); have n5_ := Aside0.mk (below_step (by repeat (first | (with_reducible first | exact HB.out | apply below_alloc | apply pw_below_drewN | apply below_drew1 | refine below_set ?_ GE240.out) | exact HB.out)) hb); have n6_ := Aside0.mk (hbox); have n7_ := Aside0.mk ((by rw [hg]; exact (below_size (by repeat (first | (with_reducible first | exact HB.out | apply below_alloc | apply pw_below_drewN | apply below_drew1 | refine below_set ?_ GE240.out) | exact HB.out))) : w.heap.size ≤ gb255)); have n8_ := Aside0.mk ((by rw [hg]; exact (below_size (by repeat (first | (with_reducible first | exact HB.out | apply below_alloc | apply pw_below_drewN | apply below_drew1 | refine below_set ?_ GE240.out) | exact HB.out))) : w.heap.size ≤ gb255)); have n9_ := Aside0.mk ((by rw [hg]; exact Nat.ne_of_lt (blk_lt (g := gb240) (o := .cells #[.slice A0_0 l0_0.length c0_0, .slice A0_1 l0_1.length c0_1] 24 (0, 0)) (by (with_reducible repeat (first | refine blk_drewN ?_ _ | refine blk_drew ?_ | refine blk_alloc ?_ _)); exact BK240.out)) : gb240 ≠ gb255)); have n10_ := Aside0.mk ((by rw [hg]; exact Nat.ne_of_gt (blk_lt (g := gb240) (o := .cells #[.slice A0_0 l0_0.length c0_0, .slice A0_1 l0_1.length c0_1] 24 (0, 0)) (by (with_reducible repeat (first | refine blk_drewN ?_ _ | refine blk_drew ?_ | refine blk_alloc ?_ _)); exact BK240.out)) : gb255 ≠ gb240)); clear HO244; clear HO247; clear HO251; clear HO254; clear BK240; clear HB; have HO244 := n0_; have HO247 := n1_; have HO251 := n2_; have HO254 := n3_; have BK240 := n4_; have HB := n5_; have BK255 := n6_; have GW255 := n7_; have GE255 := n8_; have NB240_255 := n9_; have NB255_240 := n10_; clear n0_ n1_ n2_ n3_ n4_ n5_ n6_ n7_ n8_ n9_ n10_; clear hb hbox hg; have hnb20 := NB255_240.out; have hnc20 := NB240_255.out; have hcz21_0 : w19.cell? ⟨gb255, 0, none⟩ = some (.int .i64 0) := (blk_cell BK255.out 0).trans rfl; have hcz21_1 : w19.cell? ⟨gb255, 1, none⟩ = some (.slice none 0 0) := (blk_cell BK255.out 1).trans rfl; have hcz21_2 : w19.cell? ⟨gb255, 2, none⟩ = some (.slice none 0 0) := (blk_cell BK255.out 2).trans rfl; have hfz21_0 := blk_frozen BK255.out 0; have hfz21_1 := blk_frozen BK255.out 1; have hfz21_2 := blk_frozen BK255.out 2; obtain ⟨Ao22, co22, eo22⟩ := Kd.R_slice HO251.out; subst eo22; obtain ⟨Ao23, co23, eo23⟩ := Kd.R_slice HO254.out; subst eo23; have hcz24_0 : w19.cell? ⟨gb240, 0, none⟩ = some (.slice A0_0 l0_0.length c0_0) := (blk_cell BK240.out 0).trans rfl; have hcz24_1 : w19.cell? ⟨gb240, 1, none⟩ = some (.slice A0_1 l0_1.length c0_1) := (blk_cell BK240.out 1).trans rfl; have hfz24_0 := blk_frozen BK240.out 0; have hfz24_1 := blk_frozen BK240.out 1) | ((with_reducible refine gate_callee (f := 16) rfl ?_); refine goesL_ (some 20) rfl rfl Try.func16 (by kernel_rfl) rfl #[.agg #[.slice A0_0 l0_0.length c0_0, .slice A0_1 l0_1.length c0_1]] rfl (by (try simp only [List.map_toArray, List.map_cons, List.map_nil]); first | done | rfl | (simp only [List.length_drop, List.length_take]; rfl)) ?_; (with_reducible refine (laws_toLog.calls kj2 _ _ l0_0 _ _ l0_1 t256 t259 _ ?side1 ?side2 ?side3 ?side4 A10.out).mono ?_); (case side1 => exact Kd.C_below HR0_0.out (by repeat (first | (with_reducible first | exact HB.out | apply below_alloc | apply pw_below_drewN | apply below_drew1 | refine below_set ?_ GE240.out | refine below_set ?_ GE255.out) | exact HB.out))); (case side2 => exact HC0_0.out); (case side3 => exact Kd.C_below HR0_1.out (by repeat (first | (with_reducible first | exact HB.out | apply below_alloc | apply pw_below_drewN | apply below_drew1 | refine below_set ?_ GE240.out | refine below_set ?_ GE255.out) | exact HB.out))); (case side4 => exact HC0_1.out); rintro e w25 ⟨v257, v260, rfl, ho0, ho1, hb⟩; refine ⟨_, rfl, ?_⟩; have n0_ := Aside0.mk (Kd.R_mono (Kd.R_told (Kd.R_told (Kd.R_old (by (with_reducible repeat (first | apply Kd.R_alloc | apply Kd.R_drewN | apply Kd.R_drew)); exact (Kd.R_mono (Kd.R_far (p := ⟨gb255, 2, none⟩) (Kd.R_far (p := ⟨gb255, 1, none⟩) (Kd.R_far (p := ⟨gb255, 0, none⟩) (Kd.R_types HO244.out BK255.out (by decide)) (fun _ hk => hk.2) (.int .i64 t248)) (fun _ hk => hk.2) (.slice Ao22 t249.length co22)) (fun _ hk => hk.2) (.slice Ao23 t252.length co23)) (fun _ h_ => h_.1))) hb) (Kd.R_base ho0)) (Kd.R_base ho1)) (fun _ h_ => h_.1)); have n1_ := Aside0.mk (Kd.R_mono (Kd.R_told (Kd.R_told (Kd.R_old (by (with_reducible repeat (first | apply Kd.R_alloc | apply Kd.R_drewN | apply Kd.R_drew)); exact (Kd.R_mono (Kd.R_far (p := ⟨gb255, 2, none⟩) (Kd.R_far (p := ⟨gb255, 1, none⟩) (Kd.R_far (p := ⟨gb255, 0, none⟩) (Kd.R_types HO247.out BK255.out (by decide)) (fun _ hk => hk.2) (.int .i64 t248)) (fun _ hk => hk.2) (.slice Ao22 t249.length co22)) (fun _ hk => hk.2) (.slice Ao23 t252.length co23)) (fun _ h_ => h_.1))) hb) (Kd.R_base ho0)) (Kd.R_base ho1)) (fun _ h_ => h_.1)); have n2_ := Aside0.mk (Kd.R_mono (Kd.R_told (Kd.R_told (Kd.R_old (by (with_reducible repeat (first | apply Kd.R_alloc | apply Kd.R_drewN | apply Kd.R_drew)); exact (Kd.R_mono (Kd.R_far (p := ⟨gb255, 2, none⟩) (Kd.R_far (p := ⟨gb255, 1, none⟩) (Kd.R_far (p := ⟨gb255, 0, none⟩) (Kd.R_types HO251.out BK255.out (by decide)) (fun _ hk => hk.2) (.int .i64 t248)) (fun _ hk => hk.2) (.slice Ao22 t249.length co22)) (fun _ hk => hk.2) (.slice Ao23 t252.length co23)) (fun _ h_ => h_.1))) hb) (Kd.R_base ho0)) (Kd.R_base ho1)) (fun _ h_ => h_.1)); have n3_ := Aside0.mk (Kd.R_mono (Kd.R_told (Kd.R_told (Kd.R_old (by (with_reducible repeat (first | apply Kd.R_alloc | apply Kd.R_drewN | apply Kd.R_drew)); exact (Kd.R_mono (Kd.R_far (p := ⟨gb255, 2, none⟩) (Kd.R_far (p := ⟨gb255, 1, none⟩) (Kd.R_far (p := ⟨gb255, 0, none⟩) (Kd.R_types HO254.out BK255.out (by decide)) (fun _ hk => hk.2) (.int .i64 t248)) (fun _ hk => hk.2) (.slice Ao22 t249.length co22)) (fun _ hk => hk.2) (.slice Ao23 t252.length co23)) (fun _ h_ => h_.1))) hb) (Kd.R_base ho0)) (Kd.R_base ho1)) (fun _ h_ => h_.1)); have n4_ := Aside0.mk (Kd.R_lower (Kd.R_new' (Kd.R_new' (Kd.R_new' (Kd.R_new' ho0 (Kd.R_lt (by (with_reducible repeat (first | apply Kd.R_alloc | apply Kd.R_drewN | apply Kd.R_drew)); exact (Kd.R_mono (Kd.R_far (p := ⟨gb255, 2, none⟩) (Kd.R_far (p := ⟨gb255, 1, none⟩) (Kd.R_far (p := ⟨gb255, 0, none⟩) (Kd.R_types HO244.out BK255.out (by decide)) (fun _ hk => hk.2) (.int .i64 t248)) (fun _ hk => hk.2) (.slice Ao22 t249.length co22)) (fun _ hk => hk.2) (.slice Ao23 t252.length co23)) (fun _ h_ => h_.1))))) (Kd.R_lt (by (with_reducible repeat (first | apply Kd.R_alloc | apply Kd.R_drewN | apply Kd.R_drew)); exact (Kd.R_mono (Kd.R_far (p := ⟨gb255, 2, none⟩) (Kd.R_far (p := ⟨gb255, 1, none⟩) (Kd.R_far (p := ⟨gb255, 0, none⟩) (Kd.R_types HO247.out BK255.out (by decide)) (fun _ hk => hk.2) (.int .i64 t248)) (fun _ hk => hk.2) (.slice Ao22 t249.length co22)) (fun _ hk => hk.2) (.slice Ao23 t252.length co23)) (fun _ h_ => h_.1))))) (Kd.R_lt (by (with_reducible repeat (first | apply Kd.R_alloc | apply Kd.R_drewN | apply Kd.R_drew)); exact (Kd.R_mono (Kd.R_far (p := ⟨gb255, 2, none⟩) (Kd.R_far (p := ⟨gb255, 1, none⟩) (Kd.R_far (p := ⟨gb255, 0, none⟩) (Kd.R_types HO251.out BK255.out (by decide)) (fun _ hk => hk.2) (.int .i64 t248)) (fun _ hk => hk.2) (.slice Ao22 t249.length co22)) (fun _ hk => hk.2) (.slice Ao23 t252.length co23)) (fun _ h_ => h_.1))))) (Kd.R_lt (by (with_reducible repeat (first | apply Kd.R_alloc | apply Kd.R_drewN | apply Kd.R_drew)); exact (Kd.R_mono (Kd.R_far (p := ⟨gb255, 2, none⟩) (Kd.R_far (p := ⟨gb255, 1, none⟩) (Kd.R_far (p := ⟨gb255, 0, none⟩) (Kd.R_types HO254.out BK255.out (by decide)) (fun _ hk => hk.2) (.int .i64 t248)) (fun _ hk => hk.2) (.slice Ao22 t249.length co22)) (fun _ hk => hk.2) (.slice Ao23 t252.length co23)) (fun _ h_ => h_.1))))) (below_size (by repeat (first | (with_reducible first | exact HB.out | apply below_alloc | apply pw_below_drewN | apply below_drew1 | refine below_set ?_ GE240.out | refine below_set ?_ GE255.out) | exact HB.out)))); have n5_ := Aside0.mk (Kd.R_lower (Kd.R_new' (Kd.R_new' (Kd.R_new' (Kd.R_new' ho1 (Kd.R_lt (by (with_reducible repeat (first | apply Kd.R_alloc | apply Kd.R_drewN | apply Kd.R_drew)); exact (Kd.R_mono (Kd.R_far (p := ⟨gb255, 2, none⟩) (Kd.R_far (p := ⟨gb255, 1, none⟩) (Kd.R_far (p := ⟨gb255, 0, none⟩) (Kd.R_types HO244.out BK255.out (by decide)) (fun _ hk => hk.2) (.int .i64 t248)) (fun _ hk => hk.2) (.slice Ao22 t249.length co22)) (fun _ hk => hk.2) (.slice Ao23 t252.length co23)) (fun _ h_ => h_.1))))) (Kd.R_lt (by (with_reducible repeat (first | apply Kd.R_alloc | apply Kd.R_drewN | apply Kd.R_drew)); exact (Kd.R_mono (Kd.R_far (p := ⟨gb255, 2, none⟩) (Kd.R_far (p := ⟨gb255, 1, none⟩) (Kd.R_far (p := ⟨gb255, 0, none⟩) (Kd.R_types HO247.out BK255.out (by decide)) (fun _ hk => hk.2) (.int .i64 t248)) (fun _ hk => hk.2) (.slice Ao22 t249.length co22)) (fun _ hk => hk.2) (.slice Ao23 t252.length co23)) (fun _ h_ => h_.1))))) (Kd.R_lt (by (with_reducible repeat (first | apply Kd.R_alloc | apply Kd.R_drewN | apply Kd.R_drew)); exact (Kd.R_mono (Kd.R_far (p := ⟨gb255, 2, none⟩) (Kd.R_far (p := ⟨gb255, 1, none⟩) (Kd.R_far (p := ⟨gb255, 0, none⟩) (Kd.R_types HO251.out BK255.out (by decide)) (fun _ hk => hk.2) (.int .i64 t248)) (fun _ hk => hk.2) (.slice Ao22 t249.length co22)) (fun _ hk => hk.2) (.slice Ao23 t252.length co23)) (fun _ h_ => h_.1))))) (Kd.R_lt (by (with_reducible repeat (first | apply Kd.R_alloc | apply Kd.R_drewN | apply Kd.R_drew)); exact (Kd.R_mono (Kd.R_far (p := ⟨gb255, 2, none⟩) (Kd.R_far (p := ⟨gb255, 1, none⟩) (Kd.R_far (p := ⟨gb255, 0, none⟩) (Kd.R_types HO254.out BK255.out (by decide)) (fun _ hk => hk.2) (.int .i64 t248)) (fun _ hk => hk.2) (.slice Ao22 t249.length co22)) (fun _ hk => hk.2) (.slice Ao23 t252.length co23)) (fun _ h_ => h_.1))))) (below_size (by repeat (first | (with_reducible first | exact HB.out | apply below_alloc | apply pw_below_drewN | apply below_drew1 | refine below_set ?_ GE240.out | refine below_set ?_ GE255.out) | exact HB.out)))); have n6_ := Aside0.mk (blk_below (g := gb240) (o := .cells #[.slice A0_0 l0_0.length c0_0, .slice A0_1 l0_1.length c0_1] 24 (0, 0)) (by (with_reducible repeat (first | refine blk_drewN ?_ _ | refine blk_drew ?_ | refine blk_alloc ?_ _)); refine blk_far ?_ NB240_255.out _; (with_reducible repeat (first | refine blk_drewN ?_ _ | refine blk_drew ?_ | refine blk_alloc ?_ _)); refine blk_far ?_ NB240_255.out _; (with_reducible repeat (first | refine blk_drewN ?_ _ | refine blk_drew ?_ | refine blk_alloc ?_ _)); refine blk_far ?_ NB240_255.out _; (with_reducible repeat (first | refine blk_drewN ?_ _ | refine blk_drew ?_ | refine blk_alloc ?_ _)); exact BK240.out) hb); have n7_ := Aside0.mk (blk_below (g := gb255) (o := .cells #[.int .i64 t248, .slice Ao22 t249.length co22, .slice Ao23 t252.length co23] 46 (0, 0)) (by (with_reducible repeat (first | refine blk_drewN ?_ _ | refine blk_drew ?_ | refine blk_alloc ?_ _)); refine blk_put (cs := #[.int .i64 t248, .slice Ao22 t249.length co22, .slice none 0 0]) ?_ 2 _ rfl; (with_reducible repeat (first | refine blk_drewN ?_ _ | refine blk_drew ?_ | refine blk_alloc ?_ _)); refine blk_put (cs := #[.int .i64 t248, .slice none 0 0, .slice none 0 0]) ?_ 1 _ rfl; (with_reducible repeat (first | refine blk_drewN ?_ _ | refine blk_drew ?_ | refine blk_alloc ?_ _)); refine blk_put (cs := #[.int .i64 0, .slice none 0 0, .slice none 0 0]) ?_ 0 _ rfl; (with_reducible repeat (first | refine blk_drewN ?_ _ | refine blk_drew ?_ | refine blk_alloc ?_ _)); exact BK255.out) hb); have n8_ := Aside0.mk (below_step (by repeat (first | (with_reducible first | exact HB.out | apply below_alloc | apply pw_below_drewN | apply below_drew1 | refine below_set ?_ GE240.out | refine below_set ?_ GE255.out) | exact HB.out)) hb); clear HO244; clear HO247; clear HO251; clear HO254; clear BK240; clear BK255; clear HB; have HO244 := n0_; have HO247 := n1_; have HO251 := n2_; have HO254 := n3_; have HO258 := n4_; have HO261 := n5_; have BK240 := n6_; have BK255 := n7_; have HB := n8_; clear n0_ n1_ n2_ n3_ n4_ n5_ n6_ n7_ n8_; (try clear hb); (try clear hb2); (try clear hk); (try clear hi); (try clear ho0); (try clear ho1)) | ((with_reducible refine gate_dst (N := 5) rfl ?_); refine box_event ?hg (N := 5) ?hd (cs := #[.slice none 0 0, .slice none 0 0]) (t := 27) ?hr ?_; (case hd => rfl); (case hg => rfl); (case hr => first | (go_simp; done) | (go_simp; rfl)); intro gb262 hg w26 hbox hb; have n0_ := Aside0.mk (Kd.R_below (by (with_reducible repeat (first | apply Kd.R_alloc | apply Kd.R_drewN | apply Kd.R_drew)); exact HO244.out) hb); have n1_ := Aside0.mk (Kd.R_below (by (with_reducible repeat (first | apply Kd.R_alloc | apply Kd.R_drewN | apply Kd.R_drew)); exact HO247.out) hb); have n2_ := Aside0.mk (Kd.R_below (by (with_reducible repeat (first | apply Kd.R_alloc | apply Kd.R_drewN | apply Kd.R_drew)); exact HO251.out) hb); have n3_ := Aside0.mk (Kd.R_below (by (with_reducible repeat (first | apply Kd.R_alloc | apply Kd.R_drewN | apply Kd.R_drew)); exact HO254.out) hb); have n4_ := Aside0.mk (Kd.R_below (by (with_reducible repeat (first | apply Kd.R_alloc | apply Kd.R_drewN | apply Kd.R_drew)); exact HO258.out) hb); have n5_ := Aside0.mk (Kd.R_below (by (with_reducible repeat (first | apply Kd.R_alloc | apply Kd.R_drewN | apply Kd.R_drew)); exact HO261.out) hb); have n6_ := Aside0.mk (blk_below (g := gb240) (o := .cells #[.slice A0_0 l0_0.length c0_0, .slice A0_1 l0_1.length c0_1] 24 (0, 0)) (by (with_reducible repeat (first | refine blk_drewN ?_ _ | refine blk_drew ?_ | refine blk_alloc ?_ _)); exact BK240.out) hb); have n7_ := Aside0.mk (blk_below (g := gb255) (o := .cells #[.int .i64 t248, .slice Ao22 t249.length co22, .slice Ao23 t252.length co23] 46 (0, 0)) (by (with_reducible repeat (first | refine blk_drewN ?_ _ | refine blk_drew ?_ | refine blk_alloc ?_ _)); exact BK255.out) hb); have n8_ := Aside0.mk (below_step (by repeat (first | (with_reducible first | exact HB.out | apply below_alloc | apply pw_below_drewN | apply below_drew1 | refine below_set ?_ GE240.out | refine below_set ?_ GE255.out) | exact HB.out)) hb); have n9_ := Aside0.mk (hbox); have n10_ := Aside0.mk ((by rw [hg]; exact (below_size (by repeat (first | (with_reducible first | exact HB.out | apply below_alloc | apply pw_below_drewN | apply below_drew1 | refine below_set ?_ GE240.out | refine below_set ?_ GE255.out) | exact HB.out))) : w.heap.size ≤ gb262)); have n11_ := Aside0.mk ((by rw [hg]; exact (below_size (by repeat (first | (with_reducible first | exact HB.out | apply below_alloc | apply pw_below_drewN | apply below_drew1 | refine below_set ?_ GE240.out | refine below_set ?_ GE255.out) | exact HB.out))) : w.heap.size ≤ gb262)); have n12_ := Aside0.mk ((by rw [hg]; exact Nat.ne_of_lt (blk_lt (g := gb240) (o := .cells #[.slice A0_0 l0_0.length c0_0, .slice A0_1 l0_1.length c0_1] 24 (0, 0)) (by (with_reducible repeat (first | refine blk_drewN ?_ _ | refine blk_drew ?_ | refine blk_alloc ?_ _)); exact BK240.out)) : gb240 ≠ gb262)); have n13_ := Aside0.mk ((by rw [hg]; exact Nat.ne_of_gt (blk_lt (g := gb240) (o := .cells #[.slice A0_0 l0_0.length c0_0, .slice A0_1 l0_1.length c0_1] 24 (0, 0)) (by (with_reducible repeat (first | refine blk_drewN ?_ _ | refine blk_drew ?_ | refine blk_alloc ?_ _)); exact BK240.out)) : gb262 ≠ gb240)); have n14_ := Aside0.mk ((by rw [hg]; exact Nat.ne_of_lt (blk_lt (g := gb255) (o := .cells #[.int .i64 t248, .slice Ao22 t249.length co22, .slice Ao23 t252.length co23] 46 (0, 0)) (by (with_reducible repeat (first | refine blk_drewN ?_ _ | refine blk_drew ?_ | refine blk_alloc ?_ _)); exact BK255.out)) : gb255 ≠ gb262)); have n15_ := Aside0.mk ((by rw [hg]; exact Nat.ne_of_gt (blk_lt (g := gb255) (o := .cells #[.int .i64 t248, .slice Ao22 t249.length co22, .slice Ao23 t252.length co23] 46 (0, 0)) (by (with_reducible repeat (first | refine blk_drewN ?_ _ | refine blk_drew ?_ | refine blk_alloc ?_ _)); exact BK255.out)) : gb262 ≠ gb255)); clear HO244; clear HO247; clear HO251; clear HO254; clear HO258; clear HO261; clear BK240; clear BK255; clear HB; have HO244 := n0_; have HO247 := n1_; have HO251 := n2_; have HO254 := n3_; have HO258 := n4_; have HO261 := n5_; have BK240 := n6_; have BK255 := n7_; have HB := n8_; have BK262 := n9_; have GW262 := n10_; have GE262 := n11_; have NB240_262 := n12_; have NB262_240 := n13_; have NB255_262 := n14_; have NB262_255 := n15_; clear n0_ n1_ n2_ n3_ n4_ n5_ n6_ n7_ n8_ n9_ n10_ n11_ n12_ n13_ n14_ n15_; clear hb hbox hg; obtain ⟨Ao27, co27, eo27⟩ := Kd.R_slice HO258.out; subst eo27; have hnb28 := NB262_240.out; have hnc28 := NB240_262.out; have hnb29 := NB262_255.out; have hnc29 := NB255_262.out; have hcz30_0 : w26.cell? ⟨gb262, 0, none⟩ = some (.slice none 0 0) := (blk_cell BK262.out 0).trans rfl; have hcz30_1 : w26.cell? ⟨gb262, 1, none⟩ = some (.slice none 0 0) := (blk_cell BK262.out 1).trans rfl; have hfz30_0 := blk_frozen BK262.out 0; have hfz30_1 := blk_frozen BK262.out 1; obtain ⟨Ao31, co31, eo31⟩ := Kd.R_slice HO261.out; subst eo31) | ((with_reducible refine gate_callee (f := 44) rfl ?_); refine goesL_ (some 22) rfl rfl Try.func44 (by kernel_rfl) rfl #[.agg #[.slice Ao27 t256.length co27, .slice Ao31 t259.length co31]] rfl (by (try simp only [List.map_toArray, List.map_cons, List.map_nil]); first | done | rfl | (simp only [List.length_drop, List.length_take]; rfl)) ?_; (with_reducible refine (impl_TrimLog.calls kj2 _ _ t256 _ _ t259 t263 t264 t267 _ ?side1 ?side2 ?side3 ?side4 A11.out).mono ?_); (case side1 => refine (Kd.R_reads' (e := 5) (base := w.heap.size) (ok := fun k_ => ((((some k_ ≠ (.slice Ao31 t259.length co31 : Value).ownBlock ∧ some k_ ≠ (.slice Ao16 t242.length co16 : Value).ownBlock) ∧ some k_ ≠ (.slice Ao17 t245.length co17 : Value).ownBlock) ∧ some k_ ≠ (.slice Ao22 t249.length co22 : Value).ownBlock) ∧ some k_ ≠ (.slice Ao23 t252.length co23 : Value).ownBlock)) (n := t256.length) (c := co27) ?_).2.2; exact (by (with_reducible repeat (first | apply Kd.R_alloc | apply Kd.R_drewN | apply Kd.R_drew)); exact (Kd.R_mono (Kd.R_far (p := ⟨gb262, 1, none⟩) (Kd.R_far (p := ⟨gb262, 0, none⟩) (Kd.R_types HO258.out BK262.out (by decide)) (fun _ hk => hk.2) (.slice Ao27 t256.length co27)) (fun _ hk => hk.2) (.slice Ao31 t259.length co31)) (fun _ h_ => h_.1)))); (case side2 => exact (Kd.R_reads' HO258.out).2.1); (case side3 => refine (Kd.R_reads' (e := 5) (base := w.heap.size) (ok := fun k_ => ((((some k_ ≠ (.slice Ao27 t256.length co27 : Value).ownBlock ∧ some k_ ≠ (.slice Ao16 t242.length co16 : Value).ownBlock) ∧ some k_ ≠ (.slice Ao17 t245.length co17 : Value).ownBlock) ∧ some k_ ≠ (.slice Ao22 t249.length co22 : Value).ownBlock) ∧ some k_ ≠ (.slice Ao23 t252.length co23 : Value).ownBlock)) (n := t259.length) (c := co31) ?_).2.2; exact (by (with_reducible repeat (first | apply Kd.R_alloc | apply Kd.R_drewN | apply Kd.R_drew)); exact (Kd.R_mono (Kd.R_far (p := ⟨gb262, 1, none⟩) (Kd.R_far (p := ⟨gb262, 0, none⟩) (Kd.R_types HO261.out BK262.out (by decide)) (fun _ hk => hk.2) (.slice Ao27 t256.length co27)) (fun _ hk => hk.2) (.slice Ao31 t259.length co31)) (fun _ h_ => h_.1)))); (case side4 => exact (Kd.R_reads' HO261.out).2.1); rintro e w32 ⟨v265, v268, rfl, ho0, ho1, hb⟩; refine ⟨_, rfl, ?_⟩; have n0_ := Aside0.mk (Kd.R_mono (Kd.R_told (Kd.R_told (Kd.R_old (by (with_reducible repeat (first | apply Kd.R_alloc | apply Kd.R_drewN | apply Kd.R_drew)); exact (Kd.R_mono (Kd.R_far (p := ⟨gb262, 1, none⟩) (Kd.R_far (p := ⟨gb262, 0, none⟩) (Kd.R_types HO244.out BK262.out (by decide)) (fun _ hk => hk.2) (.slice Ao27 t256.length co27)) (fun _ hk => hk.2) (.slice Ao31 t259.length co31)) (fun _ h_ => h_.1))) hb) (Kd.R_base ho0)) (Kd.R_base ho1)) (fun _ h_ => h_.1)); have n1_ := Aside0.mk (Kd.R_mono (Kd.R_told (Kd.R_told (Kd.R_old (by (with_reducible repeat (first | apply Kd.R_alloc | apply Kd.R_drewN | apply Kd.R_drew)); exact (Kd.R_mono (Kd.R_far (p := ⟨gb262, 1, none⟩) (Kd.R_far (p := ⟨gb262, 0, none⟩) (Kd.R_types HO247.out BK262.out (by decide)) (fun _ hk => hk.2) (.slice Ao27 t256.length co27)) (fun _ hk => hk.2) (.slice Ao31 t259.length co31)) (fun _ h_ => h_.1))) hb) (Kd.R_base ho0)) (Kd.R_base ho1)) (fun _ h_ => h_.1)); have n2_ := Aside0.mk (Kd.R_mono (Kd.R_told (Kd.R_told (Kd.R_old (by (with_reducible repeat (first | apply Kd.R_alloc | apply Kd.R_drewN | apply Kd.R_drew)); exact (Kd.R_mono (Kd.R_far (p := ⟨gb262, 1, none⟩) (Kd.R_far (p := ⟨gb262, 0, none⟩) (Kd.R_types HO251.out BK262.out (by decide)) (fun _ hk => hk.2) (.slice Ao27 t256.length co27)) (fun _ hk => hk.2) (.slice Ao31 t259.length co31)) (fun _ h_ => h_.1))) hb) (Kd.R_base ho0)) (Kd.R_base ho1)) (fun _ h_ => h_.1)); have n3_ := Aside0.mk (Kd.R_mono (Kd.R_told (Kd.R_told (Kd.R_old (by (with_reducible repeat (first | apply Kd.R_alloc | apply Kd.R_drewN | apply Kd.R_drew)); exact (Kd.R_mono (Kd.R_far (p := ⟨gb262, 1, none⟩) (Kd.R_far (p := ⟨gb262, 0, none⟩) (Kd.R_types HO254.out BK262.out (by decide)) (fun _ hk => hk.2) (.slice Ao27 t256.length co27)) (fun _ hk => hk.2) (.slice Ao31 t259.length co31)) (fun _ h_ => h_.1))) hb) (Kd.R_base ho0)) (Kd.R_base ho1)) (fun _ h_ => h_.1)); have n4_ := Aside0.mk (Kd.R_mono (Kd.R_told (Kd.R_told (Kd.R_old (by (with_reducible repeat (first | apply Kd.R_alloc | apply Kd.R_drewN | apply Kd.R_drew)); exact (Kd.R_mono (Kd.R_far (p := ⟨gb262, 1, none⟩) (Kd.R_far (p := ⟨gb262, 0, none⟩) (Kd.R_types HO258.out BK262.out (by decide)) (fun _ hk => hk.2) (.slice Ao27 t256.length co27)) (fun _ hk => hk.2) (.slice Ao31 t259.length co31)) (fun _ h_ => h_.1))) hb) (Kd.R_base ho0)) (Kd.R_base ho1)) (fun _ h_ => h_.1)); have n5_ := Aside0.mk (Kd.R_mono (Kd.R_told (Kd.R_told (Kd.R_old (by (with_reducible repeat (first | apply Kd.R_alloc | apply Kd.R_drewN | apply Kd.R_drew)); exact (Kd.R_mono (Kd.R_far (p := ⟨gb262, 1, none⟩) (Kd.R_far (p := ⟨gb262, 0, none⟩) (Kd.R_types HO261.out BK262.out (by decide)) (fun _ hk => hk.2) (.slice Ao27 t256.length co27)) (fun _ hk => hk.2) (.slice Ao31 t259.length co31)) (fun _ h_ => h_.1))) hb) (Kd.R_base ho0)) (Kd.R_base ho1)) (fun _ h_ => h_.1)); have n6_ := Aside0.mk (Kd.R_lower (Kd.R_new' (Kd.R_new' (Kd.R_new' (Kd.R_new' (Kd.R_new' (Kd.R_new' ho0 (Kd.R_lt (by (with_reducible repeat (first | apply Kd.R_alloc | apply Kd.R_drewN | apply Kd.R_drew)); exact (Kd.R_mono (Kd.R_far (p := ⟨gb262, 1, none⟩) (Kd.R_far (p := ⟨gb262, 0, none⟩) (Kd.R_types HO244.out BK262.out (by decide)) (fun _ hk => hk.2) (.slice Ao27 t256.length co27)) (fun _ hk => hk.2) (.slice Ao31 t259.length co31)) (fun _ h_ => h_.1))))) (Kd.R_lt (by (with_reducible repeat (first | apply Kd.R_alloc | apply Kd.R_drewN | apply Kd.R_drew)); exact (Kd.R_mono (Kd.R_far (p := ⟨gb262, 1, none⟩) (Kd.R_far (p := ⟨gb262, 0, none⟩) (Kd.R_types HO247.out BK262.out (by decide)) (fun _ hk => hk.2) (.slice Ao27 t256.length co27)) (fun _ hk => hk.2) (.slice Ao31 t259.length co31)) (fun _ h_ => h_.1))))) (Kd.R_lt (by (with_reducible repeat (first | apply Kd.R_alloc | apply Kd.R_drewN | apply Kd.R_drew)); exact (Kd.R_mono (Kd.R_far (p := ⟨gb262, 1, none⟩) (Kd.R_far (p := ⟨gb262, 0, none⟩) (Kd.R_types HO251.out BK262.out (by decide)) (fun _ hk => hk.2) (.slice Ao27 t256.length co27)) (fun _ hk => hk.2) (.slice Ao31 t259.length co31)) (fun _ h_ => h_.1))))) (Kd.R_lt (by (with_reducible repeat (first | apply Kd.R_alloc | apply Kd.R_drewN | apply Kd.R_drew)); exact (Kd.R_mono (Kd.R_far (p := ⟨gb262, 1, none⟩) (Kd.R_far (p := ⟨gb262, 0, none⟩) (Kd.R_types HO254.out BK262.out (by decide)) (fun _ hk => hk.2) (.slice Ao27 t256.length co27)) (fun _ hk => hk.2) (.slice Ao31 t259.length co31)) (fun _ h_ => h_.1))))) (Kd.R_lt (by (with_reducible repeat (first | apply Kd.R_alloc | apply Kd.R_drewN | apply Kd.R_drew)); exact (Kd.R_mono (Kd.R_far (p := ⟨gb262, 1, none⟩) (Kd.R_far (p := ⟨gb262, 0, none⟩) (Kd.R_types HO258.out BK262.out (by decide)) (fun _ hk => hk.2) (.slice Ao27 t256.length co27)) (fun _ hk => hk.2) (.slice Ao31 t259.length co31)) (fun _ h_ => h_.1))))) (Kd.R_lt (by (with_reducible repeat (first | apply Kd.R_alloc | apply Kd.R_drewN | apply Kd.R_drew)); exact (Kd.R_mono (Kd.R_far (p := ⟨gb262, 1, none⟩) (Kd.R_far (p := ⟨gb262, 0, none⟩) (Kd.R_types HO261.out BK262.out (by decide)) (fun _ hk => hk.2) (.slice Ao27 t256.length co27)) (fun _ hk => hk.2) (.slice Ao31 t259.length co31)) (fun _ h_ => h_.1))))) (below_size (by repeat (first | (with_reducible first | exact HB.out | apply below_alloc | apply pw_below_drewN | apply below_drew1 | refine below_set ?_ GE240.out | refine below_set ?_ GE255.out | refine below_set ?_ GE262.out) | exact HB.out)))); have n7_ := Aside0.mk (Kd.R_lower (Kd.R_new' (Kd.R_new' (Kd.R_new' (Kd.R_new' (Kd.R_new' (Kd.R_new' ho1 (Kd.R_lt (by (with_reducible repeat (first | apply Kd.R_alloc | apply Kd.R_drewN | apply Kd.R_drew)); exact (Kd.R_mono (Kd.R_far (p := ⟨gb262, 1, none⟩) (Kd.R_far (p := ⟨gb262, 0, none⟩) (Kd.R_types HO244.out BK262.out (by decide)) (fun _ hk => hk.2) (.slice Ao27 t256.length co27)) (fun _ hk => hk.2) (.slice Ao31 t259.length co31)) (fun _ h_ => h_.1))))) (Kd.R_lt (by (with_reducible repeat (first | apply Kd.R_alloc | apply Kd.R_drewN | apply Kd.R_drew)); exact (Kd.R_mono (Kd.R_far (p := ⟨gb262, 1, none⟩) (Kd.R_far (p := ⟨gb262, 0, none⟩) (Kd.R_types HO247.out BK262.out (by decide)) (fun _ hk => hk.2) (.slice Ao27 t256.length co27)) (fun _ hk => hk.2) (.slice Ao31 t259.length co31)) (fun _ h_ => h_.1))))) (Kd.R_lt (by (with_reducible repeat (first | apply Kd.R_alloc | apply Kd.R_drewN | apply Kd.R_drew)); exact (Kd.R_mono (Kd.R_far (p := ⟨gb262, 1, none⟩) (Kd.R_far (p := ⟨gb262, 0, none⟩) (Kd.R_types HO251.out BK262.out (by decide)) (fun _ hk => hk.2) (.slice Ao27 t256.length co27)) (fun _ hk => hk.2) (.slice Ao31 t259.length co31)) (fun _ h_ => h_.1))))) (Kd.R_lt (by (with_reducible repeat (first | apply Kd.R_alloc | apply Kd.R_drewN | apply Kd.R_drew)); exact (Kd.R_mono (Kd.R_far (p := ⟨gb262, 1, none⟩) (Kd.R_far (p := ⟨gb262, 0, none⟩) (Kd.R_types HO254.out BK262.out (by decide)) (fun _ hk => hk.2) (.slice Ao27 t256.length co27)) (fun _ hk => hk.2) (.slice Ao31 t259.length co31)) (fun _ h_ => h_.1))))) (Kd.R_lt (by (with_reducible repeat (first | apply Kd.R_alloc | apply Kd.R_drewN | apply Kd.R_drew)); exact (Kd.R_mono (Kd.R_far (p := ⟨gb262, 1, none⟩) (Kd.R_far (p := ⟨gb262, 0, none⟩) (Kd.R_types HO258.out BK262.out (by decide)) (fun _ hk => hk.2) (.slice Ao27 t256.length co27)) (fun _ hk => hk.2) (.slice Ao31 t259.length co31)) (fun _ h_ => h_.1))))) (Kd.R_lt (by (with_reducible repeat (first | apply Kd.R_alloc | apply Kd.R_drewN | apply Kd.R_drew)); exact (Kd.R_mono (Kd.R_far (p := ⟨gb262, 1, none⟩) (Kd.R_far (p := ⟨gb262, 0, none⟩) (Kd.R_types HO261.out BK262.out (by decide)) (fun _ hk => hk.2) (.slice Ao27 t256.length co27)) (fun _ hk => hk.2) (.slice Ao31 t259.length co31)) (fun _ h_ => h_.1))))) (below_size (by repeat (first | (with_reducible first | exact HB.out | apply below_alloc | apply pw_below_drewN | apply below_drew1 | refine below_set ?_ GE240.out | refine below_set ?_ GE255.out | refine below_set ?_ GE262.out) | exact HB.out)))); have n8_ := Aside0.mk (blk_below (g := gb240) (o := .cells #[.slice A0_0 l0_0.length c0_0, .slice A0_1 l0_1.length c0_1] 24 (0, 0)) (by (with_reducible repeat (first | refine blk_drewN ?_ _ | refine blk_drew ?_ | refine blk_alloc ?_ _)); refine blk_far ?_ NB240_262.out _; (with_reducible repeat (first | refine blk_drewN ?_ _ | refine blk_drew ?_ | refine blk_alloc ?_ _)); refine blk_far ?_ NB240_262.out _; (with_reducible repeat (first | refine blk_drewN ?_ _ | refine blk_drew ?_ | refine blk_alloc ?_ _)); exact BK240.out) hb); have n9_ := Aside0.mk (blk_below (g := gb255) (o := .cells #[.int .i64 t248, .slice Ao22 t249.length co22, .slice Ao23 t252.length co23] 46 (0, 0)) (by (with_reducible repeat (first | refine blk_drewN ?_ _ | refine blk_drew ?_ | refine blk_alloc ?_ _)); refine blk_far ?_ NB255_262.out _; (with_reducible repeat (first | refine blk_drewN ?_ _ | refine blk_drew ?_ | refine blk_alloc ?_ _)); refine blk_far ?_ NB255_262.out _; (with_reducible repeat (first | refine blk_drewN ?_ _ | refine blk_drew ?_ | refine blk_alloc ?_ _)); exact BK255.out) hb); have n10_ := Aside0.mk (blk_below (g := gb262) (o := .cells #[.slice Ao27 t256.length co27, .slice Ao31 t259.length co31] 27 (0, 0)) (by (with_reducible repeat (first | refine blk_drewN ?_ _ | refine blk_drew ?_ | refine blk_alloc ?_ _)); refine blk_put (cs := #[.slice Ao27 t256.length co27, .slice none 0 0]) ?_ 1 _ rfl; (with_reducible repeat (first | refine blk_drewN ?_ _ | refine blk_drew ?_ | refine blk_alloc ?_ _)); refine blk_put (cs := #[.slice none 0 0, .slice none 0 0]) ?_ 0 _ rfl; (with_reducible repeat (first | refine blk_drewN ?_ _ | refine blk_drew ?_ | refine blk_alloc ?_ _)); exact BK262.out) hb); have n11_ := Aside0.mk (below_step (by repeat (first | (with_reducible first | exact HB.out | apply below_alloc | apply pw_below_drewN | apply below_drew1 | refine below_set ?_ GE240.out | refine below_set ?_ GE255.out | refine below_set ?_ GE262.out) | exact HB.out)) hb); clear HO244; clear HO247; clear HO251; clear HO254; clear HO258; clear HO261; clear BK240; clear BK255; clear BK262; clear HB; have HO244 := n0_; have HO247 := n1_; have HO251 := n2_; have HO254 := n3_; have HO258 := n4_; have HO261 := n5_; have HO266 := n6_; have HO269 := n7_; have BK240 := n8_; have BK255 := n9_; have BK262 := n10_; have HB := n11_; clear n0_ n1_ n2_ n3_ n4_ n5_ n6_ n7_ n8_ n9_ n10_ n11_; (try clear hb); (try clear hb2); (try clear hk); (try clear hi); (try clear ho0); (try clear ho1)) | ((with_reducible refine gate_dst (N := 6) rfl ?_); refine box_event ?hg (N := 6) ?hd (cs := #[.int .i64 0, .slice none 0 0, .slice none 0 0]) (t := 46) ?hr ?_; (case hd => rfl); (case hg => rfl); (case hr => first | (go_simp; done) | (go_simp; rfl)); intro gb270 hg w33 hbox hb; have n0_ := Aside0.mk (Kd.R_below (by (with_reducible repeat (first | apply Kd.R_alloc | apply Kd.R_drewN | apply Kd.R_drew)); exact HO244.out) hb); have n1_ := Aside0.mk (Kd.R_below (by (with_reducible repeat (first | apply Kd.R_alloc | apply Kd.R_drewN | apply Kd.R_drew)); exact HO247.out) hb); have n2_ := Aside0.mk (Kd.R_below (by (with_reducible repeat (first | apply Kd.R_alloc | apply Kd.R_drewN | apply Kd.R_drew)); exact HO251.out) hb); have n3_ := Aside0.mk (Kd.R_below (by (with_reducible repeat (first | apply Kd.R_alloc | apply Kd.R_drewN | apply Kd.R_drew)); exact HO254.out) hb); have n4_ := Aside0.mk (Kd.R_below (by (with_reducible repeat (first | apply Kd.R_alloc | apply Kd.R_drewN | apply Kd.R_drew)); exact HO258.out) hb); have n5_ := Aside0.mk (Kd.R_below (by (with_reducible repeat (first | apply Kd.R_alloc | apply Kd.R_drewN | apply Kd.R_drew)); exact HO261.out) hb); have n6_ := Aside0.mk (Kd.R_below (by (with_reducible repeat (first | apply Kd.R_alloc | apply Kd.R_drewN | apply Kd.R_drew)); exact HO266.out) hb); have n7_ := Aside0.mk (Kd.R_below (by (with_reducible repeat (first | apply Kd.R_alloc | apply Kd.R_drewN | apply Kd.R_drew)); exact HO269.out) hb); have n8_ := Aside0.mk (blk_below (g := gb240) (o := .cells #[.slice A0_0 l0_0.length c0_0, .slice A0_1 l0_1.length c0_1] 24 (0, 0)) (by (with_reducible repeat (first | refine blk_drewN ?_ _ | refine blk_drew ?_ | refine blk_alloc ?_ _)); exact BK240.out) hb); have n9_ := Aside0.mk (blk_below (g := gb255) (o := .cells #[.int .i64 t248, .slice Ao22 t249.length co22, .slice Ao23 t252.length co23] 46 (0, 0)) (by (with_reducible repeat (first | refine blk_drewN ?_ _ | refine blk_drew ?_ | refine blk_alloc ?_ _)); exact BK255.out) hb); have n10_ := Aside0.mk (blk_below (g := gb262) (o := .cells #[.slice Ao27 t256.length co27, .slice Ao31 t259.length co31] 27 (0, 0)) (by (with_reducible repeat (first | refine blk_drewN ?_ _ | refine blk_drew ?_ | refine blk_alloc ?_ _)); exact BK262.out) hb); have n11_ := Aside0.mk (below_step (by repeat (first | (with_reducible first | exact HB.out | apply below_alloc | apply pw_below_drewN | apply below_drew1 | refine below_set ?_ GE240.out | refine below_set ?_ GE255.out | refine below_set ?_ GE262.out) | exact HB.out)) hb); have n12_ := Aside0.mk (hbox); have n13_ := Aside0.mk ((by rw [hg]; exact (below_size (by repeat (first | (with_reducible first | exact HB.out | apply below_alloc | apply pw_below_drewN | apply below_drew1 | refine below_set ?_ GE240.out | refine below_set ?_ GE255.out | refine below_set ?_ GE262.out) | exact HB.out))) : w.heap.size ≤ gb270)); have n14_ := Aside0.mk ((by rw [hg]; exact (below_size (by repeat (first | (with_reducible first | exact HB.out | apply below_alloc | apply pw_below_drewN | apply below_drew1 | refine below_set ?_ GE240.out | refine below_set ?_ GE255.out | refine below_set ?_ GE262.out) | exact HB.out))) : w.heap.size ≤ gb270)); have n15_ := Aside0.mk ((by rw [hg]; exact Nat.ne_of_lt (blk_lt (g := gb240) (o := .cells #[.slice A0_0 l0_0.length c0_0, .slice A0_1 l0_1.length c0_1] 24 (0, 0)) (by (with_reducible repeat (first | refine blk_drewN ?_ _ | refine blk_drew ?_ | refine blk_alloc ?_ _)); exact BK240.out)) : gb240 ≠ gb270)); have n16_ := Aside0.mk ((by rw [hg]; exact Nat.ne_of_gt (blk_lt (g := gb240) (o := .cells #[.slice A0_0 l0_0.length c0_0, .slice A0_1 l0_1.length c0_1] 24 (0, 0)) (by (with_reducible repeat (first | refine blk_drewN ?_ _ | refine blk_drew ?_ | refine blk_alloc ?_ _)); exact BK240.out)) : gb270 ≠ gb240)); have n17_ := Aside0.mk ((by rw [hg]; exact Nat.ne_of_lt (blk_lt (g := gb255) (o := .cells #[.int .i64 t248, .slice Ao22 t249.length co22, .slice Ao23 t252.length co23] 46 (0, 0)) (by (with_reducible repeat (first | refine blk_drewN ?_ _ | refine blk_drew ?_ | refine blk_alloc ?_ _)); exact BK255.out)) : gb255 ≠ gb270)); have n18_ := Aside0.mk ((by rw [hg]; exact Nat.ne_of_gt (blk_lt (g := gb255) (o := .cells #[.int .i64 t248, .slice Ao22 t249.length co22, .slice Ao23 t252.length co23] 46 (0, 0)) (by (with_reducible repeat (first | refine blk_drewN ?_ _ | refine blk_drew ?_ | refine blk_alloc ?_ _)); exact BK255.out)) : gb270 ≠ gb255)); have n19_ := Aside0.mk ((by rw [hg]; exact Nat.ne_of_lt (blk_lt (g := gb262) (o := .cells #[.slice Ao27 t256.length co27, .slice Ao31 t259.length co31] 27 (0, 0)) (by (with_reducible repeat (first | refine blk_drewN ?_ _ | refine blk_drew ?_ | refine blk_alloc ?_ _)); exact BK262.out)) : gb262 ≠ gb270)); have n20_ := Aside0.mk ((by rw [hg]; exact Nat.ne_of_gt (blk_lt (g := gb262) (o := .cells #[.slice Ao27 t256.length co27, .slice Ao31 t259.length co31] 27 (0, 0)) (by (with_reducible repeat (first | refine blk_drewN ?_ _ | refine blk_drew ?_ | refine blk_alloc ?_ _)); exact BK262.out)) : gb270 ≠ gb262)); clear HO244; clear HO247; clear HO251; clear HO254; clear HO258; clear HO261; clear HO266; clear HO269; clear BK240; clear BK255; clear BK262; clear HB; have HO244 := n0_; have HO247 := n1_; have HO251 := n2_; have HO254 := n3_; have HO258 := n4_; have HO261 := n5_; have HO266 := n6_; have HO269 := n7_; have BK240 := n8_; have BK255 := n9_; have BK262 := n10_; have HB := n11_; have BK270 := n12_; have GW270 := n13_; have GE270 := n14_; have NB240_270 := n15_; have NB270_240 := n16_; have NB255_270 := n17_; have NB270_255 := n18_; have NB262_270 := n19_; have NB270_262 := n20_; clear n0_ n1_ n2_ n3_ n4_ n5_ n6_ n7_ n8_ n9_ n10_ n11_ n12_ n13_ n14_ n15_ n16_ n17_ n18_ n19_ n20_; clear hb hbox hg; have hnb34 := NB270_240.out; have hnc34 := NB240_270.out; have hnb35 := NB270_255.out; have hnc35 := NB255_270.out; have hnb36 := NB270_262.out; have hnc36 := NB262_270.out; have hcz37_0 : w33.cell? ⟨gb270, 0, none⟩ = some (.int .i64 0) := (blk_cell BK270.out 0).trans rfl; have hcz37_1 : w33.cell? ⟨gb270, 1, none⟩ = some (.slice none 0 0) := (blk_cell BK270.out 1).trans rfl; have hcz37_2 : w33.cell? ⟨gb270, 2, none⟩ = some (.slice none 0 0) := (blk_cell BK270.out 2).trans rfl; have hfz37_0 := blk_frozen BK270.out 0; have hfz37_1 := blk_frozen BK270.out 1; have hfz37_2 := blk_frozen BK270.out 2; obtain ⟨Ao38, co38, eo38⟩ := Kd.R_slice HO266.out; subst eo38; obtain ⟨Ao39, co39, eo39⟩ := Kd.R_slice HO269.out; subst eo39; have hcz40_0 : w33.cell? ⟨gb255, 0, none⟩ = some (.int .i64 t248) := (blk_cell BK255.out 0).trans rfl; have hcz40_1 : w33.cell? ⟨gb255, 1, none⟩ = some (.slice Ao22 t249.length co22) := (blk_cell BK255.out 1).trans rfl; have hcz40_2 : w33.cell? ⟨gb255, 2, none⟩ = some (.slice Ao23 t252.length co23) := (blk_cell BK255.out 2).trans rfl; have hfz40_0 := blk_frozen BK255.out 0; have hfz40_1 := blk_frozen BK255.out 1; have hfz40_2 := blk_frozen BK255.out 2) | ((with_reducible refine gate_callee (f := 33) rfl ?_); refine goesL_ (some 25) rfl rfl Try.func33 (by kernel_rfl) rfl #[.agg #[.int .i64 t263, .slice Ao38 t264.length co38, .slice Ao39 t267.length co39], .agg #[.int .i64 t248, .slice Ao22 t249.length co22, .slice Ao23 t252.length co23]] rfl (by (try simp only [List.map_toArray, List.map_cons, List.map_nil]); first | done | rfl | (simp only [List.length_drop, List.length_take]; rfl)) ?_; (with_reducible refine (laws_eqLogResult.calls kj2 t263 _ _ t264 _ _ t267 t248 _ _ t249 _ _ t252 t271 _ ?side1 ?side2 ?side3 ?side4 ?side5 ?side6 ?side7 ?side8 A12.out).mono ?_); (case side1 => refine (Kd.R_reads' (e := 5) (base := w.heap.size) (ok := fun k_ => ((((((some k_ ≠ (.slice Ao39 t267.length co39 : Value).ownBlock ∧ some k_ ≠ (.slice Ao16 t242.length co16 : Value).ownBlock) ∧ some k_ ≠ (.slice Ao17 t245.length co17 : Value).ownBlock) ∧ some k_ ≠ (.slice Ao22 t249.length co22 : Value).ownBlock) ∧ some k_ ≠ (.slice Ao23 t252.length co23 : Value).ownBlock) ∧ some k_ ≠ (.slice Ao27 t256.length co27 : Value).ownBlock) ∧ some k_ ≠ (.slice Ao31 t259.length co31 : Value).ownBlock)) (n := t264.length) (c := co38) ?_).2.2; exact (by (with_reducible repeat (first | apply Kd.R_alloc | apply Kd.R_drewN | apply Kd.R_drew)); exact (Kd.R_mono (Kd.R_far (p := ⟨gb270, 2, none⟩) (Kd.R_far (p := ⟨gb270, 1, none⟩) (Kd.R_far (p := ⟨gb270, 0, none⟩) (Kd.R_types HO266.out BK270.out (by decide)) (fun _ hk => hk.2) (.int .i64 t263)) (fun _ hk => hk.2) (.slice Ao38 t264.length co38)) (fun _ hk => hk.2) (.slice Ao39 t267.length co39)) (fun _ h_ => h_.1)))); (case side2 => exact (Kd.R_reads' HO266.out).2.1); (case side3 => refine (Kd.R_reads' (e := 5) (base := w.heap.size) (ok := fun k_ => ((((((some k_ ≠ (.slice Ao38 t264.length co38 : Value).ownBlock ∧ some k_ ≠ (.slice Ao16 t242.length co16 : Value).ownBlock) ∧ some k_ ≠ (.slice Ao17 t245.length co17 : Value).ownBlock) ∧ some k_ ≠ (.slice Ao22 t249.length co22 : Value).ownBlock) ∧ some k_ ≠ (.slice Ao23 t252.length co23 : Value).ownBlock) ∧ some k_ ≠ (.slice Ao27 t256.length co27 : Value).ownBlock) ∧ some k_ ≠ (.slice Ao31 t259.length co31 : Value).ownBlock)) (n := t267.length) (c := co39) ?_).2.2; exact (by (with_reducible repeat (first | apply Kd.R_alloc | apply Kd.R_drewN | apply Kd.R_drew)); exact (Kd.R_mono (Kd.R_far (p := ⟨gb270, 2, none⟩) (Kd.R_far (p := ⟨gb270, 1, none⟩) (Kd.R_far (p := ⟨gb270, 0, none⟩) (Kd.R_types HO269.out BK270.out (by decide)) (fun _ hk => hk.2) (.int .i64 t263)) (fun _ hk => hk.2) (.slice Ao38 t264.length co38)) (fun _ hk => hk.2) (.slice Ao39 t267.length co39)) (fun _ h_ => h_.1)))); (case side4 => exact (Kd.R_reads' HO269.out).2.1); (case side5 => refine (Kd.R_reads' (e := 5) (base := w.heap.size) (ok := fun k_ => ((((((some k_ ≠ (.slice Ao23 t252.length co23 : Value).ownBlock ∧ some k_ ≠ (.slice Ao16 t242.length co16 : Value).ownBlock) ∧ some k_ ≠ (.slice Ao17 t245.length co17 : Value).ownBlock) ∧ some k_ ≠ (.slice Ao27 t256.length co27 : Value).ownBlock) ∧ some k_ ≠ (.slice Ao31 t259.length co31 : Value).ownBlock) ∧ some k_ ≠ (.slice Ao38 t264.length co38 : Value).ownBlock) ∧ some k_ ≠ (.slice Ao39 t267.length co39 : Value).ownBlock)) (n := t249.length) (c := co22) ?_).2.2; exact (by (with_reducible repeat (first | apply Kd.R_alloc | apply Kd.R_drewN | apply Kd.R_drew)); exact (Kd.R_mono (Kd.R_far (p := ⟨gb270, 2, none⟩) (Kd.R_far (p := ⟨gb270, 1, none⟩) (Kd.R_far (p := ⟨gb270, 0, none⟩) (Kd.R_types HO251.out BK270.out (by decide)) (fun _ hk => hk.2) (.int .i64 t263)) (fun _ hk => hk.2) (.slice Ao38 t264.length co38)) (fun _ hk => hk.2) (.slice Ao39 t267.length co39)) (fun _ h_ => h_.1)))); (case side6 => exact (Kd.R_reads' HO251.out).2.1); (case side7 => refine (Kd.R_reads' (e := 5) (base := w.heap.size) (ok := fun k_ => ((((((some k_ ≠ (.slice Ao22 t249.length co22 : Value).ownBlock ∧ some k_ ≠ (.slice Ao16 t242.length co16 : Value).ownBlock) ∧ some k_ ≠ (.slice Ao17 t245.length co17 : Value).ownBlock) ∧ some k_ ≠ (.slice Ao27 t256.length co27 : Value).ownBlock) ∧ some k_ ≠ (.slice Ao31 t259.length co31 : Value).ownBlock) ∧ some k_ ≠ (.slice Ao38 t264.length co38 : Value).ownBlock) ∧ some k_ ≠ (.slice Ao39 t267.length co39 : Value).ownBlock)) (n := t252.length) (c := co23) ?_).2.2; exact (by (with_reducible repeat (first | apply Kd.R_alloc | apply Kd.R_drewN | apply Kd.R_drew)); exact (Kd.R_mono (Kd.R_far (p := ⟨gb270, 2, none⟩) (Kd.R_far (p := ⟨gb270, 1, none⟩) (Kd.R_far (p := ⟨gb270, 0, none⟩) (Kd.R_types HO254.out BK270.out (by decide)) (fun _ hk => hk.2) (.int .i64 t263)) (fun _ hk => hk.2) (.slice Ao38 t264.length co38)) (fun _ hk => hk.2) (.slice Ao39 t267.length co39)) (fun _ h_ => h_.1)))); (case side8 => exact (Kd.R_reads' HO254.out).2.1); rintro e w41 ⟨rfl, hb⟩; refine ⟨_, rfl, ?_⟩; have n0_ := Aside0.mk (Kd.R_below (by (with_reducible repeat (first | apply Kd.R_alloc | apply Kd.R_drewN | apply Kd.R_drew)); exact (Kd.R_mono (Kd.R_far (p := ⟨gb270, 2, none⟩) (Kd.R_far (p := ⟨gb270, 1, none⟩) (Kd.R_far (p := ⟨gb270, 0, none⟩) (Kd.R_types HO244.out BK270.out (by decide)) (fun _ hk => hk.2) (.int .i64 t263)) (fun _ hk => hk.2) (.slice Ao38 t264.length co38)) (fun _ hk => hk.2) (.slice Ao39 t267.length co39)) (fun _ h_ => h_.1))) hb); have n1_ := Aside0.mk (Kd.R_below (by (with_reducible repeat (first | apply Kd.R_alloc | apply Kd.R_drewN | apply Kd.R_drew)); exact (Kd.R_mono (Kd.R_far (p := ⟨gb270, 2, none⟩) (Kd.R_far (p := ⟨gb270, 1, none⟩) (Kd.R_far (p := ⟨gb270, 0, none⟩) (Kd.R_types HO247.out BK270.out (by decide)) (fun _ hk => hk.2) (.int .i64 t263)) (fun _ hk => hk.2) (.slice Ao38 t264.length co38)) (fun _ hk => hk.2) (.slice Ao39 t267.length co39)) (fun _ h_ => h_.1))) hb); have n2_ := Aside0.mk (Kd.R_below (by (with_reducible repeat (first | apply Kd.R_alloc | apply Kd.R_drewN | apply Kd.R_drew)); exact (Kd.R_mono (Kd.R_far (p := ⟨gb270, 2, none⟩) (Kd.R_far (p := ⟨gb270, 1, none⟩) (Kd.R_far (p := ⟨gb270, 0, none⟩) (Kd.R_types HO251.out BK270.out (by decide)) (fun _ hk => hk.2) (.int .i64 t263)) (fun _ hk => hk.2) (.slice Ao38 t264.length co38)) (fun _ hk => hk.2) (.slice Ao39 t267.length co39)) (fun _ h_ => h_.1))) hb); have n3_ := Aside0.mk (Kd.R_below (by (with_reducible repeat (first | apply Kd.R_alloc | apply Kd.R_drewN | apply Kd.R_drew)); exact (Kd.R_mono (Kd.R_far (p := ⟨gb270, 2, none⟩) (Kd.R_far (p := ⟨gb270, 1, none⟩) (Kd.R_far (p := ⟨gb270, 0, none⟩) (Kd.R_types HO254.out BK270.out (by decide)) (fun _ hk => hk.2) (.int .i64 t263)) (fun _ hk => hk.2) (.slice Ao38 t264.length co38)) (fun _ hk => hk.2) (.slice Ao39 t267.length co39)) (fun _ h_ => h_.1))) hb); have n4_ := Aside0.mk (Kd.R_below (by (with_reducible repeat (first | apply Kd.R_alloc | apply Kd.R_drewN | apply Kd.R_drew)); exact (Kd.R_mono (Kd.R_far (p := ⟨gb270, 2, none⟩) (Kd.R_far (p := ⟨gb270, 1, none⟩) (Kd.R_far (p := ⟨gb270, 0, none⟩) (Kd.R_types HO258.out BK270.out (by decide)) (fun _ hk => hk.2) (.int .i64 t263)) (fun _ hk => hk.2) (.slice Ao38 t264.length co38)) (fun _ hk => hk.2) (.slice Ao39 t267.length co39)) (fun _ h_ => h_.1))) hb); have n5_ := Aside0.mk (Kd.R_below (by (with_reducible repeat (first | apply Kd.R_alloc | apply Kd.R_drewN | apply Kd.R_drew)); exact (Kd.R_mono (Kd.R_far (p := ⟨gb270, 2, none⟩) (Kd.R_far (p := ⟨gb270, 1, none⟩) (Kd.R_far (p := ⟨gb270, 0, none⟩) (Kd.R_types HO261.out BK270.out (by decide)) (fun _ hk => hk.2) (.int .i64 t263)) (fun _ hk => hk.2) (.slice Ao38 t264.length co38)) (fun _ hk => hk.2) (.slice Ao39 t267.length co39)) (fun _ h_ => h_.1))) hb); have n6_ := Aside0.mk (Kd.R_below (by (with_reducible repeat (first | apply Kd.R_alloc | apply Kd.R_drewN | apply Kd.R_drew)); exact (Kd.R_mono (Kd.R_far (p := ⟨gb270, 2, none⟩) (Kd.R_far (p := ⟨gb270, 1, none⟩) (Kd.R_far (p := ⟨gb270, 0, none⟩) (Kd.R_types HO266.out BK270.out (by decide)) (fun _ hk => hk.2) (.int .i64 t263)) (fun _ hk => hk.2) (.slice Ao38 t264.length co38)) (fun _ hk => hk.2) (.slice Ao39 t267.length co39)) (fun _ h_ => h_.1))) hb); have n7_ := Aside0.mk (Kd.R_below (by (with_reducible repeat (first | apply Kd.R_alloc | apply Kd.R_drewN | apply Kd.R_drew)); exact (Kd.R_mono (Kd.R_far (p := ⟨gb270, 2, none⟩) (Kd.R_far (p := ⟨gb270, 1, none⟩) (Kd.R_far (p := ⟨gb270, 0, none⟩) (Kd.R_types HO269.out BK270.out (by decide)) (fun _ hk => hk.2) (.int .i64 t263)) (fun _ hk => hk.2) (.slice Ao38 t264.length co38)) (fun _ hk => hk.2) (.slice Ao39 t267.length co39)) (fun _ h_ => h_.1))) hb); have n8_ := Aside0.mk (blk_below (g := gb240) (o := .cells #[.slice A0_0 l0_0.length c0_0, .slice A0_1 l0_1.length c0_1] 24 (0, 0)) (by (with_reducible repeat (first | refine blk_drewN ?_ _ | refine blk_drew ?_ | refine blk_alloc ?_ _)); refine blk_far ?_ NB240_270.out _; (with_reducible repeat (first | refine blk_drewN ?_ _ | refine blk_drew ?_ | refine blk_alloc ?_ _)); refine blk_far ?_ NB240_270.out _; (with_reducible repeat (first | refine blk_drewN ?_ _ | refine blk_drew ?_ | refine blk_alloc ?_ _)); refine blk_far ?_ NB240_270.out _; (with_reducible repeat (first | refine blk_drewN ?_ _ | refine blk_drew ?_ | refine blk_alloc ?_ _)); exact BK240.out) hb); have n9_ := Aside0.mk (blk_below (g := gb255) (o := .cells #[.int .i64 t248, .slice Ao22 t249.length co22, .slice Ao23 t252.length co23] 46 (0, 0)) (by (with_reducible repeat (first | refine blk_drewN ?_ _ | refine blk_drew ?_ | refine blk_alloc ?_ _)); refine blk_far ?_ NB255_270.out _; (with_reducible repeat (first | refine blk_drewN ?_ _ | refine blk_drew ?_ | refine blk_alloc ?_ _)); refine blk_far ?_ NB255_270.out _; (with_reducible repeat (first | refine blk_drewN ?_ _ | refine blk_drew ?_ | refine blk_alloc ?_ _)); refine blk_far ?_ NB255_270.out _; (with_reducible repeat (first | refine blk_drewN ?_ _ | refine blk_drew ?_ | refine blk_alloc ?_ _)); exact BK255.out) hb); have n10_ := Aside0.mk (blk_below (g := gb262) (o := .cells #[.slice Ao27 t256.length co27, .slice Ao31 t259.length co31] 27 (0, 0)) (by (with_reducible repeat (first | refine blk_drewN ?_ _ | refine blk_drew ?_ | refine blk_alloc ?_ _)); refine blk_far ?_ NB262_270.out _; (with_reducible repeat (first | refine blk_drewN ?_ _ | refine blk_drew ?_ | refine blk_alloc ?_ _)); refine blk_far ?_ NB262_270.out _; (with_reducible repeat (first | refine blk_drewN ?_ _ | refine blk_drew ?_ | refine blk_alloc ?_ _)); refine blk_far ?_ NB262_270.out _; (with_reducible repeat (first | refine blk_drewN ?_ _ | refine blk_drew ?_ | refine blk_alloc ?_ _)); exact BK262.out) hb); have n11_ := Aside0.mk (blk_below (g := gb270) (o := .cells #[.int .i64 t263, .slice Ao38 t264.length co38, .slice Ao39 t267.length co39] 46 (0, 0)) (by (with_reducible repeat (first | refine blk_drewN ?_ _ | refine blk_drew ?_ | refine blk_alloc ?_ _)); refine blk_put (cs := #[.int .i64 t263, .slice Ao38 t264.length co38, .slice none 0 0]) ?_ 2 _ rfl; (with_reducible repeat (first | refine blk_drewN ?_ _ | refine blk_drew ?_ | refine blk_alloc ?_ _)); refine blk_put (cs := #[.int .i64 t263, .slice none 0 0, .slice none 0 0]) ?_ 1 _ rfl; (with_reducible repeat (first | refine blk_drewN ?_ _ | refine blk_drew ?_ | refine blk_alloc ?_ _)); refine blk_put (cs := #[.int .i64 0, .slice none 0 0, .slice none 0 0]) ?_ 0 _ rfl; (with_reducible repeat (first | refine blk_drewN ?_ _ | refine blk_drew ?_ | refine blk_alloc ?_ _)); exact BK270.out) hb); have n12_ := Aside0.mk (below_step (by repeat (first | (with_reducible first | exact HB.out | apply below_alloc | apply pw_below_drewN | apply below_drew1 | refine below_set ?_ GE240.out | refine below_set ?_ GE255.out | refine below_set ?_ GE262.out | refine below_set ?_ GE270.out) | exact HB.out)) hb); clear HO244; clear HO247; clear HO251; clear HO254; clear HO258; clear HO261; clear HO266; clear HO269; clear BK240; clear BK255; clear BK262; clear BK270; clear HB; have HO244 := n0_; have HO247 := n1_; have HO251 := n2_; have HO254 := n3_; have HO258 := n4_; have HO261 := n5_; have HO266 := n6_; have HO269 := n7_; have BK240 := n8_; have BK255 := n9_; have BK262 := n10_; have BK270 := n11_; have HB := n12_; clear n0_ n1_ n2_ n3_ n4_ n5_ n6_ n7_ n8_ n9_ n10_ n11_ n12_; (try clear hb); (try clear hb2); (try clear hk); (try clear hi)))
      (try simp only [Act.put, List.setIfInBounds_toArray, List.set_cons_zero, List.set_cons_succ])
      go_cut [] (fun wc => ∃ (kq : Nat), Aside0 (laws_FnExactTrimLog.j1 kq l0_0 l0_1 t248 t249 t252 t256 t259 t263 t264 t267 = some r) ∧ Aside0 (kq ≤ kj2) ∧ Aside0 (Kd.R (Kd.int .u8) 5 wc w.heap.size (fun k_ => some k_ ≠ ((.slice Ao23 t252.length co23) : Value).ownBlock ∧ some k_ ≠ ((.slice Ao27 t256.length co27) : Value).ownBlock ∧ some k_ ≠ ((.slice Ao31 t259.length co31) : Value).ownBlock ∧ some k_ ≠ ((.slice Ao38 t264.length co38) : Value).ownBlock ∧ some k_ ≠ ((.slice Ao39 t267.length co39) : Value).ownBlock) (.slice Ao22 t249.length co22) t249) ∧ Aside0 (Kd.R (Kd.int .u8) 5 wc w.heap.size (fun k_ => some k_ ≠ ((.slice Ao22 t249.length co22) : Value).ownBlock ∧ some k_ ≠ ((.slice Ao27 t256.length co27) : Value).ownBlock ∧ some k_ ≠ ((.slice Ao31 t259.length co31) : Value).ownBlock ∧ some k_ ≠ ((.slice Ao38 t264.length co38) : Value).ownBlock ∧ some k_ ≠ ((.slice Ao39 t267.length co39) : Value).ownBlock) (.slice Ao23 t252.length co23) t252) ∧ Aside0 (Kd.R (Kd.int .u8) 5 wc w.heap.size (fun k_ => some k_ ≠ ((.slice Ao22 t249.length co22) : Value).ownBlock ∧ some k_ ≠ ((.slice Ao23 t252.length co23) : Value).ownBlock ∧ some k_ ≠ ((.slice Ao31 t259.length co31) : Value).ownBlock ∧ some k_ ≠ ((.slice Ao38 t264.length co38) : Value).ownBlock ∧ some k_ ≠ ((.slice Ao39 t267.length co39) : Value).ownBlock) (.slice Ao27 t256.length co27) t256) ∧ Aside0 (Kd.R (Kd.int .u8) 5 wc w.heap.size (fun k_ => some k_ ≠ ((.slice Ao22 t249.length co22) : Value).ownBlock ∧ some k_ ≠ ((.slice Ao23 t252.length co23) : Value).ownBlock ∧ some k_ ≠ ((.slice Ao27 t256.length co27) : Value).ownBlock ∧ some k_ ≠ ((.slice Ao38 t264.length co38) : Value).ownBlock ∧ some k_ ≠ ((.slice Ao39 t267.length co39) : Value).ownBlock) (.slice Ao31 t259.length co31) t259) ∧ Aside0 (Kd.R (Kd.int .u8) 5 wc w.heap.size (fun k_ => some k_ ≠ ((.slice Ao22 t249.length co22) : Value).ownBlock ∧ some k_ ≠ ((.slice Ao23 t252.length co23) : Value).ownBlock ∧ some k_ ≠ ((.slice Ao27 t256.length co27) : Value).ownBlock ∧ some k_ ≠ ((.slice Ao31 t259.length co31) : Value).ownBlock ∧ some k_ ≠ ((.slice Ao39 t267.length co39) : Value).ownBlock) (.slice Ao38 t264.length co38) t264) ∧ Aside0 (Kd.R (Kd.int .u8) 5 wc w.heap.size (fun k_ => some k_ ≠ ((.slice Ao22 t249.length co22) : Value).ownBlock ∧ some k_ ≠ ((.slice Ao23 t252.length co23) : Value).ownBlock ∧ some k_ ≠ ((.slice Ao27 t256.length co27) : Value).ownBlock ∧ some k_ ≠ ((.slice Ao31 t259.length co31) : Value).ownBlock ∧ some k_ ≠ ((.slice Ao38 t264.length co38) : Value).ownBlock) (.slice Ao39 t267.length co39) t267) ∧ Aside0 (wc.heap[gb240]? = some (.cells #[(.slice A0_0 l0_0.length c0_0), (.slice A0_1 l0_1.length c0_1)] 24 (0, 0))) ∧ Aside0 (wc.heap[gb255]? = some (.cells #[.int .i64 t248, (.slice Ao22 t249.length co22), (.slice Ao23 t252.length co23)] 46 (0, 0))) ∧ Aside0 (wc.heap[gb262]? = some (.cells #[(.slice Ao27 t256.length co27), (.slice Ao31 t259.length co31)] 27 (0, 0))) ∧ Aside0 (wc.heap[gb270]? = some (.cells #[.int .i64 t263, (.slice Ao38 t264.length co38), (.slice Ao39 t267.length co39)] 46 (0, 0))) ∧ Aside0 (Below w.heap.size w wc))
      case first =>
        have H := HC13.out
        clear HC13
        by_cases c42 : t271 = true
        · subst c42
          have H1 : (laws_FnExactTrimLog.j1 kj2 l0_0 l0_1 t248 t249 t252 t256 t259 t263 t264 t267) = some r := by rw [if_pos rfl] at H; exact H
          clear H
          have H := H1
          clear H1
          have H' := Aside0.mk H
          clear H
          go_wp2
          go_meet
          case rel => exact ⟨_, H', ⟨by have := HJ2.out; first | omega | exact Nat.le_refl _⟩, ⟨by (with_reducible repeat (first | apply Kd.R_alloc | apply Kd.R_drewN | apply Kd.R_drew)); exact Kd.R_mono HO251.out (fun _ hk => ⟨hk.1.1.1.1.1.1, ⟨hk.1.1.1.2, ⟨hk.1.1.2, ⟨hk.1.2, hk.2⟩⟩⟩⟩)⟩, ⟨by (with_reducible repeat (first | apply Kd.R_alloc | apply Kd.R_drewN | apply Kd.R_drew)); exact Kd.R_mono HO254.out (fun _ hk => ⟨hk.1.1.1.1.1.1, ⟨hk.1.1.1.2, ⟨hk.1.1.2, ⟨hk.1.2, hk.2⟩⟩⟩⟩)⟩, ⟨by (with_reducible repeat (first | apply Kd.R_alloc | apply Kd.R_drewN | apply Kd.R_drew)); exact Kd.R_mono HO258.out (fun _ hk => ⟨hk.1.1.1.2, ⟨hk.1.1.2, ⟨hk.1.1.1.1.1.1, ⟨hk.1.2, hk.2⟩⟩⟩⟩)⟩, ⟨by (with_reducible repeat (first | apply Kd.R_alloc | apply Kd.R_drewN | apply Kd.R_drew)); exact Kd.R_mono HO261.out (fun _ hk => ⟨hk.1.1.1.2, ⟨hk.1.1.2, ⟨hk.1.1.1.1.1.1, ⟨hk.1.2, hk.2⟩⟩⟩⟩)⟩, ⟨by (with_reducible repeat (first | apply Kd.R_alloc | apply Kd.R_drewN | apply Kd.R_drew)); exact Kd.R_mono HO266.out (fun _ hk => ⟨hk.1.1.1.2, ⟨hk.1.1.2, ⟨hk.1.2, ⟨hk.2, hk.1.1.1.1.1.1⟩⟩⟩⟩)⟩, ⟨by (with_reducible repeat (first | apply Kd.R_alloc | apply Kd.R_drewN | apply Kd.R_drew)); exact Kd.R_mono HO269.out (fun _ hk => ⟨hk.1.1.1.2, ⟨hk.1.1.2, ⟨hk.1.2, ⟨hk.2, hk.1.1.1.1.1.1⟩⟩⟩⟩)⟩, ⟨by (with_reducible repeat (first | refine blk_drewN ?_ _ | refine blk_drew ?_ | refine blk_alloc ?_ _)); exact BK240.out⟩, ⟨by (with_reducible repeat (first | refine blk_drewN ?_ _ | refine blk_drew ?_ | refine blk_alloc ?_ _)); exact BK255.out⟩, ⟨by (with_reducible repeat (first | refine blk_drewN ?_ _ | refine blk_drew ?_ | refine blk_alloc ?_ _)); exact BK262.out⟩, ⟨by (with_reducible repeat (first | refine blk_drewN ?_ _ | refine blk_drew ?_ | refine blk_alloc ?_ _)); exact BK270.out⟩, ⟨by repeat (first | (with_reducible first | exact HB.out | apply below_alloc | apply pw_below_drewN | apply below_drew1 | refine below_set ?_ GE240.out | refine below_set ?_ GE255.out | refine below_set ?_ GE262.out | refine below_set ?_ GE270.out) | exact HB.out)⟩⟩
        · replace c42 := Bool.eq_false_iff.mpr c42
          subst c42
          have H1 : (some false) = some r := by rw [if_neg (show ¬ (false = true) by decide)] at H; exact H
          clear H
          have H := H1
          clear H1
          obtain rfl := Option.some.inj H
          go_wp2
          go_ret
          exact ⟨by first | rfl | (simp [errW_none, errW_some] <;> rfl) | (simp [*, errW_none, errW_some] <;> rfl), by repeat (first | (with_reducible first | exact HB.out | apply below_alloc | apply pw_below_drewN | apply below_drew1 | refine below_set ?_ GE240.out | refine below_set ?_ GE255.out | refine below_set ?_ GE262.out | refine below_set ?_ GE270.out) | exact HB.out)⟩
      case rest =>
        clear HC13
        try clear c1
        try clear c2
        try clear p2
        try clear c3
        try clear c4
        try clear c7
        try clear c7b0
        try clear c9
        try clear c14
        try clear c16
        try clear c20
        try clear c28
        try clear c29
        try clear c33
        try clear c34
        try clear c35
        try clear c36
        try clear c42
        try clear hcz14_0
        try clear hcz14_1
        try clear hcz21_0
        try clear hcz21_1
        try clear hcz21_2
        try clear hcz24_0
        try clear hcz24_1
        try clear hcz30_0
        try clear hcz30_1
        try clear hcz37_0
        try clear hcz37_1
        try clear hcz37_2
        try clear hcz40_0
        try clear hcz40_1
        try clear hcz40_2
        try clear hcz5_0
        try clear hcz5_1
        try clear hfz14_0
        try clear hfz14_1
        try clear hfz21_0
        try clear hfz21_1
        try clear hfz21_2
        try clear hfz24_0
        try clear hfz24_1
        try clear hfz30_0
        try clear hfz30_1
        try clear hfz37_0
        try clear hfz37_1
        try clear hfz37_2
        try clear hfz40_0
        try clear hfz40_1
        try clear hfz40_2
        try clear hfz5_0
        try clear hfz5_1
        try clear p2
        obtain ⟨kq, HA, HJ12, HO_256001, HO_256002, HO_263000, HO_263001, HO_271001, HO_271002, BK240, BK255, BK262, BK270, HB⟩ := hcut
        cases kq with
        | zero => exact absurd HA.out (by simp [laws_FnExactTrimLog.j1])
        | succ kj12 =>
          have H := HA.out
          clear HA
          simp only [laws_FnExactTrimLog.j1] at H
          replace H := Option.bind_eq_some_iff.mp H
          obtain ⟨⟨t272, t275⟩, A430, H⟩ := H
          replace H : ((laws_eqLog.f kj12 t256 t259 t272 t275).bind fun t278 => (if t278 = true then (laws_FnExactTrimLog.j2 kj12 l0_0 l0_1 t248 t249 t252 t256 t259 t263 t264 t267) else (some false))) = some r := H
          have A43 := Aside0.mk A430
          clear A430
          replace H := Option.bind_eq_some_iff.mp H
          obtain ⟨t278, A440, H⟩ := H
          replace H : (if t278 = true then (laws_FnExactTrimLog.j2 kj12 l0_0 l0_1 t248 t249 t252 t256 t259 t263 t264 t267) else (some false)) = some r := H
          have A44 := Aside0.mk A440
          clear A440
          have HC45 := Aside0.mk H
          clear H
          try go_wp2
          have n0_ := Aside0.mk (Kd.R_drew HO_256001.out)
          have n1_ := Aside0.mk (Kd.R_drew HO_256002.out)
          have n2_ := Aside0.mk (Kd.R_drew HO_263000.out)
          have n3_ := Aside0.mk (Kd.R_drew HO_263001.out)
          have n4_ := Aside0.mk (Kd.R_drew HO_271001.out)
          have n5_ := Aside0.mk (Kd.R_drew HO_271002.out)
          have n6_ := Aside0.mk (blk_drew BK240.out)
          have n7_ := Aside0.mk (blk_drew BK255.out)
          have n8_ := Aside0.mk (blk_drew BK262.out)
          have n9_ := Aside0.mk (blk_drew BK270.out)
          have n10_ := Aside0.mk (below_drew1 HB.out)
          clear HO_256001
          clear HO_256002
          clear HO_263000
          clear HO_263001
          clear HO_271001
          clear HO_271002
          clear BK240
          clear BK255
          clear BK262
          clear BK270
          clear HB
          have HO_256001 := n0_
          have HO_256002 := n1_
          have HO_263000 := n2_
          have HO_263001 := n3_
          have HO_271001 := n4_
          have HO_271002 := n5_
          have BK240 := n6_
          have BK255 := n7_
          have BK262 := n8_
          have BK270 := n9_
          have HB := n10_
          clear n0_ n1_ n2_ n3_ n4_ n5_ n6_ n7_ n8_ n9_ n10_
          refine start_ (n := 5) (S := fun w' => w'.cell? ⟨gb262, 0, none⟩ = some (.slice Ao27 t256.length co27) ∧ w'.cell? ⟨gb262, 1, none⟩ = some (.slice Ao31 t259.length co31) ∧ w'.cell? ⟨gb240, 0, none⟩ = some (.slice A0_0 l0_0.length c0_0) ∧ w'.cell? ⟨gb240, 1, none⟩ = some (.slice A0_1 l0_1.length c0_1)) (ds := []) #[false, false, false, false, false] (by kernel_rfl) rfl rfl ⟨(blk_cell BK262.out 0).trans rfl, (blk_cell BK262.out 1).trans rfl, (blk_cell BK240.out 0).trans rfl, (blk_cell BK240.out 1).trans rfl⟩ (fun hHeld => ?_)
          generalize wc.drew = w46 at HO_256001 HO_256002 HO_263000 HO_263001 HO_271001 HO_271002 BK240 BK255 BK262 BK270 HB hHeld ⊢
          refine take_ (i := 0) (N := some 27) (v := ?_) (a' := ?_) #[true, false, false, false, false] rfl rfl (by kernel_rfl) (fun _ _ _ h => h) (Or.inl ⟨by rfl, ?_⟩) hHeld ?_ ?_
          rotate_left
          · rintro w' ⟨s0, s1, s2, s3⟩
            go_simp
            with_reducible rfl
          rotate_left
          · simp only [Act.put, List.setIfInBounds_toArray, List.set_cons_zero, List.set_cons_succ, i64_w, i32_w]
            rfl
          refine take_ (i := 1) (N := some 28) (v := ?_) (a' := ?_) #[true, true, false, false, false] rfl rfl (by kernel_rfl) (fun _ _ _ h => h) (Or.inl ⟨by rfl, ?_⟩) hHeld ?_ ?_
          rotate_left
          · rintro w' ⟨s0, s1, s2, s3⟩
            go_simp
            with_reducible rfl
          rotate_left
          · simp only [Act.put, List.setIfInBounds_toArray, List.set_cons_zero, List.set_cons_succ, i64_w, i32_w]
            rfl
          refine one_ (i := 2) (N := some 29) #[true, true, true, false, false] rfl rfl (by kernel_rfl) (by decide) (fun K hK => ?_)
          refine goes_ Try.func16 (by kernel_rfl) rfl #[.agg #[.slice A0_0 l0_0.length c0_0, .slice A0_1 l0_1.length c0_1]] (by rfl) rfl rfl (by (try simp only [List.map_toArray, List.map_cons, List.map_nil]); first | done | rfl | (simp only [List.length_drop, List.length_take]; rfl)) ?_
          with_reducible refine (laws_toLog.calls kj12 _ _ l0_0 _ _ l0_1 t272 t275 _ ?side1 ?side2 ?side3 ?side4 A43.out).mono ?_
          (case side1 => repeat (first | exact (Kd.C_below HR0_0.out HB.out) | (with_reducible refine Kd.C_alloc ?_ _) | (with_reducible refine Kd.C_drewN ?_ _) | (with_reducible refine Kd.C_drew ?_)))
          (case side2 => exact HC0_0.out)
          (case side3 => repeat (first | exact (Kd.C_below HR0_1.out HB.out) | (with_reducible refine Kd.C_alloc ?_ _) | (with_reducible refine Kd.C_drewN ?_ _) | (with_reducible refine Kd.C_drew ?_)))
          (case side4 => exact HC0_1.out)
          rintro e w47 ⟨v273, v276, rfl, ho0, ho1, hb⟩
          refine ⟨_, rfl, ?_⟩
          have n0_ := Aside0.mk (Kd.R_mono (Kd.R_told (Kd.R_told (Kd.R_old (by (with_reducible repeat (first | apply Kd.R_alloc | apply Kd.R_drewN | apply Kd.R_drew)); exact HO_256001.out) hb) (Kd.R_base ho0)) (Kd.R_base ho1)) (fun _ h_ => h_.1))
          have n1_ := Aside0.mk (Kd.R_mono (Kd.R_told (Kd.R_told (Kd.R_old (by (with_reducible repeat (first | apply Kd.R_alloc | apply Kd.R_drewN | apply Kd.R_drew)); exact HO_256002.out) hb) (Kd.R_base ho0)) (Kd.R_base ho1)) (fun _ h_ => h_.1))
          have n2_ := Aside0.mk (Kd.R_mono (Kd.R_told (Kd.R_told (Kd.R_old (by (with_reducible repeat (first | apply Kd.R_alloc | apply Kd.R_drewN | apply Kd.R_drew)); exact HO_263000.out) hb) (Kd.R_base ho0)) (Kd.R_base ho1)) (fun _ h_ => h_.1))
          have n3_ := Aside0.mk (Kd.R_mono (Kd.R_told (Kd.R_told (Kd.R_old (by (with_reducible repeat (first | apply Kd.R_alloc | apply Kd.R_drewN | apply Kd.R_drew)); exact HO_263001.out) hb) (Kd.R_base ho0)) (Kd.R_base ho1)) (fun _ h_ => h_.1))
          have n4_ := Aside0.mk (Kd.R_mono (Kd.R_told (Kd.R_told (Kd.R_old (by (with_reducible repeat (first | apply Kd.R_alloc | apply Kd.R_drewN | apply Kd.R_drew)); exact HO_271001.out) hb) (Kd.R_base ho0)) (Kd.R_base ho1)) (fun _ h_ => h_.1))
          have n5_ := Aside0.mk (Kd.R_mono (Kd.R_told (Kd.R_told (Kd.R_old (by (with_reducible repeat (first | apply Kd.R_alloc | apply Kd.R_drewN | apply Kd.R_drew)); exact HO_271002.out) hb) (Kd.R_base ho0)) (Kd.R_base ho1)) (fun _ h_ => h_.1))
          have n6_ := Aside0.mk (Kd.R_lower (Kd.R_new' (Kd.R_new' (Kd.R_new' (Kd.R_new' (Kd.R_new' (Kd.R_new' ho0 (Kd.R_lt (by (with_reducible repeat (first | apply Kd.R_alloc | apply Kd.R_drewN | apply Kd.R_drew)); exact HO_256001.out))) (Kd.R_lt (by (with_reducible repeat (first | apply Kd.R_alloc | apply Kd.R_drewN | apply Kd.R_drew)); exact HO_256002.out))) (Kd.R_lt (by (with_reducible repeat (first | apply Kd.R_alloc | apply Kd.R_drewN | apply Kd.R_drew)); exact HO_263000.out))) (Kd.R_lt (by (with_reducible repeat (first | apply Kd.R_alloc | apply Kd.R_drewN | apply Kd.R_drew)); exact HO_263001.out))) (Kd.R_lt (by (with_reducible repeat (first | apply Kd.R_alloc | apply Kd.R_drewN | apply Kd.R_drew)); exact HO_271001.out))) (Kd.R_lt (by (with_reducible repeat (first | apply Kd.R_alloc | apply Kd.R_drewN | apply Kd.R_drew)); exact HO_271002.out))) (below_size (by repeat (first | (with_reducible first | exact HB.out | apply below_alloc | apply pw_below_drewN | apply below_drew1 | refine below_set ?_ GE240.out | refine below_set ?_ GE255.out | refine below_set ?_ GE262.out | refine below_set ?_ GE270.out) | exact HB.out))))
          have n7_ := Aside0.mk (Kd.R_lower (Kd.R_new' (Kd.R_new' (Kd.R_new' (Kd.R_new' (Kd.R_new' (Kd.R_new' ho1 (Kd.R_lt (by (with_reducible repeat (first | apply Kd.R_alloc | apply Kd.R_drewN | apply Kd.R_drew)); exact HO_256001.out))) (Kd.R_lt (by (with_reducible repeat (first | apply Kd.R_alloc | apply Kd.R_drewN | apply Kd.R_drew)); exact HO_256002.out))) (Kd.R_lt (by (with_reducible repeat (first | apply Kd.R_alloc | apply Kd.R_drewN | apply Kd.R_drew)); exact HO_263000.out))) (Kd.R_lt (by (with_reducible repeat (first | apply Kd.R_alloc | apply Kd.R_drewN | apply Kd.R_drew)); exact HO_263001.out))) (Kd.R_lt (by (with_reducible repeat (first | apply Kd.R_alloc | apply Kd.R_drewN | apply Kd.R_drew)); exact HO_271001.out))) (Kd.R_lt (by (with_reducible repeat (first | apply Kd.R_alloc | apply Kd.R_drewN | apply Kd.R_drew)); exact HO_271002.out))) (below_size (by repeat (first | (with_reducible first | exact HB.out | apply below_alloc | apply pw_below_drewN | apply below_drew1 | refine below_set ?_ GE240.out | refine below_set ?_ GE255.out | refine below_set ?_ GE262.out | refine below_set ?_ GE270.out) | exact HB.out))))
          have n8_ := Aside0.mk (blk_below (g := gb240) (o := .cells #[.slice A0_0 l0_0.length c0_0, .slice A0_1 l0_1.length c0_1] 24 (0, 0)) (by (with_reducible repeat (first | refine blk_drewN ?_ _ | refine blk_drew ?_ | refine blk_alloc ?_ _)); exact BK240.out) hb)
          have n9_ := Aside0.mk (blk_below (g := gb255) (o := .cells #[.int .i64 t248, .slice Ao22 t249.length co22, .slice Ao23 t252.length co23] 46 (0, 0)) (by (with_reducible repeat (first | refine blk_drewN ?_ _ | refine blk_drew ?_ | refine blk_alloc ?_ _)); exact BK255.out) hb)
          have n10_ := Aside0.mk (blk_below (g := gb262) (o := .cells #[.slice Ao27 t256.length co27, .slice Ao31 t259.length co31] 27 (0, 0)) (by (with_reducible repeat (first | refine blk_drewN ?_ _ | refine blk_drew ?_ | refine blk_alloc ?_ _)); exact BK262.out) hb)
          have n11_ := Aside0.mk (blk_below (g := gb270) (o := .cells #[.int .i64 t263, .slice Ao38 t264.length co38, .slice Ao39 t267.length co39] 46 (0, 0)) (by (with_reducible repeat (first | refine blk_drewN ?_ _ | refine blk_drew ?_ | refine blk_alloc ?_ _)); exact BK270.out) hb)
          have n12_ := Aside0.mk (below_step (by repeat (first | (with_reducible first | exact HB.out | apply below_alloc | apply pw_below_drewN | apply below_drew1 | refine below_set ?_ GE240.out | refine below_set ?_ GE255.out | refine below_set ?_ GE262.out | refine below_set ?_ GE270.out) | exact HB.out)) hb)
          clear HO_256001
          clear HO_256002
          clear HO_263000
          clear HO_263001
          clear HO_271001
          clear HO_271002
          clear BK240
          clear BK255
          clear BK262
          clear BK270
          clear HB
          have HO_256001 := n0_
          have HO_256002 := n1_
          have HO_263000 := n2_
          have HO_263001 := n3_
          have HO_271001 := n4_
          have HO_271002 := n5_
          have HO274 := n6_
          have HO277 := n7_
          have BK240 := n8_
          have BK255 := n9_
          have BK262 := n10_
          have BK270 := n11_
          have HB := n12_
          clear n0_ n1_ n2_ n3_ n4_ n5_ n6_ n7_ n8_ n9_ n10_ n11_ n12_
          (try clear hb)
          (try clear hb2)
          (try clear hk)
          (try clear hi)
          (try clear ho0)
          (try clear ho1)
          obtain ⟨Ao48, co48, eo48⟩ := Kd.R_slice HO274.out
          (first | subst eo48 | (injection eo48 with f1_ f2_ f3_; have f4_ := f1_.symm; have f5_ := f3_.symm; clear f1_ f2_ f3_; subst f4_; subst f5_))
          obtain ⟨Ao49, co49, eo49⟩ := Kd.R_slice HO277.out
          (first | subst eo49 | (injection eo49 with f1_ f2_ f3_; have f4_ := f1_.symm; have f5_ := f3_.symm; clear f1_ f2_ f3_; subst f4_; subst f5_))
          refine hK.out _ _ ⟨(blk_cell BK262.out 0).trans rfl, (blk_cell BK262.out 1).trans rfl, (blk_cell BK240.out 0).trans rfl, (blk_cell BK240.out 1).trans rfl⟩ (fun hHeld => ?_)
          clear hK K
          refine norm_ (a' := ?_) ?_ ?_
          rotate_left
          · show Act.put _ (some 29) _ = _
            simp only [Act.put, List.setIfInBounds_toArray, List.set_cons_zero, List.set_cons_succ, i64_w, i32_w]
            rfl
          refine one_ (i := 3) (N := some 30) #[true, true, true, true, false] rfl rfl (by kernel_rfl) (by decide) (fun K hK => ?_)
          refine goes_ Try.func18 (by kernel_rfl) rfl #[.agg #[.slice Ao27 t256.length co27, .slice Ao31 t259.length co31], .agg #[.slice Ao48 t272.length co48, .slice Ao49 t275.length co49]] (by rfl) rfl rfl (by (try simp only [List.map_toArray, List.map_cons, List.map_nil]); first | done | rfl | (simp only [List.length_drop, List.length_take]; rfl)) ?_
          with_reducible refine (laws_eqLog.calls kj12 _ _ t256 _ _ t259 _ _ t272 _ _ t275 t278 _ ?side1 ?side2 ?side3 ?side4 ?side5 ?side6 ?side7 ?side8 A44.out).mono ?_
          (case side1 => repeat (first | exact (Kd.R_reads' HO_263000.out).2.2 | (with_reducible refine Kd.C_alloc ?_ _) | (with_reducible refine Kd.C_drewN ?_ _) | (with_reducible refine Kd.C_drew ?_)))
          (case side2 => exact (Kd.R_reads' HO_263000.out).2.1)
          (case side3 => repeat (first | exact (Kd.R_reads' HO_263001.out).2.2 | (with_reducible refine Kd.C_alloc ?_ _) | (with_reducible refine Kd.C_drewN ?_ _) | (with_reducible refine Kd.C_drew ?_)))
          (case side4 => exact (Kd.R_reads' HO_263001.out).2.1)
          (case side5 => repeat (first | exact (Kd.R_reads' HO274.out).2.2 | (with_reducible refine Kd.C_alloc ?_ _) | (with_reducible refine Kd.C_drewN ?_ _) | (with_reducible refine Kd.C_drew ?_)))
          (case side6 => exact (Kd.R_reads' HO274.out).2.1)
          (case side7 => repeat (first | exact (Kd.R_reads' HO277.out).2.2 | (with_reducible refine Kd.C_alloc ?_ _) | (with_reducible refine Kd.C_drewN ?_ _) | (with_reducible refine Kd.C_drew ?_)))
          (case side8 => exact (Kd.R_reads' HO277.out).2.1)
          rintro e w50 ⟨rfl, hb⟩
          refine ⟨_, rfl, ?_⟩
          have n0_ := Aside0.mk (Kd.R_below (by (with_reducible repeat (first | apply Kd.R_alloc | apply Kd.R_drewN | apply Kd.R_drew)); exact HO_256001.out) hb)
          have n1_ := Aside0.mk (Kd.R_below (by (with_reducible repeat (first | apply Kd.R_alloc | apply Kd.R_drewN | apply Kd.R_drew)); exact HO_256002.out) hb)
          have n2_ := Aside0.mk (Kd.R_below (by (with_reducible repeat (first | apply Kd.R_alloc | apply Kd.R_drewN | apply Kd.R_drew)); exact HO_263000.out) hb)
          have n3_ := Aside0.mk (Kd.R_below (by (with_reducible repeat (first | apply Kd.R_alloc | apply Kd.R_drewN | apply Kd.R_drew)); exact HO_263001.out) hb)
          have n4_ := Aside0.mk (Kd.R_below (by (with_reducible repeat (first | apply Kd.R_alloc | apply Kd.R_drewN | apply Kd.R_drew)); exact HO_271001.out) hb)
          have n5_ := Aside0.mk (Kd.R_below (by (with_reducible repeat (first | apply Kd.R_alloc | apply Kd.R_drewN | apply Kd.R_drew)); exact HO_271002.out) hb)
          have n6_ := Aside0.mk (Kd.R_below (by (with_reducible repeat (first | apply Kd.R_alloc | apply Kd.R_drewN | apply Kd.R_drew)); exact HO274.out) hb)
          have n7_ := Aside0.mk (Kd.R_below (by (with_reducible repeat (first | apply Kd.R_alloc | apply Kd.R_drewN | apply Kd.R_drew)); exact HO277.out) hb)
          have n8_ := Aside0.mk (blk_below (g := gb240) (o := .cells #[.slice A0_0 l0_0.length c0_0, .slice A0_1 l0_1.length c0_1] 24 (0, 0)) (by (with_reducible repeat (first | refine blk_drewN ?_ _ | refine blk_drew ?_ | refine blk_alloc ?_ _)); exact BK240.out) hb)
          have n9_ := Aside0.mk (blk_below (g := gb255) (o := .cells #[.int .i64 t248, .slice Ao22 t249.length co22, .slice Ao23 t252.length co23] 46 (0, 0)) (by (with_reducible repeat (first | refine blk_drewN ?_ _ | refine blk_drew ?_ | refine blk_alloc ?_ _)); exact BK255.out) hb)
          have n10_ := Aside0.mk (blk_below (g := gb262) (o := .cells #[.slice Ao27 t256.length co27, .slice Ao31 t259.length co31] 27 (0, 0)) (by (with_reducible repeat (first | refine blk_drewN ?_ _ | refine blk_drew ?_ | refine blk_alloc ?_ _)); exact BK262.out) hb)
          have n11_ := Aside0.mk (blk_below (g := gb270) (o := .cells #[.int .i64 t263, .slice Ao38 t264.length co38, .slice Ao39 t267.length co39] 46 (0, 0)) (by (with_reducible repeat (first | refine blk_drewN ?_ _ | refine blk_drew ?_ | refine blk_alloc ?_ _)); exact BK270.out) hb)
          have n12_ := Aside0.mk (below_step (by repeat (first | (with_reducible first | exact HB.out | apply below_alloc | apply pw_below_drewN | apply below_drew1 | refine below_set ?_ GE240.out | refine below_set ?_ GE255.out | refine below_set ?_ GE262.out | refine below_set ?_ GE270.out) | exact HB.out)) hb)
          clear HO_256001
          clear HO_256002
          clear HO_263000
          clear HO_263001
          clear HO_271001
          clear HO_271002
          clear HO274
          clear HO277
          clear BK240
          clear BK255
          clear BK262
          clear BK270
          clear HB
          have HO_256001 := n0_
          have HO_256002 := n1_
          have HO_263000 := n2_
          have HO_263001 := n3_
          have HO_271001 := n4_
          have HO_271002 := n5_
          have HO274 := n6_
          have HO277 := n7_
          have BK240 := n8_
          have BK255 := n9_
          have BK262 := n10_
          have BK270 := n11_
          have HB := n12_
          clear n0_ n1_ n2_ n3_ n4_ n5_ n6_ n7_ n8_ n9_ n10_ n11_ n12_
          (try clear hb)
          (try clear hb2)
          (try clear hk)
          (try clear hi)
          refine hK.out _ _ ⟨(blk_cell BK262.out 0).trans rfl, (blk_cell BK262.out 1).trans rfl, (blk_cell BK240.out 0).trans rfl, (blk_cell BK240.out 1).trans rfl⟩ (fun hHeld => ?_)
          clear hK K
          refine norm_ (a' := ?_) ?_ ?_
          rotate_left
          · show Act.put _ (some 30) _ = _
            simp only [Act.put, List.setIfInBounds_toArray, List.set_cons_zero, List.set_cons_succ, i64_w, i32_w]
            rfl
          refine pure_ (i := 4) (N := some 31) (v := ?_) (a' := ?_) #[true, true, true, true, true] rfl rfl (by kernel_rfl) (fun _ _ _ h => h) (Or.inl ⟨by rfl, ?_⟩) ?_ ?_
          rotate_left
          · intro w'
            go_simp
            with_reducible rfl
          rotate_left
          · simp only [Act.put, List.setIfInBounds_toArray, List.set_cons_zero, List.set_cons_succ, i64_w, i32_w]
            rfl
          refine done_ (by kernel_rfl) ?_
          go_upto_if 31 with (fail)
          go_cut [] (fun wc => ∃ (kq : Nat), Aside0 (laws_FnExactTrimLog.j2 kq l0_0 l0_1 t248 t249 t252 t256 t259 t263 t264 t267 = some r) ∧ Aside0 (kq ≤ kj12) ∧ Aside0 (Kd.R (Kd.int .u8) 5 wc w.heap.size (fun k_ => some k_ ≠ ((.slice Ao23 t252.length co23) : Value).ownBlock ∧ some k_ ≠ ((.slice Ao27 t256.length co27) : Value).ownBlock ∧ some k_ ≠ ((.slice Ao31 t259.length co31) : Value).ownBlock ∧ some k_ ≠ ((.slice Ao38 t264.length co38) : Value).ownBlock ∧ some k_ ≠ ((.slice Ao39 t267.length co39) : Value).ownBlock) (.slice Ao22 t249.length co22) t249) ∧ Aside0 (Kd.R (Kd.int .u8) 5 wc w.heap.size (fun k_ => some k_ ≠ ((.slice Ao22 t249.length co22) : Value).ownBlock ∧ some k_ ≠ ((.slice Ao27 t256.length co27) : Value).ownBlock ∧ some k_ ≠ ((.slice Ao31 t259.length co31) : Value).ownBlock ∧ some k_ ≠ ((.slice Ao38 t264.length co38) : Value).ownBlock ∧ some k_ ≠ ((.slice Ao39 t267.length co39) : Value).ownBlock) (.slice Ao23 t252.length co23) t252) ∧ Aside0 (Kd.R (Kd.int .u8) 5 wc w.heap.size (fun k_ => some k_ ≠ ((.slice Ao22 t249.length co22) : Value).ownBlock ∧ some k_ ≠ ((.slice Ao23 t252.length co23) : Value).ownBlock ∧ some k_ ≠ ((.slice Ao31 t259.length co31) : Value).ownBlock ∧ some k_ ≠ ((.slice Ao38 t264.length co38) : Value).ownBlock ∧ some k_ ≠ ((.slice Ao39 t267.length co39) : Value).ownBlock) (.slice Ao27 t256.length co27) t256) ∧ Aside0 (Kd.R (Kd.int .u8) 5 wc w.heap.size (fun k_ => some k_ ≠ ((.slice Ao22 t249.length co22) : Value).ownBlock ∧ some k_ ≠ ((.slice Ao23 t252.length co23) : Value).ownBlock ∧ some k_ ≠ ((.slice Ao27 t256.length co27) : Value).ownBlock ∧ some k_ ≠ ((.slice Ao38 t264.length co38) : Value).ownBlock ∧ some k_ ≠ ((.slice Ao39 t267.length co39) : Value).ownBlock) (.slice Ao31 t259.length co31) t259) ∧ Aside0 (Kd.R (Kd.int .u8) 5 wc w.heap.size (fun k_ => some k_ ≠ ((.slice Ao22 t249.length co22) : Value).ownBlock ∧ some k_ ≠ ((.slice Ao23 t252.length co23) : Value).ownBlock ∧ some k_ ≠ ((.slice Ao27 t256.length co27) : Value).ownBlock ∧ some k_ ≠ ((.slice Ao31 t259.length co31) : Value).ownBlock ∧ some k_ ≠ ((.slice Ao39 t267.length co39) : Value).ownBlock) (.slice Ao38 t264.length co38) t264) ∧ Aside0 (Kd.R (Kd.int .u8) 5 wc w.heap.size (fun k_ => some k_ ≠ ((.slice Ao22 t249.length co22) : Value).ownBlock ∧ some k_ ≠ ((.slice Ao23 t252.length co23) : Value).ownBlock ∧ some k_ ≠ ((.slice Ao27 t256.length co27) : Value).ownBlock ∧ some k_ ≠ ((.slice Ao31 t259.length co31) : Value).ownBlock ∧ some k_ ≠ ((.slice Ao38 t264.length co38) : Value).ownBlock) (.slice Ao39 t267.length co39) t267) ∧ Aside0 (wc.heap[gb240]? = some (.cells #[(.slice A0_0 l0_0.length c0_0), (.slice A0_1 l0_1.length c0_1)] 24 (0, 0))) ∧ Aside0 (wc.heap[gb255]? = some (.cells #[.int .i64 t248, (.slice Ao22 t249.length co22), (.slice Ao23 t252.length co23)] 46 (0, 0))) ∧ Aside0 (wc.heap[gb262]? = some (.cells #[(.slice Ao27 t256.length co27), (.slice Ao31 t259.length co31)] 27 (0, 0))) ∧ Aside0 (wc.heap[gb270]? = some (.cells #[.int .i64 t263, (.slice Ao38 t264.length co38), (.slice Ao39 t267.length co39)] 46 (0, 0))) ∧ Aside0 (Below w.heap.size w wc))
          case first =>
            have H := HC45.out
            clear HC45
            by_cases c51 : t278 = true
            · subst c51
              have H1 : (laws_FnExactTrimLog.j2 kj12 l0_0 l0_1 t248 t249 t252 t256 t259 t263 t264 t267) = some r := by rw [if_pos rfl] at H; exact H
              clear H
              have H := H1
              clear H1
              have H' := Aside0.mk H
              clear H
              go_wp2
              go_meet
              case rel => exact ⟨_, H', ⟨by have := HJ2.out; have := HJ12.out; first | omega | exact Nat.le_refl _⟩, ⟨by (with_reducible repeat (first | apply Kd.R_alloc | apply Kd.R_drewN | apply Kd.R_drew)); exact Kd.R_mono HO_256001.out (fun _ hk => ⟨hk.1.1.1, ⟨hk.1.1.2.1, ⟨hk.1.1.2.2.1, ⟨hk.1.1.2.2.2.1, hk.1.1.2.2.2.2⟩⟩⟩⟩)⟩, ⟨by (with_reducible repeat (first | apply Kd.R_alloc | apply Kd.R_drewN | apply Kd.R_drew)); exact Kd.R_mono HO_256002.out (fun _ hk => ⟨hk.1.1.1, ⟨hk.1.1.2.1, ⟨hk.1.1.2.2.1, ⟨hk.1.1.2.2.2.1, hk.1.1.2.2.2.2⟩⟩⟩⟩)⟩, ⟨by (with_reducible repeat (first | apply Kd.R_alloc | apply Kd.R_drewN | apply Kd.R_drew)); exact Kd.R_mono HO_263000.out (fun _ hk => ⟨hk.1.1.1, ⟨hk.1.1.2.1, ⟨hk.1.1.2.2.1, ⟨hk.1.1.2.2.2.1, hk.1.1.2.2.2.2⟩⟩⟩⟩)⟩, ⟨by (with_reducible repeat (first | apply Kd.R_alloc | apply Kd.R_drewN | apply Kd.R_drew)); exact Kd.R_mono HO_263001.out (fun _ hk => ⟨hk.1.1.1, ⟨hk.1.1.2.1, ⟨hk.1.1.2.2.1, ⟨hk.1.1.2.2.2.1, hk.1.1.2.2.2.2⟩⟩⟩⟩)⟩, ⟨by (with_reducible repeat (first | apply Kd.R_alloc | apply Kd.R_drewN | apply Kd.R_drew)); exact Kd.R_mono HO_271001.out (fun _ hk => ⟨hk.1.1.1, ⟨hk.1.1.2.1, ⟨hk.1.1.2.2.1, ⟨hk.1.1.2.2.2.1, hk.1.1.2.2.2.2⟩⟩⟩⟩)⟩, ⟨by (with_reducible repeat (first | apply Kd.R_alloc | apply Kd.R_drewN | apply Kd.R_drew)); exact Kd.R_mono HO_271002.out (fun _ hk => ⟨hk.1.1.1, ⟨hk.1.1.2.1, ⟨hk.1.1.2.2.1, ⟨hk.1.1.2.2.2.1, hk.1.1.2.2.2.2⟩⟩⟩⟩)⟩, ⟨by (with_reducible repeat (first | refine blk_drewN ?_ _ | refine blk_drew ?_ | refine blk_alloc ?_ _)); exact BK240.out⟩, ⟨by (with_reducible repeat (first | refine blk_drewN ?_ _ | refine blk_drew ?_ | refine blk_alloc ?_ _)); exact BK255.out⟩, ⟨by (with_reducible repeat (first | refine blk_drewN ?_ _ | refine blk_drew ?_ | refine blk_alloc ?_ _)); exact BK262.out⟩, ⟨by (with_reducible repeat (first | refine blk_drewN ?_ _ | refine blk_drew ?_ | refine blk_alloc ?_ _)); exact BK270.out⟩, ⟨by repeat (first | (with_reducible first | exact HB.out | apply below_alloc | apply pw_below_drewN | apply below_drew1 | refine below_set ?_ GE240.out | refine below_set ?_ GE255.out | refine below_set ?_ GE262.out | refine below_set ?_ GE270.out) | exact HB.out)⟩⟩
            · replace c51 := Bool.eq_false_iff.mpr c51
              subst c51
              have H1 : (some false) = some r := by rw [if_neg (show ¬ (false = true) by decide)] at H; exact H
              clear H
              have H := H1
              clear H1
              obtain rfl := Option.some.inj H
              go_wp2
              go_ret
              exact ⟨by first | rfl | (simp [errW_none, errW_some] <;> rfl) | (simp [*, errW_none, errW_some] <;> rfl), by repeat (first | (with_reducible first | exact HB.out | apply below_alloc | apply pw_below_drewN | apply below_drew1 | refine below_set ?_ GE240.out | refine below_set ?_ GE255.out | refine below_set ?_ GE262.out | refine below_set ?_ GE270.out) | exact HB.out)⟩
          case rest =>
            clear HC45
            try clear c1
            try clear c2
            try clear p2
            try clear c3
            try clear c4
            try clear c5
            try clear c7
            try clear c7b0
            try clear c9
            try clear c14
            try clear c16
            try clear c18
            try clear c20
            try clear c28
            try clear c29
            try clear c33
            try clear c34
            try clear c35
            try clear c36
            try clear c42
            try clear c43
            try clear c44
            try clear c51
            try clear hcz14_0
            try clear hcz14_1
            try clear hcz21_0
            try clear hcz21_1
            try clear hcz21_2
            try clear hcz24_0
            try clear hcz24_1
            try clear hcz30_0
            try clear hcz30_1
            try clear hcz37_0
            try clear hcz37_1
            try clear hcz37_2
            try clear hcz40_0
            try clear hcz40_1
            try clear hcz40_2
            try clear hcz5_0
            try clear hcz5_1
            try clear hfz14_0
            try clear hfz14_1
            try clear hfz21_0
            try clear hfz21_1
            try clear hfz21_2
            try clear hfz24_0
            try clear hfz24_1
            try clear hfz30_0
            try clear hfz30_1
            try clear hfz37_0
            try clear hfz37_1
            try clear hfz37_2
            try clear hfz40_0
            try clear hfz40_1
            try clear hfz40_2
            try clear hfz5_0
            try clear hfz5_1
            try clear p2
            obtain ⟨kq, HA, HJ44, HO_256001, HO_256002, HO_263000, HO_263001, HO_271001, HO_271002, BK240, BK255, BK262, BK270, HB⟩ := hcut
            cases kq with
            | zero => exact absurd HA.out (by simp [laws_FnExactTrimLog.j2])
            | succ kj44 =>
              have H := HA.out
              clear HA
              simp only [laws_FnExactTrimLog.j2] at H
              replace H := Option.bind_eq_some_iff.mp H
              obtain ⟨⟨t279, t280, t281⟩, A520, H⟩ := H
              replace H : (if t279 < 0 then (laws_FnExactTrimLog.j3 kj44 true l0_0 l0_1 t248 t249 t252 t263 t264 t267) else ((laws_eqLogResult.f kj44 t263 t264 t267 t248 t249 t252).bind fun t282 => (laws_FnExactTrimLog.j3 kj44 (!t282) l0_0 l0_1 t248 t249 t252 t263 t264 t267))) = some r := H
              have A52 := Aside0.mk A520
              clear A520
              have HC53 := Aside0.mk H
              clear H
              have hnb54 := NB262_240.out
              have hnc54 := NB240_262.out
              have hnb55 := NB262_255.out
              have hnc55 := NB255_262.out
              have hnb56 := NB262_270.out
              have hnc56 := NB270_262.out
              have hcz57_0 : wc.cell? ⟨gb262, 0, none⟩ = some (.slice Ao27 t256.length co27) := (blk_cell BK262.out 0).trans rfl
              have hcz57_1 : wc.cell? ⟨gb262, 1, none⟩ = some (.slice Ao31 t259.length co31) := (blk_cell BK262.out 1).trans rfl
              have hfz57_0 := blk_frozen BK262.out 0
              have hfz57_1 := blk_frozen BK262.out 1
              go_upto_region 14 with (first | ((with_reducible refine gate_callee (f := 34) rfl ?_); refine goesL_ (some 34) rfl rfl Try.func34 (by kernel_rfl) rfl #[.agg #[.slice Ao27 t256.length co27, .slice Ao31 t259.length co31], .int .i64 1] rfl (by (try simp only [List.map_toArray, List.map_cons, List.map_nil]); first | done | rfl | (simp only [List.length_drop, List.length_take]; rfl)) ?_; (with_reducible refine (laws_markLog.calls kj44 (fun k_ => some k_ = (.slice Ao27 t256.length co27 : Value).ownBlock) (.slice Ao27 t256.length co27) t256 (fun k_ => some k_ = (.slice Ao31 t259.length co31 : Value).ownBlock) (.slice Ao31 t259.length co31) t259 1 t279 t280 t281 w _ ?side1 ?side2 ?side3 ?side4 ?side5 A52.out).mono ?_); (case side1 => repeat (first | (with_reducible first | exact HB.out | apply below_alloc | apply pw_below_drewN | apply below_drew1 | refine below_set ?_ GE240.out | refine below_set ?_ GE255.out | refine below_set ?_ GE262.out | refine below_set ?_ GE270.out) | exact HB.out)); (case side2 => exact Kd.R_tight rfl HO_263000.out); (case side3 => exact fun k_ e_ => (HO_263000.out.1 k_ e_.symm).2.2.1); (case side4 => exact Kd.R_tight rfl HO_263001.out); (case side5 => exact fun k_ e_ => (HO_263001.out.1 k_ e_.symm).2.2.1); rintro e w58 ⟨rfl, hy0, hy1, hb, hkp⟩; refine ⟨_, rfl, ?_⟩; have n0_ := Aside0.mk (Kd.R_mono (ok' := fun k_ => some k_ ≠ (.slice Ao23 t252.length co23 : Value).ownBlock ∧ some k_ ≠ (.slice Ao27 t256.length co27 : Value).ownBlock ∧ some k_ ≠ (.slice Ao31 t259.length co31 : Value).ownBlock ∧ some k_ ≠ (.slice Ao38 t264.length co38 : Value).ownBlock ∧ some k_ ≠ (.slice Ao39 t267.length co39 : Value).ownBlock) (Kd.R_keptB (HO_256001.out) hkp (fun k_ hk_ hs_ => Or.elim hs_ (fun e_ => (hk_.2.1) e_) (fun e_ => (hk_.2.2.1) e_))) (fun k_ hk_ => ⟨hk_.1.1, hk_.1.2.1, hk_.1.2.2.1, hk_.1.2.2.2.1, hk_.1.2.2.2.2⟩)); have n1_ := Aside0.mk (Kd.R_mono (ok' := fun k_ => some k_ ≠ (.slice Ao22 t249.length co22 : Value).ownBlock ∧ some k_ ≠ (.slice Ao27 t256.length co27 : Value).ownBlock ∧ some k_ ≠ (.slice Ao31 t259.length co31 : Value).ownBlock ∧ some k_ ≠ (.slice Ao38 t264.length co38 : Value).ownBlock ∧ some k_ ≠ (.slice Ao39 t267.length co39 : Value).ownBlock) (Kd.R_keptB (HO_256002.out) hkp (fun k_ hk_ hs_ => Or.elim hs_ (fun e_ => (hk_.2.1) e_) (fun e_ => (hk_.2.2.1) e_))) (fun k_ hk_ => ⟨hk_.1.1, hk_.1.2.1, hk_.1.2.2.1, hk_.1.2.2.2.1, hk_.1.2.2.2.2⟩)); have n2_ := Aside0.mk (Kd.R_reok rfl hy0 (fun k_ e_ => HO_263000.out.1 k_ e_)); have n3_ := Aside0.mk (Kd.R_reok rfl hy1 (fun k_ e_ => HO_263001.out.1 k_ e_)); have n4_ := Aside0.mk (Kd.R_mono (ok' := fun k_ => some k_ ≠ (.slice Ao22 t249.length co22 : Value).ownBlock ∧ some k_ ≠ (.slice Ao23 t252.length co23 : Value).ownBlock ∧ some k_ ≠ (.slice Ao27 t256.length co27 : Value).ownBlock ∧ some k_ ≠ (.slice Ao31 t259.length co31 : Value).ownBlock ∧ some k_ ≠ (.slice Ao39 t267.length co39 : Value).ownBlock) (Kd.R_keptB (HO_271001.out) hkp (fun k_ hk_ hs_ => Or.elim hs_ (fun e_ => (hk_.2.2.1) e_) (fun e_ => (hk_.2.2.2.1) e_))) (fun k_ hk_ => ⟨hk_.1.1, hk_.1.2.1, hk_.1.2.2.1, hk_.1.2.2.2.1, hk_.1.2.2.2.2⟩)); have n5_ := Aside0.mk (Kd.R_mono (ok' := fun k_ => some k_ ≠ (.slice Ao22 t249.length co22 : Value).ownBlock ∧ some k_ ≠ (.slice Ao23 t252.length co23 : Value).ownBlock ∧ some k_ ≠ (.slice Ao27 t256.length co27 : Value).ownBlock ∧ some k_ ≠ (.slice Ao31 t259.length co31 : Value).ownBlock ∧ some k_ ≠ (.slice Ao38 t264.length co38 : Value).ownBlock) (Kd.R_keptB (HO_271002.out) hkp (fun k_ hk_ hs_ => Or.elim hs_ (fun e_ => (hk_.2.2.1) e_) (fun e_ => (hk_.2.2.2.1) e_))) (fun k_ hk_ => ⟨hk_.1.1, hk_.1.2.1, hk_.1.2.2.1, hk_.1.2.2.2.1, hk_.1.2.2.2.2⟩)); have n6_ := Aside0.mk (blk_kept (by (with_reducible repeat (first | refine blk_drewN ?_ _ | refine blk_drew ?_ | refine blk_alloc ?_ _)); exact BK240.out) hkp (fun hs_ => Or.elim hs_ (fun e_ => (fun e_ => (Kd.R_ne HO_263000.out BK240.out (by decide)) e_) e_) (fun e_ => (fun e_ => (Kd.R_ne HO_263001.out BK240.out (by decide)) e_) e_))); have n7_ := Aside0.mk (blk_kept (by (with_reducible repeat (first | refine blk_drewN ?_ _ | refine blk_drew ?_ | refine blk_alloc ?_ _)); exact BK255.out) hkp (fun hs_ => Or.elim hs_ (fun e_ => (fun e_ => (Kd.R_ne HO_263000.out BK255.out (by decide)) e_) e_) (fun e_ => (fun e_ => (Kd.R_ne HO_263001.out BK255.out (by decide)) e_) e_))); have n8_ := Aside0.mk (blk_kept (by (with_reducible repeat (first | refine blk_drewN ?_ _ | refine blk_drew ?_ | refine blk_alloc ?_ _)); exact BK262.out) hkp (fun hs_ => Or.elim hs_ (fun e_ => (fun e_ => (Kd.R_ne HO_263000.out BK262.out (by decide)) e_) e_) (fun e_ => (fun e_ => (Kd.R_ne HO_263001.out BK262.out (by decide)) e_) e_))); have n9_ := Aside0.mk (blk_kept (by (with_reducible repeat (first | refine blk_drewN ?_ _ | refine blk_drew ?_ | refine blk_alloc ?_ _)); exact BK270.out) hkp (fun hs_ => Or.elim hs_ (fun e_ => (fun e_ => (Kd.R_ne HO_263000.out BK270.out (by decide)) e_) e_) (fun e_ => (fun e_ => (Kd.R_ne HO_263001.out BK270.out (by decide)) e_) e_))); have n10_ := Aside0.mk (hb); clear HO_256001; clear HO_256002; clear HO_263000; clear HO_263001; clear HO_271001; clear HO_271002; clear BK240; clear BK255; clear BK262; clear BK270; clear HB; have HO_256001 := n0_; have HO_256002 := n1_; have HO_263000 := n2_; have HO_263001 := n3_; have HO_271001 := n4_; have HO_271002 := n5_; have BK240 := n6_; have BK255 := n7_; have BK262 := n8_; have BK270 := n9_; have HB := n10_; clear n0_ n1_ n2_ n3_ n4_ n5_ n6_ n7_ n8_ n9_ n10_; (try clear hb); (try clear hkp); (try clear hy0); (try clear hy1)))
              (try simp only [Act.put, List.setIfInBounds_toArray, List.set_cons_zero, List.set_cons_succ])
              go_cut [42] (fun v42 wc => ∃ (kq : Nat) (x42_52 : Bool), v42 = .bool x42_52 ∧ Aside0 (laws_FnExactTrimLog.j3 kq x42_52 l0_0 l0_1 t248 t249 t252 t263 t264 t267 = some r) ∧ Aside0 (kq ≤ kj44) ∧ Aside0 (Kd.R (Kd.int .u8) 5 wc w.heap.size (fun k_ => some k_ ≠ ((.slice Ao23 t252.length co23) : Value).ownBlock ∧ some k_ ≠ ((.slice Ao27 t256.length co27) : Value).ownBlock ∧ some k_ ≠ ((.slice Ao31 t259.length co31) : Value).ownBlock ∧ some k_ ≠ ((.slice Ao38 t264.length co38) : Value).ownBlock ∧ some k_ ≠ ((.slice Ao39 t267.length co39) : Value).ownBlock) (.slice Ao22 t249.length co22) t249) ∧ Aside0 (Kd.R (Kd.int .u8) 5 wc w.heap.size (fun k_ => some k_ ≠ ((.slice Ao22 t249.length co22) : Value).ownBlock ∧ some k_ ≠ ((.slice Ao27 t256.length co27) : Value).ownBlock ∧ some k_ ≠ ((.slice Ao31 t259.length co31) : Value).ownBlock ∧ some k_ ≠ ((.slice Ao38 t264.length co38) : Value).ownBlock ∧ some k_ ≠ ((.slice Ao39 t267.length co39) : Value).ownBlock) (.slice Ao23 t252.length co23) t252) ∧ Aside0 (Kd.R (Kd.int .u8) 5 wc w.heap.size (fun k_ => some k_ ≠ ((.slice Ao22 t249.length co22) : Value).ownBlock ∧ some k_ ≠ ((.slice Ao23 t252.length co23) : Value).ownBlock ∧ some k_ ≠ ((.slice Ao31 t259.length co31) : Value).ownBlock ∧ some k_ ≠ ((.slice Ao38 t264.length co38) : Value).ownBlock ∧ some k_ ≠ ((.slice Ao39 t267.length co39) : Value).ownBlock) (.slice Ao27 t256.length co27) t280) ∧ Aside0 (Kd.R (Kd.int .u8) 5 wc w.heap.size (fun k_ => some k_ ≠ ((.slice Ao22 t249.length co22) : Value).ownBlock ∧ some k_ ≠ ((.slice Ao23 t252.length co23) : Value).ownBlock ∧ some k_ ≠ ((.slice Ao27 t256.length co27) : Value).ownBlock ∧ some k_ ≠ ((.slice Ao38 t264.length co38) : Value).ownBlock ∧ some k_ ≠ ((.slice Ao39 t267.length co39) : Value).ownBlock) (.slice Ao31 t259.length co31) t281) ∧ Aside0 (Kd.R (Kd.int .u8) 5 wc w.heap.size (fun k_ => some k_ ≠ ((.slice Ao22 t249.length co22) : Value).ownBlock ∧ some k_ ≠ ((.slice Ao23 t252.length co23) : Value).ownBlock ∧ some k_ ≠ ((.slice Ao27 t256.length co27) : Value).ownBlock ∧ some k_ ≠ ((.slice Ao31 t259.length co31) : Value).ownBlock ∧ some k_ ≠ ((.slice Ao39 t267.length co39) : Value).ownBlock) (.slice Ao38 t264.length co38) t264) ∧ Aside0 (Kd.R (Kd.int .u8) 5 wc w.heap.size (fun k_ => some k_ ≠ ((.slice Ao22 t249.length co22) : Value).ownBlock ∧ some k_ ≠ ((.slice Ao23 t252.length co23) : Value).ownBlock ∧ some k_ ≠ ((.slice Ao27 t256.length co27) : Value).ownBlock ∧ some k_ ≠ ((.slice Ao31 t259.length co31) : Value).ownBlock ∧ some k_ ≠ ((.slice Ao38 t264.length co38) : Value).ownBlock) (.slice Ao39 t267.length co39) t267) ∧ Aside0 (wc.heap[gb240]? = some (.cells #[(.slice A0_0 l0_0.length c0_0), (.slice A0_1 l0_1.length c0_1)] 24 (0, 0))) ∧ Aside0 (wc.heap[gb255]? = some (.cells #[.int .i64 t248, (.slice Ao22 t249.length co22), (.slice Ao23 t252.length co23)] 46 (0, 0))) ∧ Aside0 (wc.heap[gb262]? = some (.cells #[(.slice Ao27 t256.length co27), (.slice Ao31 t259.length co31)] 27 (0, 0))) ∧ Aside0 (wc.heap[gb270]? = some (.cells #[.int .i64 t263, (.slice Ao38 t264.length co38), (.slice Ao39 t267.length co39)] 46 (0, 0))) ∧ Aside0 (Below w.heap.size w wc))
              case first =>
                have H := HC53.out
                clear HC53
                by_cases c59 : t279 < 0
                · rw [if_pos c59] at H
                  have c59b0 : decide (t279 < 0) = true := decide_eq_true c59
                  clear c59
                  (first | rw [c59b0] | (simp only [i64_w, i32_w]; rw [c59b0]) | skip)
                  have H' := Aside0.mk H
                  clear H
                  go_wp2
                  go_meet
                  case rel => exact ⟨_, (true), (by first | rfl | (simp; done) | (simp [*]; done)), H', ⟨by have := HJ2.out; have := HJ12.out; have := HJ44.out; first | omega | exact Nat.le_refl _⟩, ⟨by (with_reducible repeat (first | apply Kd.R_alloc | apply Kd.R_drewN | apply Kd.R_drew)); exact HO_256001.out⟩, ⟨by (with_reducible repeat (first | apply Kd.R_alloc | apply Kd.R_drewN | apply Kd.R_drew)); exact HO_256002.out⟩, ⟨by (with_reducible repeat (first | apply Kd.R_alloc | apply Kd.R_drewN | apply Kd.R_drew)); exact HO_263000.out⟩, ⟨by (with_reducible repeat (first | apply Kd.R_alloc | apply Kd.R_drewN | apply Kd.R_drew)); exact HO_263001.out⟩, ⟨by (with_reducible repeat (first | apply Kd.R_alloc | apply Kd.R_drewN | apply Kd.R_drew)); exact HO_271001.out⟩, ⟨by (with_reducible repeat (first | apply Kd.R_alloc | apply Kd.R_drewN | apply Kd.R_drew)); exact HO_271002.out⟩, ⟨by (with_reducible repeat (first | refine blk_drewN ?_ _ | refine blk_drew ?_ | refine blk_alloc ?_ _)); exact BK240.out⟩, ⟨by (with_reducible repeat (first | refine blk_drewN ?_ _ | refine blk_drew ?_ | refine blk_alloc ?_ _)); exact BK255.out⟩, ⟨by (with_reducible repeat (first | refine blk_drewN ?_ _ | refine blk_drew ?_ | refine blk_alloc ?_ _)); exact BK262.out⟩, ⟨by (with_reducible repeat (first | refine blk_drewN ?_ _ | refine blk_drew ?_ | refine blk_alloc ?_ _)); exact BK270.out⟩, ⟨by repeat (first | (with_reducible first | exact HB.out | apply below_alloc | apply pw_below_drewN | apply below_drew1 | refine below_set ?_ GE240.out | refine below_set ?_ GE255.out | refine below_set ?_ GE262.out | refine below_set ?_ GE270.out) | exact HB.out)⟩⟩
                · rw [if_neg c59] at H
                  have c59b0 : decide (t279 < 0) = false := decide_eq_false c59
                  clear c59
                  (first | rw [c59b0] | (simp only [i64_w, i32_w]; rw [c59b0]) | skip)
                  replace H := Option.bind_eq_some_iff.mp H
                  obtain ⟨t282, A600, H⟩ := H
                  replace H : (laws_FnExactTrimLog.j3 kj44 (!t282) l0_0 l0_1 t248 t249 t252 t263 t264 t267) = some r := H
                  have A60 := Aside0.mk A600
                  clear A600
                  have H' := Aside0.mk H
                  clear H
                  have hnb61 := NB270_240.out
                  have hnc61 := NB240_270.out
                  have hnb62 := NB270_255.out
                  have hnc62 := NB255_270.out
                  have hnb63 := NB270_262.out
                  have hnc63 := NB262_270.out
                  have hcz64_0 : w58.cell? ⟨gb270, 0, none⟩ = some (.int .i64 t263) := (blk_cell BK270.out 0).trans rfl
                  have hcz64_1 : w58.cell? ⟨gb270, 1, none⟩ = some (.slice Ao38 t264.length co38) := (blk_cell BK270.out 1).trans rfl
                  have hcz64_2 : w58.cell? ⟨gb270, 2, none⟩ = some (.slice Ao39 t267.length co39) := (blk_cell BK270.out 2).trans rfl
                  have hfz64_0 := blk_frozen BK270.out 0
                  have hfz64_1 := blk_frozen BK270.out 1
                  have hfz64_2 := blk_frozen BK270.out 2
                  have hnb65 := NB255_240.out
                  have hnc65 := NB240_255.out
                  have hnb66 := NB255_262.out
                  have hnc66 := NB262_255.out
                  have hcz67_0 : w58.cell? ⟨gb255, 0, none⟩ = some (.int .i64 t248) := (blk_cell BK255.out 0).trans rfl
                  have hcz67_1 : w58.cell? ⟨gb255, 1, none⟩ = some (.slice Ao22 t249.length co22) := (blk_cell BK255.out 1).trans rfl
                  have hcz67_2 : w58.cell? ⟨gb255, 2, none⟩ = some (.slice Ao23 t252.length co23) := (blk_cell BK255.out 2).trans rfl
                  have hfz67_0 := blk_frozen BK255.out 0
                  have hfz67_1 := blk_frozen BK255.out 1
                  have hfz67_2 := blk_frozen BK255.out 2
                  go_wp2_with (first | (go_at_call 33; (with_reducible refine (laws_eqLogResult.calls kj44 t263 _ _ t264 _ _ t267 t248 _ _ t249 _ _ t252 t282 _ ?side1 ?side2 ?side3 ?side4 ?side5 ?side6 ?side7 ?side8 A60.out).mono ?_); (case side1 => repeat (first | exact (Kd.R_reads' HO_271001.out).2.2 | (with_reducible refine Kd.C_alloc ?_ _) | (with_reducible refine Kd.C_drewN ?_ _) | (with_reducible refine Kd.C_drew ?_))); (case side2 => exact (Kd.R_reads' HO_271001.out).2.1); (case side3 => repeat (first | exact (Kd.R_reads' HO_271002.out).2.2 | (with_reducible refine Kd.C_alloc ?_ _) | (with_reducible refine Kd.C_drewN ?_ _) | (with_reducible refine Kd.C_drew ?_))); (case side4 => exact (Kd.R_reads' HO_271002.out).2.1); (case side5 => repeat (first | exact (Kd.R_reads' HO_256001.out).2.2 | (with_reducible refine Kd.C_alloc ?_ _) | (with_reducible refine Kd.C_drewN ?_ _) | (with_reducible refine Kd.C_drew ?_))); (case side6 => exact (Kd.R_reads' HO_256001.out).2.1); (case side7 => repeat (first | exact (Kd.R_reads' HO_256002.out).2.2 | (with_reducible refine Kd.C_alloc ?_ _) | (with_reducible refine Kd.C_drewN ?_ _) | (with_reducible refine Kd.C_drew ?_))); (case side8 => exact (Kd.R_reads' HO_256002.out).2.1); rintro e w68 ⟨rfl, hb⟩; have n0_ := Aside0.mk (Kd.R_below (by (with_reducible repeat (first | apply Kd.R_alloc | apply Kd.R_drewN | apply Kd.R_drew)); exact HO_256001.out) hb); have n1_ := Aside0.mk (Kd.R_below (by (with_reducible repeat (first | apply Kd.R_alloc | apply Kd.R_drewN | apply Kd.R_drew)); exact HO_256002.out) hb); have n2_ := Aside0.mk (Kd.R_below (by (with_reducible repeat (first | apply Kd.R_alloc | apply Kd.R_drewN | apply Kd.R_drew)); exact HO_263000.out) hb); have n3_ := Aside0.mk (Kd.R_below (by (with_reducible repeat (first | apply Kd.R_alloc | apply Kd.R_drewN | apply Kd.R_drew)); exact HO_263001.out) hb); have n4_ := Aside0.mk (Kd.R_below (by (with_reducible repeat (first | apply Kd.R_alloc | apply Kd.R_drewN | apply Kd.R_drew)); exact HO_271001.out) hb); have n5_ := Aside0.mk (Kd.R_below (by (with_reducible repeat (first | apply Kd.R_alloc | apply Kd.R_drewN | apply Kd.R_drew)); exact HO_271002.out) hb); have n6_ := Aside0.mk (blk_below (g := gb240) (o := .cells #[.slice A0_0 l0_0.length c0_0, .slice A0_1 l0_1.length c0_1] 24 (0, 0)) (by (with_reducible repeat (first | refine blk_drewN ?_ _ | refine blk_drew ?_ | refine blk_alloc ?_ _)); exact BK240.out) hb); have n7_ := Aside0.mk (blk_below (g := gb255) (o := .cells #[.int .i64 t248, .slice Ao22 t249.length co22, .slice Ao23 t252.length co23] 46 (0, 0)) (by (with_reducible repeat (first | refine blk_drewN ?_ _ | refine blk_drew ?_ | refine blk_alloc ?_ _)); exact BK255.out) hb); have n8_ := Aside0.mk (blk_below (g := gb262) (o := .cells #[.slice Ao27 t256.length co27, .slice Ao31 t259.length co31] 27 (0, 0)) (by (with_reducible repeat (first | refine blk_drewN ?_ _ | refine blk_drew ?_ | refine blk_alloc ?_ _)); exact BK262.out) hb); have n9_ := Aside0.mk (blk_below (g := gb270) (o := .cells #[.int .i64 t263, .slice Ao38 t264.length co38, .slice Ao39 t267.length co39] 46 (0, 0)) (by (with_reducible repeat (first | refine blk_drewN ?_ _ | refine blk_drew ?_ | refine blk_alloc ?_ _)); exact BK270.out) hb); have n10_ := Aside0.mk (below_step (by repeat (first | (with_reducible first | exact HB.out | apply below_alloc | apply pw_below_drewN | apply below_drew1 | refine below_set ?_ GE240.out | refine below_set ?_ GE255.out | refine below_set ?_ GE262.out | refine below_set ?_ GE270.out) | exact HB.out)) hb); clear HO_256001; clear HO_256002; clear HO_263000; clear HO_263001; clear HO_271001; clear HO_271002; clear BK240; clear BK255; clear BK262; clear BK270; clear HB; have HO_256001 := n0_; have HO_256002 := n1_; have HO_263000 := n2_; have HO_263001 := n3_; have HO_271001 := n4_; have HO_271002 := n5_; have BK240 := n6_; have BK255 := n7_; have BK262 := n8_; have BK270 := n9_; have HB := n10_; clear n0_ n1_ n2_ n3_ n4_ n5_ n6_ n7_ n8_ n9_ n10_; (try clear hb); (try clear hb2); (try clear hk); (try clear hi)))
                  go_meet
                  case rel => exact ⟨_, (!t282), (by first | rfl | (simp; done) | (simp [*]; done)), H', ⟨by have := HJ2.out; have := HJ12.out; have := HJ44.out; first | omega | exact Nat.le_refl _⟩, ⟨by (with_reducible repeat (first | apply Kd.R_alloc | apply Kd.R_drewN | apply Kd.R_drew)); exact HO_256001.out⟩, ⟨by (with_reducible repeat (first | apply Kd.R_alloc | apply Kd.R_drewN | apply Kd.R_drew)); exact HO_256002.out⟩, ⟨by (with_reducible repeat (first | apply Kd.R_alloc | apply Kd.R_drewN | apply Kd.R_drew)); exact HO_263000.out⟩, ⟨by (with_reducible repeat (first | apply Kd.R_alloc | apply Kd.R_drewN | apply Kd.R_drew)); exact HO_263001.out⟩, ⟨by (with_reducible repeat (first | apply Kd.R_alloc | apply Kd.R_drewN | apply Kd.R_drew)); exact HO_271001.out⟩, ⟨by (with_reducible repeat (first | apply Kd.R_alloc | apply Kd.R_drewN | apply Kd.R_drew)); exact HO_271002.out⟩, ⟨by (with_reducible repeat (first | refine blk_drewN ?_ _ | refine blk_drew ?_ | refine blk_alloc ?_ _)); exact BK240.out⟩, ⟨by (with_reducible repeat (first | refine blk_drewN ?_ _ | refine blk_drew ?_ | refine blk_alloc ?_ _)); exact BK255.out⟩, ⟨by (with_reducible repeat (first | refine blk_drewN ?_ _ | refine blk_drew ?_ | refine blk_alloc ?_ _)); exact BK262.out⟩, ⟨by (with_reducible repeat (first | refine blk_drewN ?_ _ | refine blk_drew ?_ | refine blk_alloc ?_ _)); exact BK270.out⟩, ⟨by repeat (first | (with_reducible first | exact HB.out | apply below_alloc | apply pw_below_drewN | apply below_drew1 | refine below_set ?_ GE240.out | refine below_set ?_ GE255.out | refine below_set ?_ GE262.out | refine below_set ?_ GE270.out) | exact HB.out)⟩⟩
              case rest =>
                clear HC53
                try clear c1
                try clear c2
                try clear p2
                try clear c3
                try clear c4
                try clear c5
                try clear c6
                try clear c7
                try clear c7b0
                try clear c9
                try clear c14
                try clear c16
                try clear c18
                try clear c20
                try clear c28
                try clear c29
                try clear c33
                try clear c34
                try clear c35
                try clear c36
                try clear c42
                try clear c43
                try clear c44
                try clear c51
                try clear c54
                try clear c55
                try clear c56
                try clear c59
                try clear c59b0
                try clear c61
                try clear c62
                try clear c63
                try clear c65
                try clear c66
                try clear hcz14_0
                try clear hcz14_1
                try clear hcz21_0
                try clear hcz21_1
                try clear hcz21_2
                try clear hcz24_0
                try clear hcz24_1
                try clear hcz30_0
                try clear hcz30_1
                try clear hcz37_0
                try clear hcz37_1
                try clear hcz37_2
                try clear hcz40_0
                try clear hcz40_1
                try clear hcz40_2
                try clear hcz57_0
                try clear hcz57_1
                try clear hcz5_0
                try clear hcz5_1
                try clear hcz64_0
                try clear hcz64_1
                try clear hcz64_2
                try clear hcz67_0
                try clear hcz67_1
                try clear hcz67_2
                try clear hfz14_0
                try clear hfz14_1
                try clear hfz21_0
                try clear hfz21_1
                try clear hfz21_2
                try clear hfz24_0
                try clear hfz24_1
                try clear hfz30_0
                try clear hfz30_1
                try clear hfz37_0
                try clear hfz37_1
                try clear hfz37_2
                try clear hfz40_0
                try clear hfz40_1
                try clear hfz40_2
                try clear hfz57_0
                try clear hfz57_1
                try clear hfz5_0
                try clear hfz5_1
                try clear hfz64_0
                try clear hfz64_1
                try clear hfz64_2
                try clear hfz67_0
                try clear hfz67_1
                try clear hfz67_2
                try clear p2
                obtain ⟨kq, x42_52, rfl, HA, HJ52, HO_256001, HO_256002, HO_263000, HO_263001, HO_271001, HO_271002, BK240, BK255, BK262, BK270, HB⟩ := hcut
                have hl263000_52 := (Kd.R_reads' HO_263000.out).1
                rw [hl263000_52] at HO_263000
                (try simp only [hl263000_52])
                (try simp only [hl263000_52] at BK240)
                (try simp only [hl263000_52] at BK255)
                (try simp only [hl263000_52] at BK262)
                (try simp only [hl263000_52] at BK270)
                (try simp only [hl263000_52] at HO_256001)
                (try simp only [hl263000_52] at HO_256002)
                (try simp only [hl263000_52] at HO_263001)
                (try simp only [hl263000_52] at HO_271001)
                (try simp only [hl263000_52] at HO_271002)
                have hl263001_52 := (Kd.R_reads' HO_263001.out).1
                rw [hl263001_52] at HO_263001
                (try simp only [hl263001_52])
                (try simp only [hl263001_52] at BK240)
                (try simp only [hl263001_52] at BK255)
                (try simp only [hl263001_52] at BK262)
                (try simp only [hl263001_52] at BK270)
                (try simp only [hl263001_52] at HO_256001)
                (try simp only [hl263001_52] at HO_256002)
                (try simp only [hl263001_52] at HO_263000)
                (try simp only [hl263001_52] at HO_271001)
                (try simp only [hl263001_52] at HO_271002)
                cases kq with
                | zero => exact absurd HA.out (by simp [laws_FnExactTrimLog.j3])
                | succ kj52 =>
                  have H := HA.out
                  clear HA
                  simp only [laws_FnExactTrimLog.j3] at H
                  have HC69 := Aside0.mk H
                  clear H
                  go_upto_if 42 with (fail)
                  go_cut [] (fun wc => ∃ (kq : Nat), Aside0 (laws_FnExactTrimLog.j4 kq l0_0 l0_1 t248 t249 t252 t263 t264 t267 = some r) ∧ Aside0 (kq ≤ kj52) ∧ Aside0 (Kd.R (Kd.int .u8) 5 wc w.heap.size (fun k_ => some k_ ≠ ((.slice Ao23 t252.length co23) : Value).ownBlock ∧ some k_ ≠ ((.slice Ao27 t280.length co27) : Value).ownBlock ∧ some k_ ≠ ((.slice Ao31 t281.length co31) : Value).ownBlock ∧ some k_ ≠ ((.slice Ao38 t264.length co38) : Value).ownBlock ∧ some k_ ≠ ((.slice Ao39 t267.length co39) : Value).ownBlock) (.slice Ao22 t249.length co22) t249) ∧ Aside0 (Kd.R (Kd.int .u8) 5 wc w.heap.size (fun k_ => some k_ ≠ ((.slice Ao22 t249.length co22) : Value).ownBlock ∧ some k_ ≠ ((.slice Ao27 t280.length co27) : Value).ownBlock ∧ some k_ ≠ ((.slice Ao31 t281.length co31) : Value).ownBlock ∧ some k_ ≠ ((.slice Ao38 t264.length co38) : Value).ownBlock ∧ some k_ ≠ ((.slice Ao39 t267.length co39) : Value).ownBlock) (.slice Ao23 t252.length co23) t252) ∧ Aside0 (Kd.R (Kd.int .u8) 5 wc w.heap.size (fun k_ => some k_ ≠ ((.slice Ao22 t249.length co22) : Value).ownBlock ∧ some k_ ≠ ((.slice Ao23 t252.length co23) : Value).ownBlock ∧ some k_ ≠ ((.slice Ao31 t281.length co31) : Value).ownBlock ∧ some k_ ≠ ((.slice Ao38 t264.length co38) : Value).ownBlock ∧ some k_ ≠ ((.slice Ao39 t267.length co39) : Value).ownBlock) (.slice Ao27 t280.length co27) t280) ∧ Aside0 (Kd.R (Kd.int .u8) 5 wc w.heap.size (fun k_ => some k_ ≠ ((.slice Ao22 t249.length co22) : Value).ownBlock ∧ some k_ ≠ ((.slice Ao23 t252.length co23) : Value).ownBlock ∧ some k_ ≠ ((.slice Ao27 t280.length co27) : Value).ownBlock ∧ some k_ ≠ ((.slice Ao38 t264.length co38) : Value).ownBlock ∧ some k_ ≠ ((.slice Ao39 t267.length co39) : Value).ownBlock) (.slice Ao31 t281.length co31) t281) ∧ Aside0 (Kd.R (Kd.int .u8) 5 wc w.heap.size (fun k_ => some k_ ≠ ((.slice Ao22 t249.length co22) : Value).ownBlock ∧ some k_ ≠ ((.slice Ao23 t252.length co23) : Value).ownBlock ∧ some k_ ≠ ((.slice Ao27 t280.length co27) : Value).ownBlock ∧ some k_ ≠ ((.slice Ao31 t281.length co31) : Value).ownBlock ∧ some k_ ≠ ((.slice Ao39 t267.length co39) : Value).ownBlock) (.slice Ao38 t264.length co38) t264) ∧ Aside0 (Kd.R (Kd.int .u8) 5 wc w.heap.size (fun k_ => some k_ ≠ ((.slice Ao22 t249.length co22) : Value).ownBlock ∧ some k_ ≠ ((.slice Ao23 t252.length co23) : Value).ownBlock ∧ some k_ ≠ ((.slice Ao27 t280.length co27) : Value).ownBlock ∧ some k_ ≠ ((.slice Ao31 t281.length co31) : Value).ownBlock ∧ some k_ ≠ ((.slice Ao38 t264.length co38) : Value).ownBlock) (.slice Ao39 t267.length co39) t267) ∧ Aside0 (wc.heap[gb240]? = some (.cells #[(.slice A0_0 l0_0.length c0_0), (.slice A0_1 l0_1.length c0_1)] 24 (0, 0))) ∧ Aside0 (wc.heap[gb255]? = some (.cells #[.int .i64 t248, (.slice Ao22 t249.length co22), (.slice Ao23 t252.length co23)] 46 (0, 0))) ∧ Aside0 (wc.heap[gb262]? = some (.cells #[(.slice Ao27 t280.length co27), (.slice Ao31 t281.length co31)] 27 (0, 0))) ∧ Aside0 (wc.heap[gb270]? = some (.cells #[.int .i64 t263, (.slice Ao38 t264.length co38), (.slice Ao39 t267.length co39)] 46 (0, 0))) ∧ Aside0 (Below w.heap.size w wc))
                  case first =>
                    have H := HC69.out
                    clear HC69
                    by_cases c70 : x42_52 = true
                    · subst c70
                      have H1 : (some false) = some r := by rw [if_pos rfl] at H; exact H
                      clear H
                      have H := H1
                      clear H1
                      obtain rfl := Option.some.inj H
                      go_wp2
                      go_ret
                      exact ⟨by first | rfl | (simp [errW_none, errW_some] <;> rfl) | (simp [*, errW_none, errW_some] <;> rfl), by repeat (first | (with_reducible first | exact HB.out | apply below_alloc | apply pw_below_drewN | apply below_drew1 | refine below_set ?_ GE240.out | refine below_set ?_ GE255.out | refine below_set ?_ GE262.out | refine below_set ?_ GE270.out) | exact HB.out)⟩
                    · replace c70 := Bool.eq_false_iff.mpr c70
                      subst c70
                      have H1 : (laws_FnExactTrimLog.j4 kj52 l0_0 l0_1 t248 t249 t252 t263 t264 t267) = some r := by rw [if_neg (show ¬ (false = true) by decide)] at H; exact H
                      clear H
                      have H := H1
                      clear H1
                      have H' := Aside0.mk H
                      clear H
                      go_wp2
                      go_meet
                      case rel => exact ⟨_, H', ⟨by have := HJ2.out; have := HJ12.out; have := HJ44.out; have := HJ52.out; first | omega | exact Nat.le_refl _⟩, ⟨by (try simp only [hl263000_52]); (try simp only [hl263001_52]); (with_reducible repeat (first | apply Kd.R_alloc | apply Kd.R_drewN | apply Kd.R_drew)); exact HO_256001.out⟩, ⟨by (try simp only [hl263000_52]); (try simp only [hl263001_52]); (with_reducible repeat (first | apply Kd.R_alloc | apply Kd.R_drewN | apply Kd.R_drew)); exact HO_256002.out⟩, ⟨by (try simp only [hl263000_52]); (try simp only [hl263001_52]); (with_reducible repeat (first | apply Kd.R_alloc | apply Kd.R_drewN | apply Kd.R_drew)); exact HO_263000.out⟩, ⟨by (try simp only [hl263000_52]); (try simp only [hl263001_52]); (with_reducible repeat (first | apply Kd.R_alloc | apply Kd.R_drewN | apply Kd.R_drew)); exact HO_263001.out⟩, ⟨by (try simp only [hl263000_52]); (try simp only [hl263001_52]); (with_reducible repeat (first | apply Kd.R_alloc | apply Kd.R_drewN | apply Kd.R_drew)); exact HO_271001.out⟩, ⟨by (try simp only [hl263000_52]); (try simp only [hl263001_52]); (with_reducible repeat (first | apply Kd.R_alloc | apply Kd.R_drewN | apply Kd.R_drew)); exact HO_271002.out⟩, ⟨by (try simp only [hl263000_52]); (try simp only [hl263001_52]); (with_reducible repeat (first | refine blk_drewN ?_ _ | refine blk_drew ?_ | refine blk_alloc ?_ _)); exact BK240.out⟩, ⟨by (try simp only [hl263000_52]); (try simp only [hl263001_52]); (with_reducible repeat (first | refine blk_drewN ?_ _ | refine blk_drew ?_ | refine blk_alloc ?_ _)); exact BK255.out⟩, ⟨by (try simp only [hl263000_52]); (try simp only [hl263001_52]); (with_reducible repeat (first | refine blk_drewN ?_ _ | refine blk_drew ?_ | refine blk_alloc ?_ _)); exact BK262.out⟩, ⟨by (try simp only [hl263000_52]); (try simp only [hl263001_52]); (with_reducible repeat (first | refine blk_drewN ?_ _ | refine blk_drew ?_ | refine blk_alloc ?_ _)); exact BK270.out⟩, ⟨by repeat (first | (with_reducible first | exact HB.out | apply below_alloc | apply pw_below_drewN | apply below_drew1 | refine below_set ?_ GE240.out | refine below_set ?_ GE255.out | refine below_set ?_ GE262.out | refine below_set ?_ GE270.out) | exact HB.out)⟩⟩
                  case rest =>
                    clear HC69
                    try clear c1
                    try clear c2
                    try clear p2
                    try clear c3
                    try clear c4
                    try clear c5
                    try clear c6
                    try clear c7
                    try clear c7b0
                    try clear c9
                    try clear c14
                    try clear c16
                    try clear c18
                    try clear c20
                    try clear c28
                    try clear c29
                    try clear c33
                    try clear c34
                    try clear c35
                    try clear c36
                    try clear c42
                    try clear c43
                    try clear c44
                    try clear c51
                    try clear c54
                    try clear c55
                    try clear c56
                    try clear c59
                    try clear c59b0
                    try clear c61
                    try clear c62
                    try clear c63
                    try clear c65
                    try clear c66
                    try clear c70
                    try clear hcz14_0
                    try clear hcz14_1
                    try clear hcz21_0
                    try clear hcz21_1
                    try clear hcz21_2
                    try clear hcz24_0
                    try clear hcz24_1
                    try clear hcz30_0
                    try clear hcz30_1
                    try clear hcz37_0
                    try clear hcz37_1
                    try clear hcz37_2
                    try clear hcz40_0
                    try clear hcz40_1
                    try clear hcz40_2
                    try clear hcz57_0
                    try clear hcz57_1
                    try clear hcz5_0
                    try clear hcz5_1
                    try clear hcz64_0
                    try clear hcz64_1
                    try clear hcz64_2
                    try clear hcz67_0
                    try clear hcz67_1
                    try clear hcz67_2
                    try clear hfz14_0
                    try clear hfz14_1
                    try clear hfz21_0
                    try clear hfz21_1
                    try clear hfz21_2
                    try clear hfz24_0
                    try clear hfz24_1
                    try clear hfz30_0
                    try clear hfz30_1
                    try clear hfz37_0
                    try clear hfz37_1
                    try clear hfz37_2
                    try clear hfz40_0
                    try clear hfz40_1
                    try clear hfz40_2
                    try clear hfz57_0
                    try clear hfz57_1
                    try clear hfz5_0
                    try clear hfz5_1
                    try clear hfz64_0
                    try clear hfz64_1
                    try clear hfz64_2
                    try clear hfz67_0
                    try clear hfz67_1
                    try clear hfz67_2
                    try clear p2
                    obtain ⟨kq, HA, HJ68, HO_256001, HO_256002, HO_263000, HO_263001, HO_271001, HO_271002, BK240, BK255, BK262, BK270, HB⟩ := hcut
                    cases kq with
                    | zero => exact absurd HA.out (by simp [laws_FnExactTrimLog.j4])
                    | succ kj68 =>
                      have H := HA.out
                      clear HA
                      simp only [laws_FnExactTrimLog.j4] at H
                      replace H := Option.bind_eq_some_iff.mp H
                      obtain ⟨⟨t283, t284, t285⟩, A710, H⟩ := H
                      replace H : ((laws_heldLogResult.f kj68 t263 t284 t285 1).bind fun t286 => (if t286 < 0 then (some false) else (laws_FnExactTrimLog.j5 kj68 t283 t286 l0_0 l0_1 t248 t249 t252 t263 t284 t285))) = some r := H
                      have A71 := Aside0.mk A710
                      clear A710
                      replace H := Option.bind_eq_some_iff.mp H
                      obtain ⟨t286, A720, H⟩ := H
                      replace H : (if t286 < 0 then (some false) else (laws_FnExactTrimLog.j5 kj68 t283 t286 l0_0 l0_1 t248 t249 t252 t263 t284 t285)) = some r := H
                      have A72 := Aside0.mk A720
                      clear A720
                      have HC73 := Aside0.mk H
                      clear H
                      have hnb74 := NB270_240.out
                      have hnc74 := NB240_270.out
                      have hnb75 := NB270_255.out
                      have hnc75 := NB255_270.out
                      have hnb76 := NB270_262.out
                      have hnc76 := NB262_270.out
                      have hcz77_0 : wc.cell? ⟨gb270, 0, none⟩ = some (.int .i64 t263) := (blk_cell BK270.out 0).trans rfl
                      have hcz77_1 : wc.cell? ⟨gb270, 1, none⟩ = some (.slice Ao38 t264.length co38) := (blk_cell BK270.out 1).trans rfl
                      have hcz77_2 : wc.cell? ⟨gb270, 2, none⟩ = some (.slice Ao39 t267.length co39) := (blk_cell BK270.out 2).trans rfl
                      have hfz77_0 := blk_frozen BK270.out 0
                      have hfz77_1 := blk_frozen BK270.out 1
                      have hfz77_2 := blk_frozen BK270.out 2
                      go_upto_if 50 with (first | ((with_reducible refine gate_callee (f := 35) rfl ?_); refine goesL_ (some 45) rfl rfl Try.func35 (by kernel_rfl) rfl #[.agg #[.int .i64 t263, .slice Ao38 t264.length co38, .slice Ao39 t267.length co39], .int .i64 1] rfl (by (try simp only [List.map_toArray, List.map_cons, List.map_nil]); first | done | rfl | (simp only [List.length_drop, List.length_take]; rfl)) ?_; (with_reducible refine (laws_markLogResult.calls kj68 t263 (fun k_ => some k_ = (.slice Ao38 t264.length co38 : Value).ownBlock) (.slice Ao38 t264.length co38) t264 (fun k_ => some k_ = (.slice Ao39 t267.length co39 : Value).ownBlock) (.slice Ao39 t267.length co39) t267 1 t283 t284 t285 w _ ?side1 ?side2 ?side3 ?side4 ?side5 A71.out).mono ?_); (case side1 => repeat (first | (with_reducible first | exact HB.out | apply below_alloc | apply pw_below_drewN | apply below_drew1 | refine below_set ?_ GE240.out | refine below_set ?_ GE255.out | refine below_set ?_ GE262.out | refine below_set ?_ GE270.out) | exact HB.out)); (case side2 => exact Kd.R_tight rfl HO_271001.out); (case side3 => exact fun k_ e_ => (HO_271001.out.1 k_ e_.symm).2.2.2.2); (case side4 => exact Kd.R_tight rfl HO_271002.out); (case side5 => exact fun k_ e_ => (HO_271002.out.1 k_ e_.symm).2.2.2.2); rintro e w78 ⟨rfl, hy0, hy1, hb, hkp⟩; refine ⟨_, rfl, ?_⟩; have n0_ := Aside0.mk (Kd.R_mono (ok' := fun k_ => some k_ ≠ (.slice Ao23 t252.length co23 : Value).ownBlock ∧ some k_ ≠ (.slice Ao27 t280.length co27 : Value).ownBlock ∧ some k_ ≠ (.slice Ao31 t281.length co31 : Value).ownBlock ∧ some k_ ≠ (.slice Ao38 t264.length co38 : Value).ownBlock ∧ some k_ ≠ (.slice Ao39 t267.length co39 : Value).ownBlock) (Kd.R_keptB (HO_256001.out) hkp (fun k_ hk_ hs_ => Or.elim hs_ (fun e_ => (hk_.2.2.2.1) e_) (fun e_ => (hk_.2.2.2.2) e_))) (fun k_ hk_ => ⟨hk_.1.1, hk_.1.2.1, hk_.1.2.2.1, hk_.1.2.2.2.1, hk_.1.2.2.2.2⟩)); have n1_ := Aside0.mk (Kd.R_mono (ok' := fun k_ => some k_ ≠ (.slice Ao22 t249.length co22 : Value).ownBlock ∧ some k_ ≠ (.slice Ao27 t280.length co27 : Value).ownBlock ∧ some k_ ≠ (.slice Ao31 t281.length co31 : Value).ownBlock ∧ some k_ ≠ (.slice Ao38 t264.length co38 : Value).ownBlock ∧ some k_ ≠ (.slice Ao39 t267.length co39 : Value).ownBlock) (Kd.R_keptB (HO_256002.out) hkp (fun k_ hk_ hs_ => Or.elim hs_ (fun e_ => (hk_.2.2.2.1) e_) (fun e_ => (hk_.2.2.2.2) e_))) (fun k_ hk_ => ⟨hk_.1.1, hk_.1.2.1, hk_.1.2.2.1, hk_.1.2.2.2.1, hk_.1.2.2.2.2⟩)); have n2_ := Aside0.mk (Kd.R_mono (ok' := fun k_ => some k_ ≠ (.slice Ao22 t249.length co22 : Value).ownBlock ∧ some k_ ≠ (.slice Ao23 t252.length co23 : Value).ownBlock ∧ some k_ ≠ (.slice Ao31 t281.length co31 : Value).ownBlock ∧ some k_ ≠ (.slice Ao38 t264.length co38 : Value).ownBlock ∧ some k_ ≠ (.slice Ao39 t267.length co39 : Value).ownBlock) (Kd.R_keptB (HO_263000.out) hkp (fun k_ hk_ hs_ => Or.elim hs_ (fun e_ => (hk_.2.2.2.1) e_) (fun e_ => (hk_.2.2.2.2) e_))) (fun k_ hk_ => ⟨hk_.1.1, hk_.1.2.1, hk_.1.2.2.1, hk_.1.2.2.2.1, hk_.1.2.2.2.2⟩)); have n3_ := Aside0.mk (Kd.R_mono (ok' := fun k_ => some k_ ≠ (.slice Ao22 t249.length co22 : Value).ownBlock ∧ some k_ ≠ (.slice Ao23 t252.length co23 : Value).ownBlock ∧ some k_ ≠ (.slice Ao27 t280.length co27 : Value).ownBlock ∧ some k_ ≠ (.slice Ao38 t264.length co38 : Value).ownBlock ∧ some k_ ≠ (.slice Ao39 t267.length co39 : Value).ownBlock) (Kd.R_keptB (HO_263001.out) hkp (fun k_ hk_ hs_ => Or.elim hs_ (fun e_ => (hk_.2.2.2.1) e_) (fun e_ => (hk_.2.2.2.2) e_))) (fun k_ hk_ => ⟨hk_.1.1, hk_.1.2.1, hk_.1.2.2.1, hk_.1.2.2.2.1, hk_.1.2.2.2.2⟩)); have n4_ := Aside0.mk (Kd.R_reok rfl hy0 (fun k_ e_ => HO_271001.out.1 k_ e_)); have n5_ := Aside0.mk (Kd.R_reok rfl hy1 (fun k_ e_ => HO_271002.out.1 k_ e_)); have n6_ := Aside0.mk (blk_kept (by (with_reducible repeat (first | refine blk_drewN ?_ _ | refine blk_drew ?_ | refine blk_alloc ?_ _)); exact BK240.out) hkp (fun hs_ => Or.elim hs_ (fun e_ => (fun e_ => (Kd.R_ne HO_271001.out BK240.out (by decide)) e_) e_) (fun e_ => (fun e_ => (Kd.R_ne HO_271002.out BK240.out (by decide)) e_) e_))); have n7_ := Aside0.mk (blk_kept (by (with_reducible repeat (first | refine blk_drewN ?_ _ | refine blk_drew ?_ | refine blk_alloc ?_ _)); exact BK255.out) hkp (fun hs_ => Or.elim hs_ (fun e_ => (fun e_ => (Kd.R_ne HO_271001.out BK255.out (by decide)) e_) e_) (fun e_ => (fun e_ => (Kd.R_ne HO_271002.out BK255.out (by decide)) e_) e_))); have n8_ := Aside0.mk (blk_kept (by (with_reducible repeat (first | refine blk_drewN ?_ _ | refine blk_drew ?_ | refine blk_alloc ?_ _)); exact BK262.out) hkp (fun hs_ => Or.elim hs_ (fun e_ => (fun e_ => (Kd.R_ne HO_271001.out BK262.out (by decide)) e_) e_) (fun e_ => (fun e_ => (Kd.R_ne HO_271002.out BK262.out (by decide)) e_) e_))); have n9_ := Aside0.mk (blk_kept (by (with_reducible repeat (first | refine blk_drewN ?_ _ | refine blk_drew ?_ | refine blk_alloc ?_ _)); exact BK270.out) hkp (fun hs_ => Or.elim hs_ (fun e_ => (fun e_ => (Kd.R_ne HO_271001.out BK270.out (by decide)) e_) e_) (fun e_ => (fun e_ => (Kd.R_ne HO_271002.out BK270.out (by decide)) e_) e_))); have n10_ := Aside0.mk (hb); clear HO_256001; clear HO_256002; clear HO_263000; clear HO_263001; clear HO_271001; clear HO_271002; clear BK240; clear BK255; clear BK262; clear BK270; clear HB; have HO_256001 := n0_; have HO_256002 := n1_; have HO_263000 := n2_; have HO_263001 := n3_; have HO_271001 := n4_; have HO_271002 := n5_; have BK240 := n6_; have BK255 := n7_; have BK262 := n8_; have BK270 := n9_; have HB := n10_; clear n0_ n1_ n2_ n3_ n4_ n5_ n6_ n7_ n8_ n9_ n10_; (try clear hb); (try clear hkp); (try clear hy0); (try clear hy1); have hcz79_0 : w78.cell? ⟨gb270, 0, none⟩ = some (.int .i64 t263) := (blk_cell BK270.out 0).trans rfl; have hcz79_1 : w78.cell? ⟨gb270, 1, none⟩ = some (.slice Ao38 t264.length co38) := (blk_cell BK270.out 1).trans rfl; have hcz79_2 : w78.cell? ⟨gb270, 2, none⟩ = some (.slice Ao39 t267.length co39) := (blk_cell BK270.out 2).trans rfl; have hfz79_0 := blk_frozen BK270.out 0; have hfz79_1 := blk_frozen BK270.out 1; have hfz79_2 := blk_frozen BK270.out 2) | ((with_reducible refine gate_callee (f := 36) rfl ?_); refine goesL_ (some 48) rfl rfl Try.func36 (by kernel_rfl) rfl #[.agg #[.int .i64 t263, .slice Ao38 t284.length co38, .slice Ao39 t285.length co39], .int .i64 1] rfl (by (try simp only [List.map_toArray, List.map_cons, List.map_nil]); first | done | (rw [show t284.length = t264.length from (Kd.R_reads' HO_271001.out).1.symm, show t285.length = t267.length from (Kd.R_reads' HO_271002.out).1.symm] <;> rfl) | rfl | (simp only [List.length_drop, List.length_take]; rfl)) ?_; (with_reducible refine (laws_heldLogResult.calls kj68 t263 _ _ t284 _ _ t285 1 t286 _ ?side1 ?side2 ?side3 ?side4 A72.out).mono ?_); (case side1 => repeat (first | exact (Kd.R_reads' HO_271001.out).2.2 | (with_reducible refine Kd.C_alloc ?_ _) | (with_reducible refine Kd.C_drewN ?_ _) | (with_reducible refine Kd.C_drew ?_))); (case side2 => rw [show t284.length = t264.length from (Kd.R_reads' HO_271001.out).1.symm]; exact (Kd.R_reads' HO_271001.out).2.1); (case side3 => repeat (first | exact (Kd.R_reads' HO_271002.out).2.2 | (with_reducible refine Kd.C_alloc ?_ _) | (with_reducible refine Kd.C_drewN ?_ _) | (with_reducible refine Kd.C_drew ?_))); (case side4 => rw [show t285.length = t267.length from (Kd.R_reads' HO_271002.out).1.symm]; exact (Kd.R_reads' HO_271002.out).2.1); rintro e w80 ⟨rfl, hb⟩; refine ⟨_, rfl, ?_⟩; have n0_ := Aside0.mk (Kd.R_below (by (with_reducible repeat (first | apply Kd.R_alloc | apply Kd.R_drewN | apply Kd.R_drew)); exact HO_256001.out) hb); have n1_ := Aside0.mk (Kd.R_below (by (with_reducible repeat (first | apply Kd.R_alloc | apply Kd.R_drewN | apply Kd.R_drew)); exact HO_256002.out) hb); have n2_ := Aside0.mk (Kd.R_below (by (with_reducible repeat (first | apply Kd.R_alloc | apply Kd.R_drewN | apply Kd.R_drew)); exact HO_263000.out) hb); have n3_ := Aside0.mk (Kd.R_below (by (with_reducible repeat (first | apply Kd.R_alloc | apply Kd.R_drewN | apply Kd.R_drew)); exact HO_263001.out) hb); have n4_ := Aside0.mk (Kd.R_below (by (with_reducible repeat (first | apply Kd.R_alloc | apply Kd.R_drewN | apply Kd.R_drew)); exact HO_271001.out) hb); have n5_ := Aside0.mk (Kd.R_below (by (with_reducible repeat (first | apply Kd.R_alloc | apply Kd.R_drewN | apply Kd.R_drew)); exact HO_271002.out) hb); have n6_ := Aside0.mk (blk_below (g := gb240) (o := .cells #[.slice A0_0 l0_0.length c0_0, .slice A0_1 l0_1.length c0_1] 24 (0, 0)) (by (with_reducible repeat (first | refine blk_drewN ?_ _ | refine blk_drew ?_ | refine blk_alloc ?_ _)); exact BK240.out) hb); have n7_ := Aside0.mk (blk_below (g := gb255) (o := .cells #[.int .i64 t248, .slice Ao22 t249.length co22, .slice Ao23 t252.length co23] 46 (0, 0)) (by (with_reducible repeat (first | refine blk_drewN ?_ _ | refine blk_drew ?_ | refine blk_alloc ?_ _)); exact BK255.out) hb); have n8_ := Aside0.mk (blk_below (g := gb262) (o := .cells #[.slice Ao27 t280.length co27, .slice Ao31 t281.length co31] 27 (0, 0)) (by (with_reducible repeat (first | refine blk_drewN ?_ _ | refine blk_drew ?_ | refine blk_alloc ?_ _)); exact BK262.out) hb); have n9_ := Aside0.mk (blk_below (g := gb270) (o := .cells #[.int .i64 t263, .slice Ao38 t264.length co38, .slice Ao39 t267.length co39] 46 (0, 0)) (by (with_reducible repeat (first | refine blk_drewN ?_ _ | refine blk_drew ?_ | refine blk_alloc ?_ _)); exact BK270.out) hb); have n10_ := Aside0.mk (below_step (by repeat (first | (with_reducible first | exact HB.out | apply below_alloc | apply pw_below_drewN | apply below_drew1 | refine below_set ?_ GE240.out | refine below_set ?_ GE255.out | refine below_set ?_ GE262.out | refine below_set ?_ GE270.out) | exact HB.out)) hb); clear HO_256001; clear HO_256002; clear HO_263000; clear HO_263001; clear HO_271001; clear HO_271002; clear BK240; clear BK255; clear BK262; clear BK270; clear HB; have HO_256001 := n0_; have HO_256002 := n1_; have HO_263000 := n2_; have HO_263001 := n3_; have HO_271001 := n4_; have HO_271002 := n5_; have BK240 := n6_; have BK255 := n7_; have BK262 := n8_; have BK270 := n9_; have HB := n10_; clear n0_ n1_ n2_ n3_ n4_ n5_ n6_ n7_ n8_ n9_ n10_; (try clear hb); (try clear hb2); (try clear hk); (try clear hi)))
                      (try simp only [Act.put, List.setIfInBounds_toArray, List.set_cons_zero, List.set_cons_succ])
                      go_cut [] (fun wc => ∃ (kq : Nat), Aside0 (laws_FnExactTrimLog.j5 kq t283 t286 l0_0 l0_1 t248 t249 t252 t263 t284 t285 = some r) ∧ Aside0 (kq ≤ kj68) ∧ Aside0 (Kd.R (Kd.int .u8) 5 wc w.heap.size (fun k_ => some k_ ≠ ((.slice Ao23 t252.length co23) : Value).ownBlock ∧ some k_ ≠ ((.slice Ao27 t280.length co27) : Value).ownBlock ∧ some k_ ≠ ((.slice Ao31 t281.length co31) : Value).ownBlock ∧ some k_ ≠ ((.slice Ao38 t264.length co38) : Value).ownBlock ∧ some k_ ≠ ((.slice Ao39 t267.length co39) : Value).ownBlock) (.slice Ao22 t249.length co22) t249) ∧ Aside0 (Kd.R (Kd.int .u8) 5 wc w.heap.size (fun k_ => some k_ ≠ ((.slice Ao22 t249.length co22) : Value).ownBlock ∧ some k_ ≠ ((.slice Ao27 t280.length co27) : Value).ownBlock ∧ some k_ ≠ ((.slice Ao31 t281.length co31) : Value).ownBlock ∧ some k_ ≠ ((.slice Ao38 t264.length co38) : Value).ownBlock ∧ some k_ ≠ ((.slice Ao39 t267.length co39) : Value).ownBlock) (.slice Ao23 t252.length co23) t252) ∧ Aside0 (Kd.R (Kd.int .u8) 5 wc w.heap.size (fun k_ => some k_ ≠ ((.slice Ao22 t249.length co22) : Value).ownBlock ∧ some k_ ≠ ((.slice Ao23 t252.length co23) : Value).ownBlock ∧ some k_ ≠ ((.slice Ao31 t281.length co31) : Value).ownBlock ∧ some k_ ≠ ((.slice Ao38 t264.length co38) : Value).ownBlock ∧ some k_ ≠ ((.slice Ao39 t267.length co39) : Value).ownBlock) (.slice Ao27 t280.length co27) t280) ∧ Aside0 (Kd.R (Kd.int .u8) 5 wc w.heap.size (fun k_ => some k_ ≠ ((.slice Ao22 t249.length co22) : Value).ownBlock ∧ some k_ ≠ ((.slice Ao23 t252.length co23) : Value).ownBlock ∧ some k_ ≠ ((.slice Ao27 t280.length co27) : Value).ownBlock ∧ some k_ ≠ ((.slice Ao38 t264.length co38) : Value).ownBlock ∧ some k_ ≠ ((.slice Ao39 t267.length co39) : Value).ownBlock) (.slice Ao31 t281.length co31) t281) ∧ Aside0 (Kd.R (Kd.int .u8) 5 wc w.heap.size (fun k_ => some k_ ≠ ((.slice Ao22 t249.length co22) : Value).ownBlock ∧ some k_ ≠ ((.slice Ao23 t252.length co23) : Value).ownBlock ∧ some k_ ≠ ((.slice Ao27 t280.length co27) : Value).ownBlock ∧ some k_ ≠ ((.slice Ao31 t281.length co31) : Value).ownBlock ∧ some k_ ≠ ((.slice Ao39 t267.length co39) : Value).ownBlock) (.slice Ao38 t264.length co38) t284) ∧ Aside0 (Kd.R (Kd.int .u8) 5 wc w.heap.size (fun k_ => some k_ ≠ ((.slice Ao22 t249.length co22) : Value).ownBlock ∧ some k_ ≠ ((.slice Ao23 t252.length co23) : Value).ownBlock ∧ some k_ ≠ ((.slice Ao27 t280.length co27) : Value).ownBlock ∧ some k_ ≠ ((.slice Ao31 t281.length co31) : Value).ownBlock ∧ some k_ ≠ ((.slice Ao38 t264.length co38) : Value).ownBlock) (.slice Ao39 t267.length co39) t285) ∧ Aside0 (wc.heap[gb240]? = some (.cells #[(.slice A0_0 l0_0.length c0_0), (.slice A0_1 l0_1.length c0_1)] 24 (0, 0))) ∧ Aside0 (wc.heap[gb255]? = some (.cells #[.int .i64 t248, (.slice Ao22 t249.length co22), (.slice Ao23 t252.length co23)] 46 (0, 0))) ∧ Aside0 (wc.heap[gb262]? = some (.cells #[(.slice Ao27 t280.length co27), (.slice Ao31 t281.length co31)] 27 (0, 0))) ∧ Aside0 (wc.heap[gb270]? = some (.cells #[.int .i64 t263, (.slice Ao38 t264.length co38), (.slice Ao39 t267.length co39)] 46 (0, 0))) ∧ Aside0 (Below w.heap.size w wc))
                      case first =>
                        have H := HC73.out
                        clear HC73
                        by_cases c81 : t286 < 0
                        · rw [if_pos c81] at H
                          have c81b0 : decide (t286 < 0) = true := decide_eq_true c81
                          clear c81
                          (first | rw [c81b0] | (simp only [i64_w, i32_w]; rw [c81b0]) | skip)
                          obtain rfl := Option.some.inj H
                          go_wp2
                          go_ret
                          exact ⟨by first | rfl | (simp [errW_none, errW_some] <;> rfl) | (simp [*, errW_none, errW_some] <;> rfl), by repeat (first | (with_reducible first | exact HB.out | apply below_alloc | apply pw_below_drewN | apply below_drew1 | refine below_set ?_ GE240.out | refine below_set ?_ GE255.out | refine below_set ?_ GE262.out | refine below_set ?_ GE270.out) | exact HB.out)⟩
                        · rw [if_neg c81] at H
                          have c81b0 : decide (t286 < 0) = false := decide_eq_false c81
                          clear c81
                          (first | rw [c81b0] | (simp only [i64_w, i32_w]; rw [c81b0]) | skip)
                          have H' := Aside0.mk H
                          clear H
                          go_wp2
                          go_meet
                          case rel => exact ⟨_, H', ⟨by have := HJ2.out; have := HJ12.out; have := HJ44.out; have := HJ52.out; have := HJ68.out; first | omega | exact Nat.le_refl _⟩, ⟨by (try simp only [hl263000_52]); (try simp only [hl263001_52]); (with_reducible repeat (first | apply Kd.R_alloc | apply Kd.R_drewN | apply Kd.R_drew)); exact HO_256001.out⟩, ⟨by (try simp only [hl263000_52]); (try simp only [hl263001_52]); (with_reducible repeat (first | apply Kd.R_alloc | apply Kd.R_drewN | apply Kd.R_drew)); exact HO_256002.out⟩, ⟨by (try simp only [hl263000_52]); (try simp only [hl263001_52]); (with_reducible repeat (first | apply Kd.R_alloc | apply Kd.R_drewN | apply Kd.R_drew)); exact HO_263000.out⟩, ⟨by (try simp only [hl263000_52]); (try simp only [hl263001_52]); (with_reducible repeat (first | apply Kd.R_alloc | apply Kd.R_drewN | apply Kd.R_drew)); exact HO_263001.out⟩, ⟨by (try simp only [hl263000_52]); (try simp only [hl263001_52]); (with_reducible repeat (first | apply Kd.R_alloc | apply Kd.R_drewN | apply Kd.R_drew)); exact HO_271001.out⟩, ⟨by (try simp only [hl263000_52]); (try simp only [hl263001_52]); (with_reducible repeat (first | apply Kd.R_alloc | apply Kd.R_drewN | apply Kd.R_drew)); exact HO_271002.out⟩, ⟨by (try simp only [hl263000_52]); (try simp only [hl263001_52]); (with_reducible repeat (first | refine blk_drewN ?_ _ | refine blk_drew ?_ | refine blk_alloc ?_ _)); exact BK240.out⟩, ⟨by (try simp only [hl263000_52]); (try simp only [hl263001_52]); (with_reducible repeat (first | refine blk_drewN ?_ _ | refine blk_drew ?_ | refine blk_alloc ?_ _)); exact BK255.out⟩, ⟨by (try simp only [hl263000_52]); (try simp only [hl263001_52]); (with_reducible repeat (first | refine blk_drewN ?_ _ | refine blk_drew ?_ | refine blk_alloc ?_ _)); exact BK262.out⟩, ⟨by (try simp only [hl263000_52]); (try simp only [hl263001_52]); (with_reducible repeat (first | refine blk_drewN ?_ _ | refine blk_drew ?_ | refine blk_alloc ?_ _)); exact BK270.out⟩, ⟨by repeat (first | (with_reducible first | exact HB.out | apply below_alloc | apply pw_below_drewN | apply below_drew1 | refine below_set ?_ GE240.out | refine below_set ?_ GE255.out | refine below_set ?_ GE262.out | refine below_set ?_ GE270.out) | exact HB.out)⟩⟩
                      case rest =>
                        clear HC73
                        try clear c1
                        try clear c2
                        try clear p2
                        try clear c3
                        try clear c4
                        try clear c5
                        try clear c6
                        try clear c7
                        try clear c7b0
                        try clear c8
                        try clear c9
                        try clear c14
                        try clear c16
                        try clear c18
                        try clear c20
                        try clear c28
                        try clear c29
                        try clear c33
                        try clear c34
                        try clear c35
                        try clear c36
                        try clear c42
                        try clear c43
                        try clear c44
                        try clear c51
                        try clear c54
                        try clear c55
                        try clear c56
                        try clear c59
                        try clear c59b0
                        try clear c61
                        try clear c62
                        try clear c63
                        try clear c65
                        try clear c66
                        try clear c70
                        try clear c74
                        try clear c75
                        try clear c76
                        try clear c81
                        try clear c81b0
                        try clear hcz14_0
                        try clear hcz14_1
                        try clear hcz21_0
                        try clear hcz21_1
                        try clear hcz21_2
                        try clear hcz24_0
                        try clear hcz24_1
                        try clear hcz30_0
                        try clear hcz30_1
                        try clear hcz37_0
                        try clear hcz37_1
                        try clear hcz37_2
                        try clear hcz40_0
                        try clear hcz40_1
                        try clear hcz40_2
                        try clear hcz57_0
                        try clear hcz57_1
                        try clear hcz5_0
                        try clear hcz5_1
                        try clear hcz64_0
                        try clear hcz64_1
                        try clear hcz64_2
                        try clear hcz67_0
                        try clear hcz67_1
                        try clear hcz67_2
                        try clear hcz77_0
                        try clear hcz77_1
                        try clear hcz77_2
                        try clear hcz79_0
                        try clear hcz79_1
                        try clear hcz79_2
                        try clear hfz14_0
                        try clear hfz14_1
                        try clear hfz21_0
                        try clear hfz21_1
                        try clear hfz21_2
                        try clear hfz24_0
                        try clear hfz24_1
                        try clear hfz30_0
                        try clear hfz30_1
                        try clear hfz37_0
                        try clear hfz37_1
                        try clear hfz37_2
                        try clear hfz40_0
                        try clear hfz40_1
                        try clear hfz40_2
                        try clear hfz57_0
                        try clear hfz57_1
                        try clear hfz5_0
                        try clear hfz5_1
                        try clear hfz64_0
                        try clear hfz64_1
                        try clear hfz64_2
                        try clear hfz67_0
                        try clear hfz67_1
                        try clear hfz67_2
                        try clear hfz77_0
                        try clear hfz77_1
                        try clear hfz77_2
                        try clear hfz79_0
                        try clear hfz79_1
                        try clear hfz79_2
                        try clear p2
                        obtain ⟨kq, HA, HJ72, HO_256001, HO_256002, HO_263000, HO_263001, HO_271001, HO_271002, BK240, BK255, BK262, BK270, HB⟩ := hcut
                        have hl271001_72 := (Kd.R_reads' HO_271001.out).1
                        rw [hl271001_72] at HO_271001
                        (try simp only [hl271001_72])
                        (try simp only [hl271001_72] at BK240)
                        (try simp only [hl271001_72] at BK255)
                        (try simp only [hl271001_72] at BK262)
                        (try simp only [hl271001_72] at BK270)
                        (try simp only [hl271001_72] at HO_256001)
                        (try simp only [hl271001_72] at HO_256002)
                        (try simp only [hl271001_72] at HO_263000)
                        (try simp only [hl271001_72] at HO_263001)
                        (try simp only [hl271001_72] at HO_271002)
                        have hl271002_72 := (Kd.R_reads' HO_271002.out).1
                        rw [hl271002_72] at HO_271002
                        (try simp only [hl271002_72])
                        (try simp only [hl271002_72] at BK240)
                        (try simp only [hl271002_72] at BK255)
                        (try simp only [hl271002_72] at BK262)
                        (try simp only [hl271002_72] at BK270)
                        (try simp only [hl271002_72] at HO_256001)
                        (try simp only [hl271002_72] at HO_256002)
                        (try simp only [hl271002_72] at HO_263000)
                        (try simp only [hl271002_72] at HO_263001)
                        (try simp only [hl271002_72] at HO_271001)
                        cases kq with
                        | zero => exact absurd HA.out (by simp [laws_FnExactTrimLog.j5])
                        | succ kj72 =>
                          have H := HA.out
                          clear HA
                          simp only [laws_FnExactTrimLog.j5] at H
                          have HC82 := Aside0.mk H
                          clear H
                          go_upto_if 53 with (fail)
                          go_cut [] (fun wc => ∃ (kq : Nat), Aside0 (laws_FnExactTrimLog.j6 kq t283 l0_0 l0_1 t248 t249 t252 t263 t284 t285 = some r) ∧ Aside0 (kq ≤ kj72) ∧ Aside0 (Kd.R (Kd.int .u8) 5 wc w.heap.size (fun k_ => some k_ ≠ ((.slice Ao23 t252.length co23) : Value).ownBlock ∧ some k_ ≠ ((.slice Ao27 t280.length co27) : Value).ownBlock ∧ some k_ ≠ ((.slice Ao31 t281.length co31) : Value).ownBlock ∧ some k_ ≠ ((.slice Ao38 t284.length co38) : Value).ownBlock ∧ some k_ ≠ ((.slice Ao39 t285.length co39) : Value).ownBlock) (.slice Ao22 t249.length co22) t249) ∧ Aside0 (Kd.R (Kd.int .u8) 5 wc w.heap.size (fun k_ => some k_ ≠ ((.slice Ao22 t249.length co22) : Value).ownBlock ∧ some k_ ≠ ((.slice Ao27 t280.length co27) : Value).ownBlock ∧ some k_ ≠ ((.slice Ao31 t281.length co31) : Value).ownBlock ∧ some k_ ≠ ((.slice Ao38 t284.length co38) : Value).ownBlock ∧ some k_ ≠ ((.slice Ao39 t285.length co39) : Value).ownBlock) (.slice Ao23 t252.length co23) t252) ∧ Aside0 (Kd.R (Kd.int .u8) 5 wc w.heap.size (fun k_ => some k_ ≠ ((.slice Ao22 t249.length co22) : Value).ownBlock ∧ some k_ ≠ ((.slice Ao23 t252.length co23) : Value).ownBlock ∧ some k_ ≠ ((.slice Ao31 t281.length co31) : Value).ownBlock ∧ some k_ ≠ ((.slice Ao38 t284.length co38) : Value).ownBlock ∧ some k_ ≠ ((.slice Ao39 t285.length co39) : Value).ownBlock) (.slice Ao27 t280.length co27) t280) ∧ Aside0 (Kd.R (Kd.int .u8) 5 wc w.heap.size (fun k_ => some k_ ≠ ((.slice Ao22 t249.length co22) : Value).ownBlock ∧ some k_ ≠ ((.slice Ao23 t252.length co23) : Value).ownBlock ∧ some k_ ≠ ((.slice Ao27 t280.length co27) : Value).ownBlock ∧ some k_ ≠ ((.slice Ao38 t284.length co38) : Value).ownBlock ∧ some k_ ≠ ((.slice Ao39 t285.length co39) : Value).ownBlock) (.slice Ao31 t281.length co31) t281) ∧ Aside0 (Kd.R (Kd.int .u8) 5 wc w.heap.size (fun k_ => some k_ ≠ ((.slice Ao22 t249.length co22) : Value).ownBlock ∧ some k_ ≠ ((.slice Ao23 t252.length co23) : Value).ownBlock ∧ some k_ ≠ ((.slice Ao27 t280.length co27) : Value).ownBlock ∧ some k_ ≠ ((.slice Ao31 t281.length co31) : Value).ownBlock ∧ some k_ ≠ ((.slice Ao39 t285.length co39) : Value).ownBlock) (.slice Ao38 t284.length co38) t284) ∧ Aside0 (Kd.R (Kd.int .u8) 5 wc w.heap.size (fun k_ => some k_ ≠ ((.slice Ao22 t249.length co22) : Value).ownBlock ∧ some k_ ≠ ((.slice Ao23 t252.length co23) : Value).ownBlock ∧ some k_ ≠ ((.slice Ao27 t280.length co27) : Value).ownBlock ∧ some k_ ≠ ((.slice Ao31 t281.length co31) : Value).ownBlock ∧ some k_ ≠ ((.slice Ao38 t284.length co38) : Value).ownBlock) (.slice Ao39 t285.length co39) t285) ∧ Aside0 (wc.heap[gb240]? = some (.cells #[(.slice A0_0 l0_0.length c0_0), (.slice A0_1 l0_1.length c0_1)] 24 (0, 0))) ∧ Aside0 (wc.heap[gb255]? = some (.cells #[.int .i64 t248, (.slice Ao22 t249.length co22), (.slice Ao23 t252.length co23)] 46 (0, 0))) ∧ Aside0 (wc.heap[gb262]? = some (.cells #[(.slice Ao27 t280.length co27), (.slice Ao31 t281.length co31)] 27 (0, 0))) ∧ Aside0 (wc.heap[gb270]? = some (.cells #[.int .i64 t263, (.slice Ao38 t284.length co38), (.slice Ao39 t285.length co39)] 46 (0, 0))) ∧ Aside0 (Below w.heap.size w wc))
                          case first =>
                            have H := HC82.out
                            clear HC82
                            by_cases c83 : t286 = t283
                            · rw [if_pos c83] at H
                              have c83b0 : (t286 == t283) = true := beq_iff_eq.mpr c83
                              have c83b1 : (t286 != t283) = false := bne_eq_false_iff_eq.mpr c83
                              clear c83
                              (first | rw [c83b0] | (simp only [i64_w, i32_w]; rw [c83b0]) | skip)
                              have H' := Aside0.mk H
                              clear H
                              go_wp2
                              go_meet
                              case rel => exact ⟨_, H', ⟨by have := HJ2.out; have := HJ12.out; have := HJ44.out; have := HJ52.out; have := HJ68.out; have := HJ72.out; first | omega | exact Nat.le_refl _⟩, ⟨by (try simp only [hl263000_52]); (try simp only [hl263001_52]); (try simp only [hl271001_72]); (try simp only [hl271002_72]); (with_reducible repeat (first | apply Kd.R_alloc | apply Kd.R_drewN | apply Kd.R_drew)); exact HO_256001.out⟩, ⟨by (try simp only [hl263000_52]); (try simp only [hl263001_52]); (try simp only [hl271001_72]); (try simp only [hl271002_72]); (with_reducible repeat (first | apply Kd.R_alloc | apply Kd.R_drewN | apply Kd.R_drew)); exact HO_256002.out⟩, ⟨by (try simp only [hl263000_52]); (try simp only [hl263001_52]); (try simp only [hl271001_72]); (try simp only [hl271002_72]); (with_reducible repeat (first | apply Kd.R_alloc | apply Kd.R_drewN | apply Kd.R_drew)); exact HO_263000.out⟩, ⟨by (try simp only [hl263000_52]); (try simp only [hl263001_52]); (try simp only [hl271001_72]); (try simp only [hl271002_72]); (with_reducible repeat (first | apply Kd.R_alloc | apply Kd.R_drewN | apply Kd.R_drew)); exact HO_263001.out⟩, ⟨by (try simp only [hl263000_52]); (try simp only [hl263001_52]); (try simp only [hl271001_72]); (try simp only [hl271002_72]); (with_reducible repeat (first | apply Kd.R_alloc | apply Kd.R_drewN | apply Kd.R_drew)); exact HO_271001.out⟩, ⟨by (try simp only [hl263000_52]); (try simp only [hl263001_52]); (try simp only [hl271001_72]); (try simp only [hl271002_72]); (with_reducible repeat (first | apply Kd.R_alloc | apply Kd.R_drewN | apply Kd.R_drew)); exact HO_271002.out⟩, ⟨by (try simp only [hl263000_52]); (try simp only [hl263001_52]); (try simp only [hl271001_72]); (try simp only [hl271002_72]); (with_reducible repeat (first | refine blk_drewN ?_ _ | refine blk_drew ?_ | refine blk_alloc ?_ _)); exact BK240.out⟩, ⟨by (try simp only [hl263000_52]); (try simp only [hl263001_52]); (try simp only [hl271001_72]); (try simp only [hl271002_72]); (with_reducible repeat (first | refine blk_drewN ?_ _ | refine blk_drew ?_ | refine blk_alloc ?_ _)); exact BK255.out⟩, ⟨by (try simp only [hl263000_52]); (try simp only [hl263001_52]); (try simp only [hl271001_72]); (try simp only [hl271002_72]); (with_reducible repeat (first | refine blk_drewN ?_ _ | refine blk_drew ?_ | refine blk_alloc ?_ _)); exact BK262.out⟩, ⟨by (try simp only [hl263000_52]); (try simp only [hl263001_52]); (try simp only [hl271001_72]); (try simp only [hl271002_72]); (with_reducible repeat (first | refine blk_drewN ?_ _ | refine blk_drew ?_ | refine blk_alloc ?_ _)); exact BK270.out⟩, ⟨by repeat (first | (with_reducible first | exact HB.out | apply below_alloc | apply pw_below_drewN | apply below_drew1 | refine below_set ?_ GE240.out | refine below_set ?_ GE255.out | refine below_set ?_ GE262.out | refine below_set ?_ GE270.out) | exact HB.out)⟩⟩
                            · rw [if_neg c83] at H
                              have c83b0 : (t286 == t283) = false := beq_eq_false_iff_ne.mpr c83
                              have c83b1 : (t286 != t283) = true := bne_iff_ne.mpr c83
                              (first | rw [c83b0] | (simp only [i64_w, i32_w]; rw [c83b0]) | skip)
                              obtain rfl := Option.some.inj H
                              go_wp2
                              go_ret
                              exact ⟨by first | rfl | (simp [errW_none, errW_some] <;> rfl) | (simp [*, errW_none, errW_some] <;> rfl), by repeat (first | (with_reducible first | exact HB.out | apply below_alloc | apply pw_below_drewN | apply below_drew1 | refine below_set ?_ GE240.out | refine below_set ?_ GE255.out | refine below_set ?_ GE262.out | refine below_set ?_ GE270.out) | exact HB.out)⟩
                          case rest =>
                            clear HC82
                            try clear c1
                            try clear c2
                            try clear p2
                            try clear c3
                            try clear c4
                            try clear c5
                            try clear c6
                            try clear c7
                            try clear c7b0
                            try clear c8
                            try clear c9
                            try clear c14
                            try clear c16
                            try clear c18
                            try clear c20
                            try clear c28
                            try clear c29
                            try clear c33
                            try clear c34
                            try clear c35
                            try clear c36
                            try clear c42
                            try clear c43
                            try clear c44
                            try clear c51
                            try clear c54
                            try clear c55
                            try clear c56
                            try clear c59
                            try clear c59b0
                            try clear c61
                            try clear c62
                            try clear c63
                            try clear c65
                            try clear c66
                            try clear c70
                            try clear c74
                            try clear c75
                            try clear c76
                            try clear c81
                            try clear c81b0
                            try clear c83
                            try clear c83b0
                            try clear c83b1
                            try clear hcz14_0
                            try clear hcz14_1
                            try clear hcz21_0
                            try clear hcz21_1
                            try clear hcz21_2
                            try clear hcz24_0
                            try clear hcz24_1
                            try clear hcz30_0
                            try clear hcz30_1
                            try clear hcz37_0
                            try clear hcz37_1
                            try clear hcz37_2
                            try clear hcz40_0
                            try clear hcz40_1
                            try clear hcz40_2
                            try clear hcz57_0
                            try clear hcz57_1
                            try clear hcz5_0
                            try clear hcz5_1
                            try clear hcz64_0
                            try clear hcz64_1
                            try clear hcz64_2
                            try clear hcz67_0
                            try clear hcz67_1
                            try clear hcz67_2
                            try clear hcz77_0
                            try clear hcz77_1
                            try clear hcz77_2
                            try clear hcz79_0
                            try clear hcz79_1
                            try clear hcz79_2
                            try clear hfz14_0
                            try clear hfz14_1
                            try clear hfz21_0
                            try clear hfz21_1
                            try clear hfz21_2
                            try clear hfz24_0
                            try clear hfz24_1
                            try clear hfz30_0
                            try clear hfz30_1
                            try clear hfz37_0
                            try clear hfz37_1
                            try clear hfz37_2
                            try clear hfz40_0
                            try clear hfz40_1
                            try clear hfz40_2
                            try clear hfz57_0
                            try clear hfz57_1
                            try clear hfz5_0
                            try clear hfz5_1
                            try clear hfz64_0
                            try clear hfz64_1
                            try clear hfz64_2
                            try clear hfz67_0
                            try clear hfz67_1
                            try clear hfz67_2
                            try clear hfz77_0
                            try clear hfz77_1
                            try clear hfz77_2
                            try clear hfz79_0
                            try clear hfz79_1
                            try clear hfz79_2
                            try clear p2
                            obtain ⟨kq, HA, HJ81, HO_256001, HO_256002, HO_263000, HO_263001, HO_271001, HO_271002, BK240, BK255, BK262, BK270, HB⟩ := hcut
                            cases kq with
                            | zero => exact absurd HA.out (by simp [laws_FnExactTrimLog.j6])
                            | succ kj81 =>
                              have H := HA.out
                              clear HA
                              simp only [laws_FnExactTrimLog.j6] at H
                              replace H := Option.bind_eq_some_iff.mp H
                              obtain ⟨⟨t287, t290⟩, A840, H⟩ := H
                              replace H : ((impl_TrimLog.f kj81 t287 t290).bind fun bt293 => ((laws_eqLogResult.f kj81 bt293.1 bt293.2.1 bt293.2.2 t248 t249 t252).bind fun t301 => (if t301 = true then (laws_FnExactTrimLog.j7 kj81 t283 t263 t284 t285) else (some false)))) = some r := H
                              have A84 := Aside0.mk A840
                              clear A840
                              replace H := Option.bind_eq_some_iff.mp H
                              obtain ⟨⟨t293, t294, t297⟩, A850, H⟩ := H
                              replace H : ((laws_eqLogResult.f kj81 t293 t294 t297 t248 t249 t252).bind fun t301 => (if t301 = true then (laws_FnExactTrimLog.j7 kj81 t283 t263 t284 t285) else (some false))) = some r := H
                              have A85 := Aside0.mk A850
                              clear A850
                              replace H := Option.bind_eq_some_iff.mp H
                              obtain ⟨t301, A860, H⟩ := H
                              replace H : (if t301 = true then (laws_FnExactTrimLog.j7 kj81 t283 t263 t284 t285) else (some false)) = some r := H
                              have A86 := Aside0.mk A860
                              clear A860
                              have HC87 := Aside0.mk H
                              clear H
                              have hnb88 := NB240_255.out
                              have hnc88 := NB255_240.out
                              have hnb89 := NB240_262.out
                              have hnc89 := NB262_240.out
                              have hnb90 := NB240_270.out
                              have hnc90 := NB270_240.out
                              have hcz91_0 : wc.cell? ⟨gb240, 0, none⟩ = some (.slice A0_0 l0_0.length c0_0) := (blk_cell BK240.out 0).trans rfl
                              have hcz91_1 : wc.cell? ⟨gb240, 1, none⟩ = some (.slice A0_1 l0_1.length c0_1) := (blk_cell BK240.out 1).trans rfl
                              have hfz91_0 := blk_frozen BK240.out 0
                              have hfz91_1 := blk_frozen BK240.out 1
                              go_upto_if 60 with (first | ((with_reducible refine gate_callee (f := 16) rfl ?_); refine goesL_ (some 55) rfl rfl Try.func16 (by kernel_rfl) rfl #[.agg #[.slice A0_0 l0_0.length c0_0, .slice A0_1 l0_1.length c0_1]] rfl (by (try simp only [List.map_toArray, List.map_cons, List.map_nil]); first | done | rfl | (simp only [List.length_drop, List.length_take]; rfl)) ?_; (with_reducible refine (laws_toLog.calls kj81 _ _ l0_0 _ _ l0_1 t287 t290 _ ?side1 ?side2 ?side3 ?side4 A84.out).mono ?_); (case side1 => repeat (first | exact (Kd.C_below HR0_0.out HB.out) | (with_reducible refine Kd.C_alloc ?_ _) | (with_reducible refine Kd.C_drewN ?_ _) | (with_reducible refine Kd.C_drew ?_))); (case side2 => exact HC0_0.out); (case side3 => repeat (first | exact (Kd.C_below HR0_1.out HB.out) | (with_reducible refine Kd.C_alloc ?_ _) | (with_reducible refine Kd.C_drewN ?_ _) | (with_reducible refine Kd.C_drew ?_))); (case side4 => exact HC0_1.out); rintro e w92 ⟨v288, v291, rfl, ho0, ho1, hb⟩; refine ⟨_, rfl, ?_⟩; have n0_ := Aside0.mk (Kd.R_mono (Kd.R_told (Kd.R_told (Kd.R_old (by (with_reducible repeat (first | apply Kd.R_alloc | apply Kd.R_drewN | apply Kd.R_drew)); exact HO_256001.out) hb) (Kd.R_base ho0)) (Kd.R_base ho1)) (fun _ h_ => h_.1)); have n1_ := Aside0.mk (Kd.R_mono (Kd.R_told (Kd.R_told (Kd.R_old (by (with_reducible repeat (first | apply Kd.R_alloc | apply Kd.R_drewN | apply Kd.R_drew)); exact HO_256002.out) hb) (Kd.R_base ho0)) (Kd.R_base ho1)) (fun _ h_ => h_.1)); have n2_ := Aside0.mk (Kd.R_mono (Kd.R_told (Kd.R_told (Kd.R_old (by (with_reducible repeat (first | apply Kd.R_alloc | apply Kd.R_drewN | apply Kd.R_drew)); exact HO_263000.out) hb) (Kd.R_base ho0)) (Kd.R_base ho1)) (fun _ h_ => h_.1)); have n3_ := Aside0.mk (Kd.R_mono (Kd.R_told (Kd.R_told (Kd.R_old (by (with_reducible repeat (first | apply Kd.R_alloc | apply Kd.R_drewN | apply Kd.R_drew)); exact HO_263001.out) hb) (Kd.R_base ho0)) (Kd.R_base ho1)) (fun _ h_ => h_.1)); have n4_ := Aside0.mk (Kd.R_mono (Kd.R_told (Kd.R_told (Kd.R_old (by (with_reducible repeat (first | apply Kd.R_alloc | apply Kd.R_drewN | apply Kd.R_drew)); exact HO_271001.out) hb) (Kd.R_base ho0)) (Kd.R_base ho1)) (fun _ h_ => h_.1)); have n5_ := Aside0.mk (Kd.R_mono (Kd.R_told (Kd.R_told (Kd.R_old (by (with_reducible repeat (first | apply Kd.R_alloc | apply Kd.R_drewN | apply Kd.R_drew)); exact HO_271002.out) hb) (Kd.R_base ho0)) (Kd.R_base ho1)) (fun _ h_ => h_.1)); have n6_ := Aside0.mk (Kd.R_lower (Kd.R_new' (Kd.R_new' (Kd.R_new' (Kd.R_new' (Kd.R_new' (Kd.R_new' ho0 (Kd.R_lt (by (with_reducible repeat (first | apply Kd.R_alloc | apply Kd.R_drewN | apply Kd.R_drew)); exact HO_256001.out))) (Kd.R_lt (by (with_reducible repeat (first | apply Kd.R_alloc | apply Kd.R_drewN | apply Kd.R_drew)); exact HO_256002.out))) (Kd.R_lt (by (with_reducible repeat (first | apply Kd.R_alloc | apply Kd.R_drewN | apply Kd.R_drew)); exact HO_263000.out))) (Kd.R_lt (by (with_reducible repeat (first | apply Kd.R_alloc | apply Kd.R_drewN | apply Kd.R_drew)); exact HO_263001.out))) (Kd.R_lt (by (with_reducible repeat (first | apply Kd.R_alloc | apply Kd.R_drewN | apply Kd.R_drew)); exact HO_271001.out))) (Kd.R_lt (by (with_reducible repeat (first | apply Kd.R_alloc | apply Kd.R_drewN | apply Kd.R_drew)); exact HO_271002.out))) (below_size (by repeat (first | (with_reducible first | exact HB.out | apply below_alloc | apply pw_below_drewN | apply below_drew1 | refine below_set ?_ GE240.out | refine below_set ?_ GE255.out | refine below_set ?_ GE262.out | refine below_set ?_ GE270.out) | exact HB.out)))); have n7_ := Aside0.mk (Kd.R_lower (Kd.R_new' (Kd.R_new' (Kd.R_new' (Kd.R_new' (Kd.R_new' (Kd.R_new' ho1 (Kd.R_lt (by (with_reducible repeat (first | apply Kd.R_alloc | apply Kd.R_drewN | apply Kd.R_drew)); exact HO_256001.out))) (Kd.R_lt (by (with_reducible repeat (first | apply Kd.R_alloc | apply Kd.R_drewN | apply Kd.R_drew)); exact HO_256002.out))) (Kd.R_lt (by (with_reducible repeat (first | apply Kd.R_alloc | apply Kd.R_drewN | apply Kd.R_drew)); exact HO_263000.out))) (Kd.R_lt (by (with_reducible repeat (first | apply Kd.R_alloc | apply Kd.R_drewN | apply Kd.R_drew)); exact HO_263001.out))) (Kd.R_lt (by (with_reducible repeat (first | apply Kd.R_alloc | apply Kd.R_drewN | apply Kd.R_drew)); exact HO_271001.out))) (Kd.R_lt (by (with_reducible repeat (first | apply Kd.R_alloc | apply Kd.R_drewN | apply Kd.R_drew)); exact HO_271002.out))) (below_size (by repeat (first | (with_reducible first | exact HB.out | apply below_alloc | apply pw_below_drewN | apply below_drew1 | refine below_set ?_ GE240.out | refine below_set ?_ GE255.out | refine below_set ?_ GE262.out | refine below_set ?_ GE270.out) | exact HB.out)))); have n8_ := Aside0.mk (blk_below (g := gb240) (o := .cells #[.slice A0_0 l0_0.length c0_0, .slice A0_1 l0_1.length c0_1] 24 (0, 0)) (by (with_reducible repeat (first | refine blk_drewN ?_ _ | refine blk_drew ?_ | refine blk_alloc ?_ _)); exact BK240.out) hb); have n9_ := Aside0.mk (blk_below (g := gb255) (o := .cells #[.int .i64 t248, .slice Ao22 t249.length co22, .slice Ao23 t252.length co23] 46 (0, 0)) (by (with_reducible repeat (first | refine blk_drewN ?_ _ | refine blk_drew ?_ | refine blk_alloc ?_ _)); exact BK255.out) hb); have n10_ := Aside0.mk (blk_below (g := gb262) (o := .cells #[.slice Ao27 t280.length co27, .slice Ao31 t281.length co31] 27 (0, 0)) (by (with_reducible repeat (first | refine blk_drewN ?_ _ | refine blk_drew ?_ | refine blk_alloc ?_ _)); exact BK262.out) hb); have n11_ := Aside0.mk (blk_below (g := gb270) (o := .cells #[.int .i64 t263, .slice Ao38 t284.length co38, .slice Ao39 t285.length co39] 46 (0, 0)) (by (with_reducible repeat (first | refine blk_drewN ?_ _ | refine blk_drew ?_ | refine blk_alloc ?_ _)); exact BK270.out) hb); have n12_ := Aside0.mk (below_step (by repeat (first | (with_reducible first | exact HB.out | apply below_alloc | apply pw_below_drewN | apply below_drew1 | refine below_set ?_ GE240.out | refine below_set ?_ GE255.out | refine below_set ?_ GE262.out | refine below_set ?_ GE270.out) | exact HB.out)) hb); clear HO_256001; clear HO_256002; clear HO_263000; clear HO_263001; clear HO_271001; clear HO_271002; clear BK240; clear BK255; clear BK262; clear BK270; clear HB; have HO_256001 := n0_; have HO_256002 := n1_; have HO_263000 := n2_; have HO_263001 := n3_; have HO_271001 := n4_; have HO_271002 := n5_; have HO289 := n6_; have HO292 := n7_; have BK240 := n8_; have BK255 := n9_; have BK262 := n10_; have BK270 := n11_; have HB := n12_; clear n0_ n1_ n2_ n3_ n4_ n5_ n6_ n7_ n8_ n9_ n10_ n11_ n12_; (try clear hb); (try clear hb2); (try clear hk); (try clear hi); (try clear ho0); (try clear ho1); obtain ⟨Ao93, co93, eo93⟩ := Kd.R_slice HO289.out; subst eo93; obtain ⟨Ao94, co94, eo94⟩ := Kd.R_slice HO292.out; subst eo94) | ((with_reducible refine gate_callee (f := 44) rfl ?_); refine goesL_ (some 56) rfl rfl Try.func44 (by kernel_rfl) rfl #[.agg #[.slice Ao93 t287.length co93, .slice Ao94 t290.length co94]] rfl (by (try simp only [List.map_toArray, List.map_cons, List.map_nil]); first | done | rfl | (simp only [List.length_drop, List.length_take]; rfl)) ?_; (with_reducible refine (impl_TrimLog.calls kj81 _ _ t287 _ _ t290 t293 t294 t297 _ ?side1 ?side2 ?side3 ?side4 A85.out).mono ?_); (case side1 => repeat (first | exact (Kd.R_reads' HO289.out).2.2 | (with_reducible refine Kd.C_alloc ?_ _) | (with_reducible refine Kd.C_drewN ?_ _) | (with_reducible refine Kd.C_drew ?_))); (case side2 => exact (Kd.R_reads' HO289.out).2.1); (case side3 => repeat (first | exact (Kd.R_reads' HO292.out).2.2 | (with_reducible refine Kd.C_alloc ?_ _) | (with_reducible refine Kd.C_drewN ?_ _) | (with_reducible refine Kd.C_drew ?_))); (case side4 => exact (Kd.R_reads' HO292.out).2.1); rintro e w95 ⟨v295, v298, rfl, ho0, ho1, hb⟩; refine ⟨_, rfl, ?_⟩; have n0_ := Aside0.mk (Kd.R_mono (Kd.R_told (Kd.R_told (Kd.R_old (by (with_reducible repeat (first | apply Kd.R_alloc | apply Kd.R_drewN | apply Kd.R_drew)); exact HO_256001.out) hb) (Kd.R_base ho0)) (Kd.R_base ho1)) (fun _ h_ => h_.1)); have n1_ := Aside0.mk (Kd.R_mono (Kd.R_told (Kd.R_told (Kd.R_old (by (with_reducible repeat (first | apply Kd.R_alloc | apply Kd.R_drewN | apply Kd.R_drew)); exact HO_256002.out) hb) (Kd.R_base ho0)) (Kd.R_base ho1)) (fun _ h_ => h_.1)); have n2_ := Aside0.mk (Kd.R_mono (Kd.R_told (Kd.R_told (Kd.R_old (by (with_reducible repeat (first | apply Kd.R_alloc | apply Kd.R_drewN | apply Kd.R_drew)); exact HO_263000.out) hb) (Kd.R_base ho0)) (Kd.R_base ho1)) (fun _ h_ => h_.1)); have n3_ := Aside0.mk (Kd.R_mono (Kd.R_told (Kd.R_told (Kd.R_old (by (with_reducible repeat (first | apply Kd.R_alloc | apply Kd.R_drewN | apply Kd.R_drew)); exact HO_263001.out) hb) (Kd.R_base ho0)) (Kd.R_base ho1)) (fun _ h_ => h_.1)); have n4_ := Aside0.mk (Kd.R_mono (Kd.R_told (Kd.R_told (Kd.R_old (by (with_reducible repeat (first | apply Kd.R_alloc | apply Kd.R_drewN | apply Kd.R_drew)); exact HO_271001.out) hb) (Kd.R_base ho0)) (Kd.R_base ho1)) (fun _ h_ => h_.1)); have n5_ := Aside0.mk (Kd.R_mono (Kd.R_told (Kd.R_told (Kd.R_old (by (with_reducible repeat (first | apply Kd.R_alloc | apply Kd.R_drewN | apply Kd.R_drew)); exact HO_271002.out) hb) (Kd.R_base ho0)) (Kd.R_base ho1)) (fun _ h_ => h_.1)); have n6_ := Aside0.mk (Kd.R_mono (Kd.R_told (Kd.R_told (Kd.R_old (by (with_reducible repeat (first | apply Kd.R_alloc | apply Kd.R_drewN | apply Kd.R_drew)); exact HO289.out) hb) (Kd.R_base ho0)) (Kd.R_base ho1)) (fun _ h_ => h_.1)); have n7_ := Aside0.mk (Kd.R_mono (Kd.R_told (Kd.R_told (Kd.R_old (by (with_reducible repeat (first | apply Kd.R_alloc | apply Kd.R_drewN | apply Kd.R_drew)); exact HO292.out) hb) (Kd.R_base ho0)) (Kd.R_base ho1)) (fun _ h_ => h_.1)); have n8_ := Aside0.mk (Kd.R_lower (Kd.R_new' (Kd.R_new' (Kd.R_new' (Kd.R_new' (Kd.R_new' (Kd.R_new' (Kd.R_new' (Kd.R_new' ho0 (Kd.R_lt (by (with_reducible repeat (first | apply Kd.R_alloc | apply Kd.R_drewN | apply Kd.R_drew)); exact HO_256001.out))) (Kd.R_lt (by (with_reducible repeat (first | apply Kd.R_alloc | apply Kd.R_drewN | apply Kd.R_drew)); exact HO_256002.out))) (Kd.R_lt (by (with_reducible repeat (first | apply Kd.R_alloc | apply Kd.R_drewN | apply Kd.R_drew)); exact HO_263000.out))) (Kd.R_lt (by (with_reducible repeat (first | apply Kd.R_alloc | apply Kd.R_drewN | apply Kd.R_drew)); exact HO_263001.out))) (Kd.R_lt (by (with_reducible repeat (first | apply Kd.R_alloc | apply Kd.R_drewN | apply Kd.R_drew)); exact HO_271001.out))) (Kd.R_lt (by (with_reducible repeat (first | apply Kd.R_alloc | apply Kd.R_drewN | apply Kd.R_drew)); exact HO_271002.out))) (Kd.R_lt (by (with_reducible repeat (first | apply Kd.R_alloc | apply Kd.R_drewN | apply Kd.R_drew)); exact HO289.out))) (Kd.R_lt (by (with_reducible repeat (first | apply Kd.R_alloc | apply Kd.R_drewN | apply Kd.R_drew)); exact HO292.out))) (below_size (by repeat (first | (with_reducible first | exact HB.out | apply below_alloc | apply pw_below_drewN | apply below_drew1 | refine below_set ?_ GE240.out | refine below_set ?_ GE255.out | refine below_set ?_ GE262.out | refine below_set ?_ GE270.out) | exact HB.out)))); have n9_ := Aside0.mk (Kd.R_lower (Kd.R_new' (Kd.R_new' (Kd.R_new' (Kd.R_new' (Kd.R_new' (Kd.R_new' (Kd.R_new' (Kd.R_new' ho1 (Kd.R_lt (by (with_reducible repeat (first | apply Kd.R_alloc | apply Kd.R_drewN | apply Kd.R_drew)); exact HO_256001.out))) (Kd.R_lt (by (with_reducible repeat (first | apply Kd.R_alloc | apply Kd.R_drewN | apply Kd.R_drew)); exact HO_256002.out))) (Kd.R_lt (by (with_reducible repeat (first | apply Kd.R_alloc | apply Kd.R_drewN | apply Kd.R_drew)); exact HO_263000.out))) (Kd.R_lt (by (with_reducible repeat (first | apply Kd.R_alloc | apply Kd.R_drewN | apply Kd.R_drew)); exact HO_263001.out))) (Kd.R_lt (by (with_reducible repeat (first | apply Kd.R_alloc | apply Kd.R_drewN | apply Kd.R_drew)); exact HO_271001.out))) (Kd.R_lt (by (with_reducible repeat (first | apply Kd.R_alloc | apply Kd.R_drewN | apply Kd.R_drew)); exact HO_271002.out))) (Kd.R_lt (by (with_reducible repeat (first | apply Kd.R_alloc | apply Kd.R_drewN | apply Kd.R_drew)); exact HO289.out))) (Kd.R_lt (by (with_reducible repeat (first | apply Kd.R_alloc | apply Kd.R_drewN | apply Kd.R_drew)); exact HO292.out))) (below_size (by repeat (first | (with_reducible first | exact HB.out | apply below_alloc | apply pw_below_drewN | apply below_drew1 | refine below_set ?_ GE240.out | refine below_set ?_ GE255.out | refine below_set ?_ GE262.out | refine below_set ?_ GE270.out) | exact HB.out)))); have n10_ := Aside0.mk (blk_below (g := gb240) (o := .cells #[.slice A0_0 l0_0.length c0_0, .slice A0_1 l0_1.length c0_1] 24 (0, 0)) (by (with_reducible repeat (first | refine blk_drewN ?_ _ | refine blk_drew ?_ | refine blk_alloc ?_ _)); exact BK240.out) hb); have n11_ := Aside0.mk (blk_below (g := gb255) (o := .cells #[.int .i64 t248, .slice Ao22 t249.length co22, .slice Ao23 t252.length co23] 46 (0, 0)) (by (with_reducible repeat (first | refine blk_drewN ?_ _ | refine blk_drew ?_ | refine blk_alloc ?_ _)); exact BK255.out) hb); have n12_ := Aside0.mk (blk_below (g := gb262) (o := .cells #[.slice Ao27 t280.length co27, .slice Ao31 t281.length co31] 27 (0, 0)) (by (with_reducible repeat (first | refine blk_drewN ?_ _ | refine blk_drew ?_ | refine blk_alloc ?_ _)); exact BK262.out) hb); have n13_ := Aside0.mk (blk_below (g := gb270) (o := .cells #[.int .i64 t263, .slice Ao38 t284.length co38, .slice Ao39 t285.length co39] 46 (0, 0)) (by (with_reducible repeat (first | refine blk_drewN ?_ _ | refine blk_drew ?_ | refine blk_alloc ?_ _)); exact BK270.out) hb); have n14_ := Aside0.mk (below_step (by repeat (first | (with_reducible first | exact HB.out | apply below_alloc | apply pw_below_drewN | apply below_drew1 | refine below_set ?_ GE240.out | refine below_set ?_ GE255.out | refine below_set ?_ GE262.out | refine below_set ?_ GE270.out) | exact HB.out)) hb); clear HO_256001; clear HO_256002; clear HO_263000; clear HO_263001; clear HO_271001; clear HO_271002; clear HO289; clear HO292; clear BK240; clear BK255; clear BK262; clear BK270; clear HB; have HO_256001 := n0_; have HO_256002 := n1_; have HO_263000 := n2_; have HO_263001 := n3_; have HO_271001 := n4_; have HO_271002 := n5_; have HO289 := n6_; have HO292 := n7_; have HO296 := n8_; have HO299 := n9_; have BK240 := n10_; have BK255 := n11_; have BK262 := n12_; have BK270 := n13_; have HB := n14_; clear n0_ n1_ n2_ n3_ n4_ n5_ n6_ n7_ n8_ n9_ n10_ n11_ n12_ n13_ n14_; (try clear hb); (try clear hb2); (try clear hk); (try clear hi); (try clear ho0); (try clear ho1)) | ((with_reducible refine gate_dst (N := 10) rfl ?_); refine box_event ?hg (N := 10) ?hd (cs := #[.int .i64 0, .slice none 0 0, .slice none 0 0]) (t := 46) ?hr ?_; (case hd => rfl); (case hg => rfl); (case hr => first | (go_simp; done) | (go_simp; rfl)); intro gb300 hg w96 hbox hb; have n0_ := Aside0.mk (Kd.R_below (by (with_reducible repeat (first | apply Kd.R_alloc | apply Kd.R_drewN | apply Kd.R_drew)); exact HO_256001.out) hb); have n1_ := Aside0.mk (Kd.R_below (by (with_reducible repeat (first | apply Kd.R_alloc | apply Kd.R_drewN | apply Kd.R_drew)); exact HO_256002.out) hb); have n2_ := Aside0.mk (Kd.R_below (by (with_reducible repeat (first | apply Kd.R_alloc | apply Kd.R_drewN | apply Kd.R_drew)); exact HO_263000.out) hb); have n3_ := Aside0.mk (Kd.R_below (by (with_reducible repeat (first | apply Kd.R_alloc | apply Kd.R_drewN | apply Kd.R_drew)); exact HO_263001.out) hb); have n4_ := Aside0.mk (Kd.R_below (by (with_reducible repeat (first | apply Kd.R_alloc | apply Kd.R_drewN | apply Kd.R_drew)); exact HO_271001.out) hb); have n5_ := Aside0.mk (Kd.R_below (by (with_reducible repeat (first | apply Kd.R_alloc | apply Kd.R_drewN | apply Kd.R_drew)); exact HO_271002.out) hb); have n6_ := Aside0.mk (Kd.R_below (by (with_reducible repeat (first | apply Kd.R_alloc | apply Kd.R_drewN | apply Kd.R_drew)); exact HO289.out) hb); have n7_ := Aside0.mk (Kd.R_below (by (with_reducible repeat (first | apply Kd.R_alloc | apply Kd.R_drewN | apply Kd.R_drew)); exact HO292.out) hb); have n8_ := Aside0.mk (Kd.R_below (by (with_reducible repeat (first | apply Kd.R_alloc | apply Kd.R_drewN | apply Kd.R_drew)); exact HO296.out) hb); have n9_ := Aside0.mk (Kd.R_below (by (with_reducible repeat (first | apply Kd.R_alloc | apply Kd.R_drewN | apply Kd.R_drew)); exact HO299.out) hb); have n10_ := Aside0.mk (blk_below (g := gb240) (o := .cells #[.slice A0_0 l0_0.length c0_0, .slice A0_1 l0_1.length c0_1] 24 (0, 0)) (by (with_reducible repeat (first | refine blk_drewN ?_ _ | refine blk_drew ?_ | refine blk_alloc ?_ _)); exact BK240.out) hb); have n11_ := Aside0.mk (blk_below (g := gb255) (o := .cells #[.int .i64 t248, .slice Ao22 t249.length co22, .slice Ao23 t252.length co23] 46 (0, 0)) (by (with_reducible repeat (first | refine blk_drewN ?_ _ | refine blk_drew ?_ | refine blk_alloc ?_ _)); exact BK255.out) hb); have n12_ := Aside0.mk (blk_below (g := gb262) (o := .cells #[.slice Ao27 t280.length co27, .slice Ao31 t281.length co31] 27 (0, 0)) (by (with_reducible repeat (first | refine blk_drewN ?_ _ | refine blk_drew ?_ | refine blk_alloc ?_ _)); exact BK262.out) hb); have n13_ := Aside0.mk (blk_below (g := gb270) (o := .cells #[.int .i64 t263, .slice Ao38 t284.length co38, .slice Ao39 t285.length co39] 46 (0, 0)) (by (with_reducible repeat (first | refine blk_drewN ?_ _ | refine blk_drew ?_ | refine blk_alloc ?_ _)); exact BK270.out) hb); have n14_ := Aside0.mk (below_step (by repeat (first | (with_reducible first | exact HB.out | apply below_alloc | apply pw_below_drewN | apply below_drew1 | refine below_set ?_ GE240.out | refine below_set ?_ GE255.out | refine below_set ?_ GE262.out | refine below_set ?_ GE270.out) | exact HB.out)) hb); have n15_ := Aside0.mk (hbox); have n16_ := Aside0.mk ((by rw [hg]; exact (below_size (by repeat (first | (with_reducible first | exact HB.out | apply below_alloc | apply pw_below_drewN | apply below_drew1 | refine below_set ?_ GE240.out | refine below_set ?_ GE255.out | refine below_set ?_ GE262.out | refine below_set ?_ GE270.out) | exact HB.out))) : w.heap.size ≤ gb300)); have n17_ := Aside0.mk ((by rw [hg]; exact (below_size (by repeat (first | (with_reducible first | exact HB.out | apply below_alloc | apply pw_below_drewN | apply below_drew1 | refine below_set ?_ GE240.out | refine below_set ?_ GE255.out | refine below_set ?_ GE262.out | refine below_set ?_ GE270.out) | exact HB.out))) : w.heap.size ≤ gb300)); have n18_ := Aside0.mk ((by rw [hg]; exact Nat.ne_of_lt (blk_lt (g := gb240) (o := .cells #[.slice A0_0 l0_0.length c0_0, .slice A0_1 l0_1.length c0_1] 24 (0, 0)) (by (with_reducible repeat (first | refine blk_drewN ?_ _ | refine blk_drew ?_ | refine blk_alloc ?_ _)); exact BK240.out)) : gb240 ≠ gb300)); have n19_ := Aside0.mk ((by rw [hg]; exact Nat.ne_of_gt (blk_lt (g := gb240) (o := .cells #[.slice A0_0 l0_0.length c0_0, .slice A0_1 l0_1.length c0_1] 24 (0, 0)) (by (with_reducible repeat (first | refine blk_drewN ?_ _ | refine blk_drew ?_ | refine blk_alloc ?_ _)); exact BK240.out)) : gb300 ≠ gb240)); have n20_ := Aside0.mk ((by rw [hg]; exact Nat.ne_of_lt (blk_lt (g := gb255) (o := .cells #[.int .i64 t248, .slice Ao22 t249.length co22, .slice Ao23 t252.length co23] 46 (0, 0)) (by (with_reducible repeat (first | refine blk_drewN ?_ _ | refine blk_drew ?_ | refine blk_alloc ?_ _)); exact BK255.out)) : gb255 ≠ gb300)); have n21_ := Aside0.mk ((by rw [hg]; exact Nat.ne_of_gt (blk_lt (g := gb255) (o := .cells #[.int .i64 t248, .slice Ao22 t249.length co22, .slice Ao23 t252.length co23] 46 (0, 0)) (by (with_reducible repeat (first | refine blk_drewN ?_ _ | refine blk_drew ?_ | refine blk_alloc ?_ _)); exact BK255.out)) : gb300 ≠ gb255)); have n22_ := Aside0.mk ((by rw [hg]; exact Nat.ne_of_lt (blk_lt (g := gb262) (o := .cells #[.slice Ao27 t280.length co27, .slice Ao31 t281.length co31] 27 (0, 0)) (by (with_reducible repeat (first | refine blk_drewN ?_ _ | refine blk_drew ?_ | refine blk_alloc ?_ _)); exact BK262.out)) : gb262 ≠ gb300)); have n23_ := Aside0.mk ((by rw [hg]; exact Nat.ne_of_gt (blk_lt (g := gb262) (o := .cells #[.slice Ao27 t280.length co27, .slice Ao31 t281.length co31] 27 (0, 0)) (by (with_reducible repeat (first | refine blk_drewN ?_ _ | refine blk_drew ?_ | refine blk_alloc ?_ _)); exact BK262.out)) : gb300 ≠ gb262)); have n24_ := Aside0.mk ((by rw [hg]; exact Nat.ne_of_lt (blk_lt (g := gb270) (o := .cells #[.int .i64 t263, .slice Ao38 t284.length co38, .slice Ao39 t285.length co39] 46 (0, 0)) (by (with_reducible repeat (first | refine blk_drewN ?_ _ | refine blk_drew ?_ | refine blk_alloc ?_ _)); exact BK270.out)) : gb270 ≠ gb300)); have n25_ := Aside0.mk ((by rw [hg]; exact Nat.ne_of_gt (blk_lt (g := gb270) (o := .cells #[.int .i64 t263, .slice Ao38 t284.length co38, .slice Ao39 t285.length co39] 46 (0, 0)) (by (with_reducible repeat (first | refine blk_drewN ?_ _ | refine blk_drew ?_ | refine blk_alloc ?_ _)); exact BK270.out)) : gb300 ≠ gb270)); clear HO_256001; clear HO_256002; clear HO_263000; clear HO_263001; clear HO_271001; clear HO_271002; clear HO289; clear HO292; clear HO296; clear HO299; clear BK240; clear BK255; clear BK262; clear BK270; clear HB; have HO_256001 := n0_; have HO_256002 := n1_; have HO_263000 := n2_; have HO_263001 := n3_; have HO_271001 := n4_; have HO_271002 := n5_; have HO289 := n6_; have HO292 := n7_; have HO296 := n8_; have HO299 := n9_; have BK240 := n10_; have BK255 := n11_; have BK262 := n12_; have BK270 := n13_; have HB := n14_; have BK300 := n15_; have GW300 := n16_; have GE300 := n17_; have NB240_300 := n18_; have NB300_240 := n19_; have NB255_300 := n20_; have NB300_255 := n21_; have NB262_300 := n22_; have NB300_262 := n23_; have NB270_300 := n24_; have NB300_270 := n25_; clear n0_ n1_ n2_ n3_ n4_ n5_ n6_ n7_ n8_ n9_ n10_ n11_ n12_ n13_ n14_ n15_ n16_ n17_ n18_ n19_ n20_ n21_ n22_ n23_ n24_ n25_; clear hb hbox hg; have hnb97 := NB300_240.out; have hnc97 := NB240_300.out; have hnb98 := NB300_255.out; have hnc98 := NB255_300.out; have hnb99 := NB300_262.out; have hnc99 := NB262_300.out; have hnb100 := NB300_270.out; have hnc100 := NB270_300.out; have hcz101_0 : w96.cell? ⟨gb300, 0, none⟩ = some (.int .i64 0) := (blk_cell BK300.out 0).trans rfl; have hcz101_1 : w96.cell? ⟨gb300, 1, none⟩ = some (.slice none 0 0) := (blk_cell BK300.out 1).trans rfl; have hcz101_2 : w96.cell? ⟨gb300, 2, none⟩ = some (.slice none 0 0) := (blk_cell BK300.out 2).trans rfl; have hfz101_0 := blk_frozen BK300.out 0; have hfz101_1 := blk_frozen BK300.out 1; have hfz101_2 := blk_frozen BK300.out 2; obtain ⟨Ao102, co102, eo102⟩ := Kd.R_slice HO296.out; subst eo102; obtain ⟨Ao103, co103, eo103⟩ := Kd.R_slice HO299.out; subst eo103; have hnb104 := NB255_262.out; have hnc104 := NB262_255.out; have hnb105 := NB255_270.out; have hnc105 := NB270_255.out; have hcz106_0 : w96.cell? ⟨gb255, 0, none⟩ = some (.int .i64 t248) := (blk_cell BK255.out 0).trans rfl; have hcz106_1 : w96.cell? ⟨gb255, 1, none⟩ = some (.slice Ao22 t249.length co22) := (blk_cell BK255.out 1).trans rfl; have hcz106_2 : w96.cell? ⟨gb255, 2, none⟩ = some (.slice Ao23 t252.length co23) := (blk_cell BK255.out 2).trans rfl; have hfz106_0 := blk_frozen BK255.out 0; have hfz106_1 := blk_frozen BK255.out 1; have hfz106_2 := blk_frozen BK255.out 2) | ((with_reducible refine gate_callee (f := 33) rfl ?_); refine goesL_ (some 59) rfl rfl Try.func33 (by kernel_rfl) rfl #[.agg #[.int .i64 t293, .slice Ao102 t294.length co102, .slice Ao103 t297.length co103], .agg #[.int .i64 t248, .slice Ao22 t249.length co22, .slice Ao23 t252.length co23]] rfl (by (try simp only [List.map_toArray, List.map_cons, List.map_nil]); first | done | rfl | (simp only [List.length_drop, List.length_take]; rfl)) ?_; (with_reducible refine (laws_eqLogResult.calls kj81 t293 _ _ t294 _ _ t297 t248 _ _ t249 _ _ t252 t301 _ ?side1 ?side2 ?side3 ?side4 ?side5 ?side6 ?side7 ?side8 A86.out).mono ?_); (case side1 => refine (Kd.R_reads' (e := 5) (base := w.heap.size) (ok := fun k_ => ((((((((some k_ ≠ (.slice Ao103 t297.length co103 : Value).ownBlock ∧ some k_ ≠ (.slice Ao22 t249.length co22 : Value).ownBlock) ∧ some k_ ≠ (.slice Ao23 t252.length co23 : Value).ownBlock) ∧ some k_ ≠ (.slice Ao27 t280.length co27 : Value).ownBlock) ∧ some k_ ≠ (.slice Ao31 t281.length co31 : Value).ownBlock) ∧ some k_ ≠ (.slice Ao38 t284.length co38 : Value).ownBlock) ∧ some k_ ≠ (.slice Ao39 t285.length co39 : Value).ownBlock) ∧ some k_ ≠ (.slice Ao93 t287.length co93 : Value).ownBlock) ∧ some k_ ≠ (.slice Ao94 t290.length co94 : Value).ownBlock)) (n := t294.length) (c := co102) ?_).2.2; exact (by (with_reducible repeat (first | apply Kd.R_alloc | apply Kd.R_drewN | apply Kd.R_drew)); exact (Kd.R_mono (Kd.R_far (p := ⟨gb300, 2, none⟩) (Kd.R_far (p := ⟨gb300, 1, none⟩) (Kd.R_far (p := ⟨gb300, 0, none⟩) (Kd.R_types HO296.out BK300.out (by decide)) (fun _ hk => hk.2) (.int .i64 t293)) (fun _ hk => hk.2) (.slice Ao102 t294.length co102)) (fun _ hk => hk.2) (.slice Ao103 t297.length co103)) (fun _ h_ => h_.1)))); (case side2 => exact (Kd.R_reads' HO296.out).2.1); (case side3 => refine (Kd.R_reads' (e := 5) (base := w.heap.size) (ok := fun k_ => ((((((((some k_ ≠ (.slice Ao102 t294.length co102 : Value).ownBlock ∧ some k_ ≠ (.slice Ao22 t249.length co22 : Value).ownBlock) ∧ some k_ ≠ (.slice Ao23 t252.length co23 : Value).ownBlock) ∧ some k_ ≠ (.slice Ao27 t280.length co27 : Value).ownBlock) ∧ some k_ ≠ (.slice Ao31 t281.length co31 : Value).ownBlock) ∧ some k_ ≠ (.slice Ao38 t284.length co38 : Value).ownBlock) ∧ some k_ ≠ (.slice Ao39 t285.length co39 : Value).ownBlock) ∧ some k_ ≠ (.slice Ao93 t287.length co93 : Value).ownBlock) ∧ some k_ ≠ (.slice Ao94 t290.length co94 : Value).ownBlock)) (n := t297.length) (c := co103) ?_).2.2; exact (by (with_reducible repeat (first | apply Kd.R_alloc | apply Kd.R_drewN | apply Kd.R_drew)); exact (Kd.R_mono (Kd.R_far (p := ⟨gb300, 2, none⟩) (Kd.R_far (p := ⟨gb300, 1, none⟩) (Kd.R_far (p := ⟨gb300, 0, none⟩) (Kd.R_types HO299.out BK300.out (by decide)) (fun _ hk => hk.2) (.int .i64 t293)) (fun _ hk => hk.2) (.slice Ao102 t294.length co102)) (fun _ hk => hk.2) (.slice Ao103 t297.length co103)) (fun _ h_ => h_.1)))); (case side4 => exact (Kd.R_reads' HO299.out).2.1); (case side5 => refine (Kd.R_reads' (e := 5) (base := w.heap.size) (ok := fun k_ => (((((some k_ ≠ (.slice Ao23 t252.length co23 : Value).ownBlock ∧ (some k_ ≠ (.slice Ao27 t280.length co27 : Value).ownBlock ∧ (some k_ ≠ (.slice Ao31 t281.length co31 : Value).ownBlock ∧ (some k_ ≠ (.slice Ao38 t284.length co38 : Value).ownBlock ∧ some k_ ≠ (.slice Ao39 t285.length co39 : Value).ownBlock)))) ∧ some k_ ≠ (.slice Ao93 t287.length co93 : Value).ownBlock) ∧ some k_ ≠ (.slice Ao94 t290.length co94 : Value).ownBlock) ∧ some k_ ≠ (.slice Ao102 t294.length co102 : Value).ownBlock) ∧ some k_ ≠ (.slice Ao103 t297.length co103 : Value).ownBlock)) (n := t249.length) (c := co22) ?_).2.2; exact (by (with_reducible repeat (first | apply Kd.R_alloc | apply Kd.R_drewN | apply Kd.R_drew)); exact (Kd.R_mono (Kd.R_far (p := ⟨gb300, 2, none⟩) (Kd.R_far (p := ⟨gb300, 1, none⟩) (Kd.R_far (p := ⟨gb300, 0, none⟩) (Kd.R_types HO_256001.out BK300.out (by decide)) (fun _ hk => hk.2) (.int .i64 t293)) (fun _ hk => hk.2) (.slice Ao102 t294.length co102)) (fun _ hk => hk.2) (.slice Ao103 t297.length co103)) (fun _ h_ => h_.1)))); (case side6 => exact (Kd.R_reads' HO_256001.out).2.1); (case side7 => refine (Kd.R_reads' (e := 5) (base := w.heap.size) (ok := fun k_ => (((((some k_ ≠ (.slice Ao22 t249.length co22 : Value).ownBlock ∧ (some k_ ≠ (.slice Ao27 t280.length co27 : Value).ownBlock ∧ (some k_ ≠ (.slice Ao31 t281.length co31 : Value).ownBlock ∧ (some k_ ≠ (.slice Ao38 t284.length co38 : Value).ownBlock ∧ some k_ ≠ (.slice Ao39 t285.length co39 : Value).ownBlock)))) ∧ some k_ ≠ (.slice Ao93 t287.length co93 : Value).ownBlock) ∧ some k_ ≠ (.slice Ao94 t290.length co94 : Value).ownBlock) ∧ some k_ ≠ (.slice Ao102 t294.length co102 : Value).ownBlock) ∧ some k_ ≠ (.slice Ao103 t297.length co103 : Value).ownBlock)) (n := t252.length) (c := co23) ?_).2.2; exact (by (with_reducible repeat (first | apply Kd.R_alloc | apply Kd.R_drewN | apply Kd.R_drew)); exact (Kd.R_mono (Kd.R_far (p := ⟨gb300, 2, none⟩) (Kd.R_far (p := ⟨gb300, 1, none⟩) (Kd.R_far (p := ⟨gb300, 0, none⟩) (Kd.R_types HO_256002.out BK300.out (by decide)) (fun _ hk => hk.2) (.int .i64 t293)) (fun _ hk => hk.2) (.slice Ao102 t294.length co102)) (fun _ hk => hk.2) (.slice Ao103 t297.length co103)) (fun _ h_ => h_.1)))); (case side8 => exact (Kd.R_reads' HO_256002.out).2.1); rintro e w107 ⟨rfl, hb⟩; refine ⟨_, rfl, ?_⟩; have n0_ := Aside0.mk (Kd.R_below (by (with_reducible repeat (first | apply Kd.R_alloc | apply Kd.R_drewN | apply Kd.R_drew)); exact (Kd.R_mono (Kd.R_far (p := ⟨gb300, 2, none⟩) (Kd.R_far (p := ⟨gb300, 1, none⟩) (Kd.R_far (p := ⟨gb300, 0, none⟩) (Kd.R_types HO_256001.out BK300.out (by decide)) (fun _ hk => hk.2) (.int .i64 t293)) (fun _ hk => hk.2) (.slice Ao102 t294.length co102)) (fun _ hk => hk.2) (.slice Ao103 t297.length co103)) (fun _ h_ => h_.1))) hb); have n1_ := Aside0.mk (Kd.R_below (by (with_reducible repeat (first | apply Kd.R_alloc | apply Kd.R_drewN | apply Kd.R_drew)); exact (Kd.R_mono (Kd.R_far (p := ⟨gb300, 2, none⟩) (Kd.R_far (p := ⟨gb300, 1, none⟩) (Kd.R_far (p := ⟨gb300, 0, none⟩) (Kd.R_types HO_256002.out BK300.out (by decide)) (fun _ hk => hk.2) (.int .i64 t293)) (fun _ hk => hk.2) (.slice Ao102 t294.length co102)) (fun _ hk => hk.2) (.slice Ao103 t297.length co103)) (fun _ h_ => h_.1))) hb); have n2_ := Aside0.mk (Kd.R_below (by (with_reducible repeat (first | apply Kd.R_alloc | apply Kd.R_drewN | apply Kd.R_drew)); exact (Kd.R_mono (Kd.R_far (p := ⟨gb300, 2, none⟩) (Kd.R_far (p := ⟨gb300, 1, none⟩) (Kd.R_far (p := ⟨gb300, 0, none⟩) (Kd.R_types HO_263000.out BK300.out (by decide)) (fun _ hk => hk.2) (.int .i64 t293)) (fun _ hk => hk.2) (.slice Ao102 t294.length co102)) (fun _ hk => hk.2) (.slice Ao103 t297.length co103)) (fun _ h_ => h_.1))) hb); have n3_ := Aside0.mk (Kd.R_below (by (with_reducible repeat (first | apply Kd.R_alloc | apply Kd.R_drewN | apply Kd.R_drew)); exact (Kd.R_mono (Kd.R_far (p := ⟨gb300, 2, none⟩) (Kd.R_far (p := ⟨gb300, 1, none⟩) (Kd.R_far (p := ⟨gb300, 0, none⟩) (Kd.R_types HO_263001.out BK300.out (by decide)) (fun _ hk => hk.2) (.int .i64 t293)) (fun _ hk => hk.2) (.slice Ao102 t294.length co102)) (fun _ hk => hk.2) (.slice Ao103 t297.length co103)) (fun _ h_ => h_.1))) hb); have n4_ := Aside0.mk (Kd.R_below (by (with_reducible repeat (first | apply Kd.R_alloc | apply Kd.R_drewN | apply Kd.R_drew)); exact (Kd.R_mono (Kd.R_far (p := ⟨gb300, 2, none⟩) (Kd.R_far (p := ⟨gb300, 1, none⟩) (Kd.R_far (p := ⟨gb300, 0, none⟩) (Kd.R_types HO_271001.out BK300.out (by decide)) (fun _ hk => hk.2) (.int .i64 t293)) (fun _ hk => hk.2) (.slice Ao102 t294.length co102)) (fun _ hk => hk.2) (.slice Ao103 t297.length co103)) (fun _ h_ => h_.1))) hb); have n5_ := Aside0.mk (Kd.R_below (by (with_reducible repeat (first | apply Kd.R_alloc | apply Kd.R_drewN | apply Kd.R_drew)); exact (Kd.R_mono (Kd.R_far (p := ⟨gb300, 2, none⟩) (Kd.R_far (p := ⟨gb300, 1, none⟩) (Kd.R_far (p := ⟨gb300, 0, none⟩) (Kd.R_types HO_271002.out BK300.out (by decide)) (fun _ hk => hk.2) (.int .i64 t293)) (fun _ hk => hk.2) (.slice Ao102 t294.length co102)) (fun _ hk => hk.2) (.slice Ao103 t297.length co103)) (fun _ h_ => h_.1))) hb); have n6_ := Aside0.mk (Kd.R_below (by (with_reducible repeat (first | apply Kd.R_alloc | apply Kd.R_drewN | apply Kd.R_drew)); exact (Kd.R_mono (Kd.R_far (p := ⟨gb300, 2, none⟩) (Kd.R_far (p := ⟨gb300, 1, none⟩) (Kd.R_far (p := ⟨gb300, 0, none⟩) (Kd.R_types HO289.out BK300.out (by decide)) (fun _ hk => hk.2) (.int .i64 t293)) (fun _ hk => hk.2) (.slice Ao102 t294.length co102)) (fun _ hk => hk.2) (.slice Ao103 t297.length co103)) (fun _ h_ => h_.1))) hb); have n7_ := Aside0.mk (Kd.R_below (by (with_reducible repeat (first | apply Kd.R_alloc | apply Kd.R_drewN | apply Kd.R_drew)); exact (Kd.R_mono (Kd.R_far (p := ⟨gb300, 2, none⟩) (Kd.R_far (p := ⟨gb300, 1, none⟩) (Kd.R_far (p := ⟨gb300, 0, none⟩) (Kd.R_types HO292.out BK300.out (by decide)) (fun _ hk => hk.2) (.int .i64 t293)) (fun _ hk => hk.2) (.slice Ao102 t294.length co102)) (fun _ hk => hk.2) (.slice Ao103 t297.length co103)) (fun _ h_ => h_.1))) hb); have n8_ := Aside0.mk (Kd.R_below (by (with_reducible repeat (first | apply Kd.R_alloc | apply Kd.R_drewN | apply Kd.R_drew)); exact (Kd.R_mono (Kd.R_far (p := ⟨gb300, 2, none⟩) (Kd.R_far (p := ⟨gb300, 1, none⟩) (Kd.R_far (p := ⟨gb300, 0, none⟩) (Kd.R_types HO296.out BK300.out (by decide)) (fun _ hk => hk.2) (.int .i64 t293)) (fun _ hk => hk.2) (.slice Ao102 t294.length co102)) (fun _ hk => hk.2) (.slice Ao103 t297.length co103)) (fun _ h_ => h_.1))) hb); have n9_ := Aside0.mk (Kd.R_below (by (with_reducible repeat (first | apply Kd.R_alloc | apply Kd.R_drewN | apply Kd.R_drew)); exact (Kd.R_mono (Kd.R_far (p := ⟨gb300, 2, none⟩) (Kd.R_far (p := ⟨gb300, 1, none⟩) (Kd.R_far (p := ⟨gb300, 0, none⟩) (Kd.R_types HO299.out BK300.out (by decide)) (fun _ hk => hk.2) (.int .i64 t293)) (fun _ hk => hk.2) (.slice Ao102 t294.length co102)) (fun _ hk => hk.2) (.slice Ao103 t297.length co103)) (fun _ h_ => h_.1))) hb); have n10_ := Aside0.mk (blk_below (g := gb240) (o := .cells #[.slice A0_0 l0_0.length c0_0, .slice A0_1 l0_1.length c0_1] 24 (0, 0)) (by (with_reducible repeat (first | refine blk_drewN ?_ _ | refine blk_drew ?_ | refine blk_alloc ?_ _)); refine blk_far ?_ NB240_300.out _; (with_reducible repeat (first | refine blk_drewN ?_ _ | refine blk_drew ?_ | refine blk_alloc ?_ _)); refine blk_far ?_ NB240_300.out _; (with_reducible repeat (first | refine blk_drewN ?_ _ | refine blk_drew ?_ | refine blk_alloc ?_ _)); refine blk_far ?_ NB240_300.out _; (with_reducible repeat (first | refine blk_drewN ?_ _ | refine blk_drew ?_ | refine blk_alloc ?_ _)); exact BK240.out) hb); have n11_ := Aside0.mk (blk_below (g := gb255) (o := .cells #[.int .i64 t248, .slice Ao22 t249.length co22, .slice Ao23 t252.length co23] 46 (0, 0)) (by (with_reducible repeat (first | refine blk_drewN ?_ _ | refine blk_drew ?_ | refine blk_alloc ?_ _)); refine blk_far ?_ NB255_300.out _; (with_reducible repeat (first | refine blk_drewN ?_ _ | refine blk_drew ?_ | refine blk_alloc ?_ _)); refine blk_far ?_ NB255_300.out _; (with_reducible repeat (first | refine blk_drewN ?_ _ | refine blk_drew ?_ | refine blk_alloc ?_ _)); refine blk_far ?_ NB255_300.out _; (with_reducible repeat (first | refine blk_drewN ?_ _ | refine blk_drew ?_ | refine blk_alloc ?_ _)); exact BK255.out) hb); have n12_ := Aside0.mk (blk_below (g := gb262) (o := .cells #[.slice Ao27 t280.length co27, .slice Ao31 t281.length co31] 27 (0, 0)) (by (with_reducible repeat (first | refine blk_drewN ?_ _ | refine blk_drew ?_ | refine blk_alloc ?_ _)); refine blk_far ?_ NB262_300.out _; (with_reducible repeat (first | refine blk_drewN ?_ _ | refine blk_drew ?_ | refine blk_alloc ?_ _)); refine blk_far ?_ NB262_300.out _; (with_reducible repeat (first | refine blk_drewN ?_ _ | refine blk_drew ?_ | refine blk_alloc ?_ _)); refine blk_far ?_ NB262_300.out _; (with_reducible repeat (first | refine blk_drewN ?_ _ | refine blk_drew ?_ | refine blk_alloc ?_ _)); exact BK262.out) hb); have n13_ := Aside0.mk (blk_below (g := gb270) (o := .cells #[.int .i64 t263, .slice Ao38 t284.length co38, .slice Ao39 t285.length co39] 46 (0, 0)) (by (with_reducible repeat (first | refine blk_drewN ?_ _ | refine blk_drew ?_ | refine blk_alloc ?_ _)); refine blk_far ?_ NB270_300.out _; (with_reducible repeat (first | refine blk_drewN ?_ _ | refine blk_drew ?_ | refine blk_alloc ?_ _)); refine blk_far ?_ NB270_300.out _; (with_reducible repeat (first | refine blk_drewN ?_ _ | refine blk_drew ?_ | refine blk_alloc ?_ _)); refine blk_far ?_ NB270_300.out _; (with_reducible repeat (first | refine blk_drewN ?_ _ | refine blk_drew ?_ | refine blk_alloc ?_ _)); exact BK270.out) hb); have n14_ := Aside0.mk (blk_below (g := gb300) (o := .cells #[.int .i64 t293, .slice Ao102 t294.length co102, .slice Ao103 t297.length co103] 46 (0, 0)) (by (with_reducible repeat (first | refine blk_drewN ?_ _ | refine blk_drew ?_ | refine blk_alloc ?_ _)); refine blk_put (cs := #[.int .i64 t293, .slice Ao102 t294.length co102, .slice none 0 0]) ?_ 2 _ rfl; (with_reducible repeat (first | refine blk_drewN ?_ _ | refine blk_drew ?_ | refine blk_alloc ?_ _)); refine blk_put (cs := #[.int .i64 t293, .slice none 0 0, .slice none 0 0]) ?_ 1 _ rfl; (with_reducible repeat (first | refine blk_drewN ?_ _ | refine blk_drew ?_ | refine blk_alloc ?_ _)); refine blk_put (cs := #[.int .i64 0, .slice none 0 0, .slice none 0 0]) ?_ 0 _ rfl; (with_reducible repeat (first | refine blk_drewN ?_ _ | refine blk_drew ?_ | refine blk_alloc ?_ _)); exact BK300.out) hb); have n15_ := Aside0.mk (below_step (by repeat (first | (with_reducible first | exact HB.out | apply below_alloc | apply pw_below_drewN | apply below_drew1 | refine below_set ?_ GE240.out | refine below_set ?_ GE255.out | refine below_set ?_ GE262.out | refine below_set ?_ GE270.out | refine below_set ?_ GE300.out) | exact HB.out)) hb); clear HO_256001; clear HO_256002; clear HO_263000; clear HO_263001; clear HO_271001; clear HO_271002; clear HO289; clear HO292; clear HO296; clear HO299; clear BK240; clear BK255; clear BK262; clear BK270; clear BK300; clear HB; have HO_256001 := n0_; have HO_256002 := n1_; have HO_263000 := n2_; have HO_263001 := n3_; have HO_271001 := n4_; have HO_271002 := n5_; have HO289 := n6_; have HO292 := n7_; have HO296 := n8_; have HO299 := n9_; have BK240 := n10_; have BK255 := n11_; have BK262 := n12_; have BK270 := n13_; have BK300 := n14_; have HB := n15_; clear n0_ n1_ n2_ n3_ n4_ n5_ n6_ n7_ n8_ n9_ n10_ n11_ n12_ n13_ n14_ n15_; (try clear hb); (try clear hb2); (try clear hk); (try clear hi)))
                              (try simp only [Act.put, List.setIfInBounds_toArray, List.set_cons_zero, List.set_cons_succ])
                              go_cut [] (fun wc => ∃ (kq : Nat), Aside0 (laws_FnExactTrimLog.j7 kq t283 t263 t284 t285 = some r) ∧ Aside0 (kq ≤ kj81) ∧ Aside0 (Kd.R (Kd.int .u8) 5 wc w.heap.size (fun k_ => some k_ ≠ ((.slice Ao23 t252.length co23) : Value).ownBlock ∧ some k_ ≠ ((.slice Ao27 t280.length co27) : Value).ownBlock ∧ some k_ ≠ ((.slice Ao31 t281.length co31) : Value).ownBlock ∧ some k_ ≠ ((.slice Ao38 t284.length co38) : Value).ownBlock ∧ some k_ ≠ ((.slice Ao39 t285.length co39) : Value).ownBlock ∧ some k_ ≠ ((.slice Ao102 t294.length co102) : Value).ownBlock ∧ some k_ ≠ ((.slice Ao103 t297.length co103) : Value).ownBlock) (.slice Ao22 t249.length co22) t249) ∧ Aside0 (Kd.R (Kd.int .u8) 5 wc w.heap.size (fun k_ => some k_ ≠ ((.slice Ao22 t249.length co22) : Value).ownBlock ∧ some k_ ≠ ((.slice Ao27 t280.length co27) : Value).ownBlock ∧ some k_ ≠ ((.slice Ao31 t281.length co31) : Value).ownBlock ∧ some k_ ≠ ((.slice Ao38 t284.length co38) : Value).ownBlock ∧ some k_ ≠ ((.slice Ao39 t285.length co39) : Value).ownBlock ∧ some k_ ≠ ((.slice Ao102 t294.length co102) : Value).ownBlock ∧ some k_ ≠ ((.slice Ao103 t297.length co103) : Value).ownBlock) (.slice Ao23 t252.length co23) t252) ∧ Aside0 (Kd.R (Kd.int .u8) 5 wc w.heap.size (fun k_ => some k_ ≠ ((.slice Ao22 t249.length co22) : Value).ownBlock ∧ some k_ ≠ ((.slice Ao23 t252.length co23) : Value).ownBlock ∧ some k_ ≠ ((.slice Ao31 t281.length co31) : Value).ownBlock ∧ some k_ ≠ ((.slice Ao38 t284.length co38) : Value).ownBlock ∧ some k_ ≠ ((.slice Ao39 t285.length co39) : Value).ownBlock ∧ some k_ ≠ ((.slice Ao102 t294.length co102) : Value).ownBlock ∧ some k_ ≠ ((.slice Ao103 t297.length co103) : Value).ownBlock) (.slice Ao27 t280.length co27) t280) ∧ Aside0 (Kd.R (Kd.int .u8) 5 wc w.heap.size (fun k_ => some k_ ≠ ((.slice Ao22 t249.length co22) : Value).ownBlock ∧ some k_ ≠ ((.slice Ao23 t252.length co23) : Value).ownBlock ∧ some k_ ≠ ((.slice Ao27 t280.length co27) : Value).ownBlock ∧ some k_ ≠ ((.slice Ao38 t284.length co38) : Value).ownBlock ∧ some k_ ≠ ((.slice Ao39 t285.length co39) : Value).ownBlock ∧ some k_ ≠ ((.slice Ao102 t294.length co102) : Value).ownBlock ∧ some k_ ≠ ((.slice Ao103 t297.length co103) : Value).ownBlock) (.slice Ao31 t281.length co31) t281) ∧ Aside0 (Kd.R (Kd.int .u8) 5 wc w.heap.size (fun k_ => some k_ ≠ ((.slice Ao22 t249.length co22) : Value).ownBlock ∧ some k_ ≠ ((.slice Ao23 t252.length co23) : Value).ownBlock ∧ some k_ ≠ ((.slice Ao27 t280.length co27) : Value).ownBlock ∧ some k_ ≠ ((.slice Ao31 t281.length co31) : Value).ownBlock ∧ some k_ ≠ ((.slice Ao39 t285.length co39) : Value).ownBlock ∧ some k_ ≠ ((.slice Ao102 t294.length co102) : Value).ownBlock ∧ some k_ ≠ ((.slice Ao103 t297.length co103) : Value).ownBlock) (.slice Ao38 t284.length co38) t284) ∧ Aside0 (Kd.R (Kd.int .u8) 5 wc w.heap.size (fun k_ => some k_ ≠ ((.slice Ao22 t249.length co22) : Value).ownBlock ∧ some k_ ≠ ((.slice Ao23 t252.length co23) : Value).ownBlock ∧ some k_ ≠ ((.slice Ao27 t280.length co27) : Value).ownBlock ∧ some k_ ≠ ((.slice Ao31 t281.length co31) : Value).ownBlock ∧ some k_ ≠ ((.slice Ao38 t284.length co38) : Value).ownBlock ∧ some k_ ≠ ((.slice Ao102 t294.length co102) : Value).ownBlock ∧ some k_ ≠ ((.slice Ao103 t297.length co103) : Value).ownBlock) (.slice Ao39 t285.length co39) t285) ∧ Aside0 (Kd.R (Kd.int .u8) 5 wc w.heap.size (fun k_ => some k_ ≠ ((.slice Ao22 t249.length co22) : Value).ownBlock ∧ some k_ ≠ ((.slice Ao23 t252.length co23) : Value).ownBlock ∧ some k_ ≠ ((.slice Ao27 t280.length co27) : Value).ownBlock ∧ some k_ ≠ ((.slice Ao31 t281.length co31) : Value).ownBlock ∧ some k_ ≠ ((.slice Ao38 t284.length co38) : Value).ownBlock ∧ some k_ ≠ ((.slice Ao39 t285.length co39) : Value).ownBlock ∧ some k_ ≠ ((.slice Ao103 t297.length co103) : Value).ownBlock) (.slice Ao102 t294.length co102) t294) ∧ Aside0 (Kd.R (Kd.int .u8) 5 wc w.heap.size (fun k_ => some k_ ≠ ((.slice Ao22 t249.length co22) : Value).ownBlock ∧ some k_ ≠ ((.slice Ao23 t252.length co23) : Value).ownBlock ∧ some k_ ≠ ((.slice Ao27 t280.length co27) : Value).ownBlock ∧ some k_ ≠ ((.slice Ao31 t281.length co31) : Value).ownBlock ∧ some k_ ≠ ((.slice Ao38 t284.length co38) : Value).ownBlock ∧ some k_ ≠ ((.slice Ao39 t285.length co39) : Value).ownBlock ∧ some k_ ≠ ((.slice Ao102 t294.length co102) : Value).ownBlock) (.slice Ao103 t297.length co103) t297) ∧ Aside0 (wc.heap[gb240]? = some (.cells #[(.slice A0_0 l0_0.length c0_0), (.slice A0_1 l0_1.length c0_1)] 24 (0, 0))) ∧ Aside0 (wc.heap[gb255]? = some (.cells #[.int .i64 t248, (.slice Ao22 t249.length co22), (.slice Ao23 t252.length co23)] 46 (0, 0))) ∧ Aside0 (wc.heap[gb262]? = some (.cells #[(.slice Ao27 t280.length co27), (.slice Ao31 t281.length co31)] 27 (0, 0))) ∧ Aside0 (wc.heap[gb270]? = some (.cells #[.int .i64 t263, (.slice Ao38 t284.length co38), (.slice Ao39 t285.length co39)] 46 (0, 0))) ∧ Aside0 (wc.heap[gb300]? = some (.cells #[.int .i64 t293, (.slice Ao102 t294.length co102), (.slice Ao103 t297.length co103)] 46 (0, 0))) ∧ Aside0 (Below w.heap.size w wc))
                              case first =>
                                have H := HC87.out
                                clear HC87
                                by_cases c108 : t301 = true
                                · subst c108
                                  have H1 : (laws_FnExactTrimLog.j7 kj81 t283 t263 t284 t285) = some r := by rw [if_pos rfl] at H; exact H
                                  clear H
                                  have H := H1
                                  clear H1
                                  have H' := Aside0.mk H
                                  clear H
                                  go_wp2
                                  go_meet
                                  case rel => exact ⟨_, H', ⟨by have := HJ2.out; have := HJ12.out; have := HJ44.out; have := HJ52.out; have := HJ68.out; have := HJ72.out; have := HJ81.out; first | omega | exact Nat.le_refl _⟩, ⟨by (try simp only [hl263000_52]); (try simp only [hl263001_52]); (try simp only [hl271001_72]); (try simp only [hl271002_72]); (with_reducible repeat (first | apply Kd.R_alloc | apply Kd.R_drewN | apply Kd.R_drew)); exact Kd.R_mono HO_256001.out (fun _ hk => ⟨hk.1.1.1.1.1, ⟨hk.1.1.1.1.2.1, ⟨hk.1.1.1.1.2.2.1, ⟨hk.1.1.1.1.2.2.2.1, ⟨hk.1.1.1.1.2.2.2.2, ⟨hk.1.2, hk.2⟩⟩⟩⟩⟩⟩)⟩, ⟨by (try simp only [hl263000_52]); (try simp only [hl263001_52]); (try simp only [hl271001_72]); (try simp only [hl271002_72]); (with_reducible repeat (first | apply Kd.R_alloc | apply Kd.R_drewN | apply Kd.R_drew)); exact Kd.R_mono HO_256002.out (fun _ hk => ⟨hk.1.1.1.1.1, ⟨hk.1.1.1.1.2.1, ⟨hk.1.1.1.1.2.2.1, ⟨hk.1.1.1.1.2.2.2.1, ⟨hk.1.1.1.1.2.2.2.2, ⟨hk.1.2, hk.2⟩⟩⟩⟩⟩⟩)⟩, ⟨by (try simp only [hl263000_52]); (try simp only [hl263001_52]); (try simp only [hl271001_72]); (try simp only [hl271002_72]); (with_reducible repeat (first | apply Kd.R_alloc | apply Kd.R_drewN | apply Kd.R_drew)); exact Kd.R_mono HO_263000.out (fun _ hk => ⟨hk.1.1.1.1.1, ⟨hk.1.1.1.1.2.1, ⟨hk.1.1.1.1.2.2.1, ⟨hk.1.1.1.1.2.2.2.1, ⟨hk.1.1.1.1.2.2.2.2, ⟨hk.1.2, hk.2⟩⟩⟩⟩⟩⟩)⟩, ⟨by (try simp only [hl263000_52]); (try simp only [hl263001_52]); (try simp only [hl271001_72]); (try simp only [hl271002_72]); (with_reducible repeat (first | apply Kd.R_alloc | apply Kd.R_drewN | apply Kd.R_drew)); exact Kd.R_mono HO_263001.out (fun _ hk => ⟨hk.1.1.1.1.1, ⟨hk.1.1.1.1.2.1, ⟨hk.1.1.1.1.2.2.1, ⟨hk.1.1.1.1.2.2.2.1, ⟨hk.1.1.1.1.2.2.2.2, ⟨hk.1.2, hk.2⟩⟩⟩⟩⟩⟩)⟩, ⟨by (try simp only [hl263000_52]); (try simp only [hl263001_52]); (try simp only [hl271001_72]); (try simp only [hl271002_72]); (with_reducible repeat (first | apply Kd.R_alloc | apply Kd.R_drewN | apply Kd.R_drew)); exact Kd.R_mono HO_271001.out (fun _ hk => ⟨hk.1.1.1.1.1, ⟨hk.1.1.1.1.2.1, ⟨hk.1.1.1.1.2.2.1, ⟨hk.1.1.1.1.2.2.2.1, ⟨hk.1.1.1.1.2.2.2.2, ⟨hk.1.2, hk.2⟩⟩⟩⟩⟩⟩)⟩, ⟨by (try simp only [hl263000_52]); (try simp only [hl263001_52]); (try simp only [hl271001_72]); (try simp only [hl271002_72]); (with_reducible repeat (first | apply Kd.R_alloc | apply Kd.R_drewN | apply Kd.R_drew)); exact Kd.R_mono HO_271002.out (fun _ hk => ⟨hk.1.1.1.1.1, ⟨hk.1.1.1.1.2.1, ⟨hk.1.1.1.1.2.2.1, ⟨hk.1.1.1.1.2.2.2.1, ⟨hk.1.1.1.1.2.2.2.2, ⟨hk.1.2, hk.2⟩⟩⟩⟩⟩⟩)⟩, ⟨by (try simp only [hl263000_52]); (try simp only [hl263001_52]); (try simp only [hl271001_72]); (try simp only [hl271002_72]); (with_reducible repeat (first | apply Kd.R_alloc | apply Kd.R_drewN | apply Kd.R_drew)); exact Kd.R_mono HO296.out (fun _ hk => ⟨hk.1.1.1.1.1.1.1.2, ⟨hk.1.1.1.1.1.1.2, ⟨hk.1.1.1.1.1.2, ⟨hk.1.1.1.1.2, ⟨hk.1.1.1.2, ⟨hk.1.1.2, hk.1.1.1.1.1.1.1.1⟩⟩⟩⟩⟩⟩)⟩, ⟨by (try simp only [hl263000_52]); (try simp only [hl263001_52]); (try simp only [hl271001_72]); (try simp only [hl271002_72]); (with_reducible repeat (first | apply Kd.R_alloc | apply Kd.R_drewN | apply Kd.R_drew)); exact Kd.R_mono HO299.out (fun _ hk => ⟨hk.1.1.1.1.1.1.1.2, ⟨hk.1.1.1.1.1.1.2, ⟨hk.1.1.1.1.1.2, ⟨hk.1.1.1.1.2, ⟨hk.1.1.1.2, ⟨hk.1.1.2, hk.1.1.1.1.1.1.1.1⟩⟩⟩⟩⟩⟩)⟩, ⟨by (try simp only [hl263000_52]); (try simp only [hl263001_52]); (try simp only [hl271001_72]); (try simp only [hl271002_72]); (with_reducible repeat (first | refine blk_drewN ?_ _ | refine blk_drew ?_ | refine blk_alloc ?_ _)); exact BK240.out⟩, ⟨by (try simp only [hl263000_52]); (try simp only [hl263001_52]); (try simp only [hl271001_72]); (try simp only [hl271002_72]); (with_reducible repeat (first | refine blk_drewN ?_ _ | refine blk_drew ?_ | refine blk_alloc ?_ _)); exact BK255.out⟩, ⟨by (try simp only [hl263000_52]); (try simp only [hl263001_52]); (try simp only [hl271001_72]); (try simp only [hl271002_72]); (with_reducible repeat (first | refine blk_drewN ?_ _ | refine blk_drew ?_ | refine blk_alloc ?_ _)); exact BK262.out⟩, ⟨by (try simp only [hl263000_52]); (try simp only [hl263001_52]); (try simp only [hl271001_72]); (try simp only [hl271002_72]); (with_reducible repeat (first | refine blk_drewN ?_ _ | refine blk_drew ?_ | refine blk_alloc ?_ _)); exact BK270.out⟩, ⟨by (try simp only [hl263000_52]); (try simp only [hl263001_52]); (try simp only [hl271001_72]); (try simp only [hl271002_72]); (with_reducible repeat (first | refine blk_drewN ?_ _ | refine blk_drew ?_ | refine blk_alloc ?_ _)); exact BK300.out⟩, ⟨by repeat (first | (with_reducible first | exact HB.out | apply below_alloc | apply pw_below_drewN | apply below_drew1 | refine below_set ?_ GE240.out | refine below_set ?_ GE255.out | refine below_set ?_ GE262.out | refine below_set ?_ GE270.out | refine below_set ?_ GE300.out) | exact HB.out)⟩⟩
                                · replace c108 := Bool.eq_false_iff.mpr c108
                                  subst c108
                                  have H1 : (some false) = some r := by rw [if_neg (show ¬ (false = true) by decide)] at H; exact H
                                  clear H
                                  have H := H1
                                  clear H1
                                  obtain rfl := Option.some.inj H
                                  go_wp2
                                  go_ret
                                  exact ⟨by first | rfl | (simp [errW_none, errW_some] <;> rfl) | (simp [*, errW_none, errW_some] <;> rfl), by repeat (first | (with_reducible first | exact HB.out | apply below_alloc | apply pw_below_drewN | apply below_drew1 | refine below_set ?_ GE240.out | refine below_set ?_ GE255.out | refine below_set ?_ GE262.out | refine below_set ?_ GE270.out | refine below_set ?_ GE300.out) | exact HB.out)⟩
                              case rest =>
                                clear HC87
                                try clear c1
                                try clear c2
                                try clear p2
                                try clear c3
                                try clear c4
                                try clear c5
                                try clear c6
                                try clear c7
                                try clear c7b0
                                try clear c8
                                try clear c9
                                try clear c10
                                try clear c14
                                try clear c16
                                try clear c18
                                try clear c20
                                try clear c28
                                try clear c29
                                try clear c33
                                try clear c34
                                try clear c35
                                try clear c36
                                try clear c42
                                try clear c43
                                try clear c44
                                try clear c51
                                try clear c54
                                try clear c55
                                try clear c56
                                try clear c59
                                try clear c59b0
                                try clear c61
                                try clear c62
                                try clear c63
                                try clear c65
                                try clear c66
                                try clear c70
                                try clear c74
                                try clear c75
                                try clear c76
                                try clear c81
                                try clear c81b0
                                try clear c83
                                try clear c83b0
                                try clear c83b1
                                try clear c88
                                try clear c89
                                try clear c90
                                try clear c97
                                try clear c98
                                try clear c99
                                try clear c100
                                try clear c104
                                try clear c105
                                try clear c108
                                try clear hcz101_0
                                try clear hcz101_1
                                try clear hcz101_2
                                try clear hcz106_0
                                try clear hcz106_1
                                try clear hcz106_2
                                try clear hcz14_0
                                try clear hcz14_1
                                try clear hcz21_0
                                try clear hcz21_1
                                try clear hcz21_2
                                try clear hcz24_0
                                try clear hcz24_1
                                try clear hcz30_0
                                try clear hcz30_1
                                try clear hcz37_0
                                try clear hcz37_1
                                try clear hcz37_2
                                try clear hcz40_0
                                try clear hcz40_1
                                try clear hcz40_2
                                try clear hcz57_0
                                try clear hcz57_1
                                try clear hcz5_0
                                try clear hcz5_1
                                try clear hcz64_0
                                try clear hcz64_1
                                try clear hcz64_2
                                try clear hcz67_0
                                try clear hcz67_1
                                try clear hcz67_2
                                try clear hcz77_0
                                try clear hcz77_1
                                try clear hcz77_2
                                try clear hcz79_0
                                try clear hcz79_1
                                try clear hcz79_2
                                try clear hcz91_0
                                try clear hcz91_1
                                try clear hfz101_0
                                try clear hfz101_1
                                try clear hfz101_2
                                try clear hfz106_0
                                try clear hfz106_1
                                try clear hfz106_2
                                try clear hfz14_0
                                try clear hfz14_1
                                try clear hfz21_0
                                try clear hfz21_1
                                try clear hfz21_2
                                try clear hfz24_0
                                try clear hfz24_1
                                try clear hfz30_0
                                try clear hfz30_1
                                try clear hfz37_0
                                try clear hfz37_1
                                try clear hfz37_2
                                try clear hfz40_0
                                try clear hfz40_1
                                try clear hfz40_2
                                try clear hfz57_0
                                try clear hfz57_1
                                try clear hfz5_0
                                try clear hfz5_1
                                try clear hfz64_0
                                try clear hfz64_1
                                try clear hfz64_2
                                try clear hfz67_0
                                try clear hfz67_1
                                try clear hfz67_2
                                try clear hfz77_0
                                try clear hfz77_1
                                try clear hfz77_2
                                try clear hfz79_0
                                try clear hfz79_1
                                try clear hfz79_2
                                try clear hfz91_0
                                try clear hfz91_1
                                try clear p2
                                obtain ⟨kq, HA, HJ86, HO_256001, HO_256002, HO_263000, HO_263001, HO_271001, HO_271002, HO_301001, HO_301002, BK240, BK255, BK262, BK270, BK300, HB⟩ := hcut
                                cases kq with
                                | zero => exact absurd HA.out (by simp [laws_FnExactTrimLog.j7])
                                | succ kj86 =>
                                  have H := HA.out
                                  clear HA
                                  simp only [laws_FnExactTrimLog.j7] at H
                                  replace H := Option.bind_eq_some_iff.mp H
                                  obtain ⟨t302, A1090, H⟩ := H
                                  replace H : (if t302 < 0 then (some false) else (if t302 = t283 then (some true) else (some false))) = some r := H
                                  have A109 := Aside0.mk A1090
                                  clear A1090
                                  by_cases c110 : t302 < 0
                                  · rw [if_pos c110] at H
                                    have c110b0 : decide (t302 < 0) = true := decide_eq_true c110
                                    clear c110
                                    obtain rfl := Option.some.inj H
                                    have hnb111 := NB270_240.out
                                    have hnc111 := NB240_270.out
                                    have hnb112 := NB270_255.out
                                    have hnc112 := NB255_270.out
                                    have hnb113 := NB270_262.out
                                    have hnc113 := NB262_270.out
                                    have hnb114 := NB270_300.out
                                    have hnc114 := NB300_270.out
                                    have hcz115_0 : wc.cell? ⟨gb270, 0, none⟩ = some (.int .i64 t263) := (blk_cell BK270.out 0).trans rfl
                                    have hcz115_1 : wc.cell? ⟨gb270, 1, none⟩ = some (.slice Ao38 t284.length co38) := (blk_cell BK270.out 1).trans rfl
                                    have hcz115_2 : wc.cell? ⟨gb270, 2, none⟩ = some (.slice Ao39 t285.length co39) := (blk_cell BK270.out 2).trans rfl
                                    have hfz115_0 := blk_frozen BK270.out 0
                                    have hfz115_1 := blk_frozen BK270.out 1
                                    have hfz115_2 := blk_frozen BK270.out 2
                                    go_wp2_with (first | ((with_reducible refine gate_callee (f := 36) rfl ?_); refine goesL_ (some 63) rfl rfl Try.func36 (by kernel_rfl) rfl #[.agg #[.int .i64 t263, .slice Ao38 t284.length co38, .slice Ao39 t285.length co39], .int .i64 1] rfl (by (try simp only [List.map_toArray, List.map_cons, List.map_nil]); first | done | rfl | (simp only [List.length_drop, List.length_take]; rfl)) ?_; (with_reducible refine (laws_heldLogResult.calls kj86 t263 _ _ t284 _ _ t285 1 t302 _ ?side1 ?side2 ?side3 ?side4 A109.out).mono ?_); (case side1 => repeat (first | exact (Kd.R_reads' HO_271001.out).2.2 | (with_reducible refine Kd.C_alloc ?_ _) | (with_reducible refine Kd.C_drewN ?_ _) | (with_reducible refine Kd.C_drew ?_))); (case side2 => exact (Kd.R_reads' HO_271001.out).2.1); (case side3 => repeat (first | exact (Kd.R_reads' HO_271002.out).2.2 | (with_reducible refine Kd.C_alloc ?_ _) | (with_reducible refine Kd.C_drewN ?_ _) | (with_reducible refine Kd.C_drew ?_))); (case side4 => exact (Kd.R_reads' HO_271002.out).2.1); rintro e w116 ⟨rfl, hb⟩; refine ⟨_, rfl, ?_⟩; have n0_ := Aside0.mk (Kd.R_below (by (with_reducible repeat (first | apply Kd.R_alloc | apply Kd.R_drewN | apply Kd.R_drew)); exact HO_256001.out) hb); have n1_ := Aside0.mk (Kd.R_below (by (with_reducible repeat (first | apply Kd.R_alloc | apply Kd.R_drewN | apply Kd.R_drew)); exact HO_256002.out) hb); have n2_ := Aside0.mk (Kd.R_below (by (with_reducible repeat (first | apply Kd.R_alloc | apply Kd.R_drewN | apply Kd.R_drew)); exact HO_263000.out) hb); have n3_ := Aside0.mk (Kd.R_below (by (with_reducible repeat (first | apply Kd.R_alloc | apply Kd.R_drewN | apply Kd.R_drew)); exact HO_263001.out) hb); have n4_ := Aside0.mk (Kd.R_below (by (with_reducible repeat (first | apply Kd.R_alloc | apply Kd.R_drewN | apply Kd.R_drew)); exact HO_271001.out) hb); have n5_ := Aside0.mk (Kd.R_below (by (with_reducible repeat (first | apply Kd.R_alloc | apply Kd.R_drewN | apply Kd.R_drew)); exact HO_271002.out) hb); have n6_ := Aside0.mk (Kd.R_below (by (with_reducible repeat (first | apply Kd.R_alloc | apply Kd.R_drewN | apply Kd.R_drew)); exact HO_301001.out) hb); have n7_ := Aside0.mk (Kd.R_below (by (with_reducible repeat (first | apply Kd.R_alloc | apply Kd.R_drewN | apply Kd.R_drew)); exact HO_301002.out) hb); have n8_ := Aside0.mk (blk_below (g := gb240) (o := .cells #[.slice A0_0 l0_0.length c0_0, .slice A0_1 l0_1.length c0_1] 24 (0, 0)) (by (with_reducible repeat (first | refine blk_drewN ?_ _ | refine blk_drew ?_ | refine blk_alloc ?_ _)); exact BK240.out) hb); have n9_ := Aside0.mk (blk_below (g := gb255) (o := .cells #[.int .i64 t248, .slice Ao22 t249.length co22, .slice Ao23 t252.length co23] 46 (0, 0)) (by (with_reducible repeat (first | refine blk_drewN ?_ _ | refine blk_drew ?_ | refine blk_alloc ?_ _)); exact BK255.out) hb); have n10_ := Aside0.mk (blk_below (g := gb262) (o := .cells #[.slice Ao27 t280.length co27, .slice Ao31 t281.length co31] 27 (0, 0)) (by (with_reducible repeat (first | refine blk_drewN ?_ _ | refine blk_drew ?_ | refine blk_alloc ?_ _)); exact BK262.out) hb); have n11_ := Aside0.mk (blk_below (g := gb270) (o := .cells #[.int .i64 t263, .slice Ao38 t284.length co38, .slice Ao39 t285.length co39] 46 (0, 0)) (by (with_reducible repeat (first | refine blk_drewN ?_ _ | refine blk_drew ?_ | refine blk_alloc ?_ _)); exact BK270.out) hb); have n12_ := Aside0.mk (blk_below (g := gb300) (o := .cells #[.int .i64 t293, .slice Ao102 t294.length co102, .slice Ao103 t297.length co103] 46 (0, 0)) (by (with_reducible repeat (first | refine blk_drewN ?_ _ | refine blk_drew ?_ | refine blk_alloc ?_ _)); exact BK300.out) hb); have n13_ := Aside0.mk (below_step (by repeat (first | (with_reducible first | exact HB.out | apply below_alloc | apply pw_below_drewN | apply below_drew1 | refine below_set ?_ GE240.out | refine below_set ?_ GE255.out | refine below_set ?_ GE262.out | refine below_set ?_ GE270.out | refine below_set ?_ GE300.out) | exact HB.out)) hb); clear HO_256001; clear HO_256002; clear HO_263000; clear HO_263001; clear HO_271001; clear HO_271002; clear HO_301001; clear HO_301002; clear BK240; clear BK255; clear BK262; clear BK270; clear BK300; clear HB; have HO_256001 := n0_; have HO_256002 := n1_; have HO_263000 := n2_; have HO_263001 := n3_; have HO_271001 := n4_; have HO_271002 := n5_; have HO_301001 := n6_; have HO_301002 := n7_; have BK240 := n8_; have BK255 := n9_; have BK262 := n10_; have BK270 := n11_; have BK300 := n12_; have HB := n13_; clear n0_ n1_ n2_ n3_ n4_ n5_ n6_ n7_ n8_ n9_ n10_ n11_ n12_ n13_; (try clear hb); (try clear hb2); (try clear hk); (try clear hi)))
                                    go_ret
                                    exact ⟨by first | rfl | (simp [errW_none, errW_some] <;> rfl) | (simp [*, errW_none, errW_some] <;> rfl), by repeat (first | (with_reducible first | exact HB.out | apply below_alloc | apply pw_below_drewN | apply below_drew1 | refine below_set ?_ GE240.out | refine below_set ?_ GE255.out | refine below_set ?_ GE262.out | refine below_set ?_ GE270.out | refine below_set ?_ GE300.out) | exact HB.out)⟩
                                  · rw [if_neg c110] at H
                                    have c110b0 : decide (t302 < 0) = false := decide_eq_false c110
                                    clear c110
                                    by_cases c117 : t302 = t283
                                    · rw [if_pos c117] at H
                                      have c117b0 : (t302 == t283) = true := beq_iff_eq.mpr c117
                                      have c117b1 : (t302 != t283) = false := bne_eq_false_iff_eq.mpr c117
                                      clear c117
                                      obtain rfl := Option.some.inj H
                                      have hnb118 := NB270_240.out
                                      have hnc118 := NB240_270.out
                                      have hnb119 := NB270_255.out
                                      have hnc119 := NB255_270.out
                                      have hnb120 := NB270_262.out
                                      have hnc120 := NB262_270.out
                                      have hnb121 := NB270_300.out
                                      have hnc121 := NB300_270.out
                                      have hcz122_0 : wc.cell? ⟨gb270, 0, none⟩ = some (.int .i64 t263) := (blk_cell BK270.out 0).trans rfl
                                      have hcz122_1 : wc.cell? ⟨gb270, 1, none⟩ = some (.slice Ao38 t284.length co38) := (blk_cell BK270.out 1).trans rfl
                                      have hcz122_2 : wc.cell? ⟨gb270, 2, none⟩ = some (.slice Ao39 t285.length co39) := (blk_cell BK270.out 2).trans rfl
                                      have hfz122_0 := blk_frozen BK270.out 0
                                      have hfz122_1 := blk_frozen BK270.out 1
                                      have hfz122_2 := blk_frozen BK270.out 2
                                      go_wp2_with (first | ((with_reducible refine gate_callee (f := 36) rfl ?_); refine goesL_ (some 63) rfl rfl Try.func36 (by kernel_rfl) rfl #[.agg #[.int .i64 t263, .slice Ao38 t284.length co38, .slice Ao39 t285.length co39], .int .i64 1] rfl (by (try simp only [List.map_toArray, List.map_cons, List.map_nil]); first | done | rfl | (simp only [List.length_drop, List.length_take]; rfl)) ?_; (with_reducible refine (laws_heldLogResult.calls kj86 t263 _ _ t284 _ _ t285 1 t302 _ ?side1 ?side2 ?side3 ?side4 A109.out).mono ?_); (case side1 => repeat (first | exact (Kd.R_reads' HO_271001.out).2.2 | (with_reducible refine Kd.C_alloc ?_ _) | (with_reducible refine Kd.C_drewN ?_ _) | (with_reducible refine Kd.C_drew ?_))); (case side2 => exact (Kd.R_reads' HO_271001.out).2.1); (case side3 => repeat (first | exact (Kd.R_reads' HO_271002.out).2.2 | (with_reducible refine Kd.C_alloc ?_ _) | (with_reducible refine Kd.C_drewN ?_ _) | (with_reducible refine Kd.C_drew ?_))); (case side4 => exact (Kd.R_reads' HO_271002.out).2.1); rintro e w123 ⟨rfl, hb⟩; refine ⟨_, rfl, ?_⟩; have n0_ := Aside0.mk (Kd.R_below (by (with_reducible repeat (first | apply Kd.R_alloc | apply Kd.R_drewN | apply Kd.R_drew)); exact HO_256001.out) hb); have n1_ := Aside0.mk (Kd.R_below (by (with_reducible repeat (first | apply Kd.R_alloc | apply Kd.R_drewN | apply Kd.R_drew)); exact HO_256002.out) hb); have n2_ := Aside0.mk (Kd.R_below (by (with_reducible repeat (first | apply Kd.R_alloc | apply Kd.R_drewN | apply Kd.R_drew)); exact HO_263000.out) hb); have n3_ := Aside0.mk (Kd.R_below (by (with_reducible repeat (first | apply Kd.R_alloc | apply Kd.R_drewN | apply Kd.R_drew)); exact HO_263001.out) hb); have n4_ := Aside0.mk (Kd.R_below (by (with_reducible repeat (first | apply Kd.R_alloc | apply Kd.R_drewN | apply Kd.R_drew)); exact HO_271001.out) hb); have n5_ := Aside0.mk (Kd.R_below (by (with_reducible repeat (first | apply Kd.R_alloc | apply Kd.R_drewN | apply Kd.R_drew)); exact HO_271002.out) hb); have n6_ := Aside0.mk (Kd.R_below (by (with_reducible repeat (first | apply Kd.R_alloc | apply Kd.R_drewN | apply Kd.R_drew)); exact HO_301001.out) hb); have n7_ := Aside0.mk (Kd.R_below (by (with_reducible repeat (first | apply Kd.R_alloc | apply Kd.R_drewN | apply Kd.R_drew)); exact HO_301002.out) hb); have n8_ := Aside0.mk (blk_below (g := gb240) (o := .cells #[.slice A0_0 l0_0.length c0_0, .slice A0_1 l0_1.length c0_1] 24 (0, 0)) (by (with_reducible repeat (first | refine blk_drewN ?_ _ | refine blk_drew ?_ | refine blk_alloc ?_ _)); exact BK240.out) hb); have n9_ := Aside0.mk (blk_below (g := gb255) (o := .cells #[.int .i64 t248, .slice Ao22 t249.length co22, .slice Ao23 t252.length co23] 46 (0, 0)) (by (with_reducible repeat (first | refine blk_drewN ?_ _ | refine blk_drew ?_ | refine blk_alloc ?_ _)); exact BK255.out) hb); have n10_ := Aside0.mk (blk_below (g := gb262) (o := .cells #[.slice Ao27 t280.length co27, .slice Ao31 t281.length co31] 27 (0, 0)) (by (with_reducible repeat (first | refine blk_drewN ?_ _ | refine blk_drew ?_ | refine blk_alloc ?_ _)); exact BK262.out) hb); have n11_ := Aside0.mk (blk_below (g := gb270) (o := .cells #[.int .i64 t263, .slice Ao38 t284.length co38, .slice Ao39 t285.length co39] 46 (0, 0)) (by (with_reducible repeat (first | refine blk_drewN ?_ _ | refine blk_drew ?_ | refine blk_alloc ?_ _)); exact BK270.out) hb); have n12_ := Aside0.mk (blk_below (g := gb300) (o := .cells #[.int .i64 t293, .slice Ao102 t294.length co102, .slice Ao103 t297.length co103] 46 (0, 0)) (by (with_reducible repeat (first | refine blk_drewN ?_ _ | refine blk_drew ?_ | refine blk_alloc ?_ _)); exact BK300.out) hb); have n13_ := Aside0.mk (below_step (by repeat (first | (with_reducible first | exact HB.out | apply below_alloc | apply pw_below_drewN | apply below_drew1 | refine below_set ?_ GE240.out | refine below_set ?_ GE255.out | refine below_set ?_ GE262.out | refine below_set ?_ GE270.out | refine below_set ?_ GE300.out) | exact HB.out)) hb); clear HO_256001; clear HO_256002; clear HO_263000; clear HO_263001; clear HO_271001; clear HO_271002; clear HO_301001; clear HO_301002; clear BK240; clear BK255; clear BK262; clear BK270; clear BK300; clear HB; have HO_256001 := n0_; have HO_256002 := n1_; have HO_263000 := n2_; have HO_263001 := n3_; have HO_271001 := n4_; have HO_271002 := n5_; have HO_301001 := n6_; have HO_301002 := n7_; have BK240 := n8_; have BK255 := n9_; have BK262 := n10_; have BK270 := n11_; have BK300 := n12_; have HB := n13_; clear n0_ n1_ n2_ n3_ n4_ n5_ n6_ n7_ n8_ n9_ n10_ n11_ n12_ n13_; (try clear hb); (try clear hb2); (try clear hk); (try clear hi)))
                                      go_ret
                                      exact ⟨by first | rfl | (simp [errW_none, errW_some] <;> rfl) | (simp [*, errW_none, errW_some] <;> rfl), by repeat (first | (with_reducible first | exact HB.out | apply below_alloc | apply pw_below_drewN | apply below_drew1 | refine below_set ?_ GE240.out | refine below_set ?_ GE255.out | refine below_set ?_ GE262.out | refine below_set ?_ GE270.out | refine below_set ?_ GE300.out) | exact HB.out)⟩
                                    · rw [if_neg c117] at H
                                      have c117b0 : (t302 == t283) = false := beq_eq_false_iff_ne.mpr c117
                                      have c117b1 : (t302 != t283) = true := bne_iff_ne.mpr c117
                                      obtain rfl := Option.some.inj H
                                      have hnb124 := NB270_240.out
                                      have hnc124 := NB240_270.out
                                      have hnb125 := NB270_255.out
                                      have hnc125 := NB255_270.out
                                      have hnb126 := NB270_262.out
                                      have hnc126 := NB262_270.out
                                      have hnb127 := NB270_300.out
                                      have hnc127 := NB300_270.out
                                      have hcz128_0 : wc.cell? ⟨gb270, 0, none⟩ = some (.int .i64 t263) := (blk_cell BK270.out 0).trans rfl
                                      have hcz128_1 : wc.cell? ⟨gb270, 1, none⟩ = some (.slice Ao38 t284.length co38) := (blk_cell BK270.out 1).trans rfl
                                      have hcz128_2 : wc.cell? ⟨gb270, 2, none⟩ = some (.slice Ao39 t285.length co39) := (blk_cell BK270.out 2).trans rfl
                                      have hfz128_0 := blk_frozen BK270.out 0
                                      have hfz128_1 := blk_frozen BK270.out 1
                                      have hfz128_2 := blk_frozen BK270.out 2
                                      go_wp2_with (first | ((with_reducible refine gate_callee (f := 36) rfl ?_); refine goesL_ (some 63) rfl rfl Try.func36 (by kernel_rfl) rfl #[.agg #[.int .i64 t263, .slice Ao38 t284.length co38, .slice Ao39 t285.length co39], .int .i64 1] rfl (by (try simp only [List.map_toArray, List.map_cons, List.map_nil]); first | done | rfl | (simp only [List.length_drop, List.length_take]; rfl)) ?_; (with_reducible refine (laws_heldLogResult.calls kj86 t263 _ _ t284 _ _ t285 1 t302 _ ?side1 ?side2 ?side3 ?side4 A109.out).mono ?_); (case side1 => repeat (first | exact (Kd.R_reads' HO_271001.out).2.2 | (with_reducible refine Kd.C_alloc ?_ _) | (with_reducible refine Kd.C_drewN ?_ _) | (with_reducible refine Kd.C_drew ?_))); (case side2 => exact (Kd.R_reads' HO_271001.out).2.1); (case side3 => repeat (first | exact (Kd.R_reads' HO_271002.out).2.2 | (with_reducible refine Kd.C_alloc ?_ _) | (with_reducible refine Kd.C_drewN ?_ _) | (with_reducible refine Kd.C_drew ?_))); (case side4 => exact (Kd.R_reads' HO_271002.out).2.1); rintro e w129 ⟨rfl, hb⟩; refine ⟨_, rfl, ?_⟩; have n0_ := Aside0.mk (Kd.R_below (by (with_reducible repeat (first | apply Kd.R_alloc | apply Kd.R_drewN | apply Kd.R_drew)); exact HO_256001.out) hb); have n1_ := Aside0.mk (Kd.R_below (by (with_reducible repeat (first | apply Kd.R_alloc | apply Kd.R_drewN | apply Kd.R_drew)); exact HO_256002.out) hb); have n2_ := Aside0.mk (Kd.R_below (by (with_reducible repeat (first | apply Kd.R_alloc | apply Kd.R_drewN | apply Kd.R_drew)); exact HO_263000.out) hb); have n3_ := Aside0.mk (Kd.R_below (by (with_reducible repeat (first | apply Kd.R_alloc | apply Kd.R_drewN | apply Kd.R_drew)); exact HO_263001.out) hb); have n4_ := Aside0.mk (Kd.R_below (by (with_reducible repeat (first | apply Kd.R_alloc | apply Kd.R_drewN | apply Kd.R_drew)); exact HO_271001.out) hb); have n5_ := Aside0.mk (Kd.R_below (by (with_reducible repeat (first | apply Kd.R_alloc | apply Kd.R_drewN | apply Kd.R_drew)); exact HO_271002.out) hb); have n6_ := Aside0.mk (Kd.R_below (by (with_reducible repeat (first | apply Kd.R_alloc | apply Kd.R_drewN | apply Kd.R_drew)); exact HO_301001.out) hb); have n7_ := Aside0.mk (Kd.R_below (by (with_reducible repeat (first | apply Kd.R_alloc | apply Kd.R_drewN | apply Kd.R_drew)); exact HO_301002.out) hb); have n8_ := Aside0.mk (blk_below (g := gb240) (o := .cells #[.slice A0_0 l0_0.length c0_0, .slice A0_1 l0_1.length c0_1] 24 (0, 0)) (by (with_reducible repeat (first | refine blk_drewN ?_ _ | refine blk_drew ?_ | refine blk_alloc ?_ _)); exact BK240.out) hb); have n9_ := Aside0.mk (blk_below (g := gb255) (o := .cells #[.int .i64 t248, .slice Ao22 t249.length co22, .slice Ao23 t252.length co23] 46 (0, 0)) (by (with_reducible repeat (first | refine blk_drewN ?_ _ | refine blk_drew ?_ | refine blk_alloc ?_ _)); exact BK255.out) hb); have n10_ := Aside0.mk (blk_below (g := gb262) (o := .cells #[.slice Ao27 t280.length co27, .slice Ao31 t281.length co31] 27 (0, 0)) (by (with_reducible repeat (first | refine blk_drewN ?_ _ | refine blk_drew ?_ | refine blk_alloc ?_ _)); exact BK262.out) hb); have n11_ := Aside0.mk (blk_below (g := gb270) (o := .cells #[.int .i64 t263, .slice Ao38 t284.length co38, .slice Ao39 t285.length co39] 46 (0, 0)) (by (with_reducible repeat (first | refine blk_drewN ?_ _ | refine blk_drew ?_ | refine blk_alloc ?_ _)); exact BK270.out) hb); have n12_ := Aside0.mk (blk_below (g := gb300) (o := .cells #[.int .i64 t293, .slice Ao102 t294.length co102, .slice Ao103 t297.length co103] 46 (0, 0)) (by (with_reducible repeat (first | refine blk_drewN ?_ _ | refine blk_drew ?_ | refine blk_alloc ?_ _)); exact BK300.out) hb); have n13_ := Aside0.mk (below_step (by repeat (first | (with_reducible first | exact HB.out | apply below_alloc | apply pw_below_drewN | apply below_drew1 | refine below_set ?_ GE240.out | refine below_set ?_ GE255.out | refine below_set ?_ GE262.out | refine below_set ?_ GE270.out | refine below_set ?_ GE300.out) | exact HB.out)) hb); clear HO_256001; clear HO_256002; clear HO_263000; clear HO_263001; clear HO_271001; clear HO_271002; clear HO_301001; clear HO_301002; clear BK240; clear BK255; clear BK262; clear BK270; clear BK300; clear HB; have HO_256001 := n0_; have HO_256002 := n1_; have HO_263000 := n2_; have HO_263001 := n3_; have HO_271001 := n4_; have HO_271002 := n5_; have HO_301001 := n6_; have HO_301002 := n7_; have BK240 := n8_; have BK255 := n9_; have BK262 := n10_; have BK270 := n11_; have BK300 := n12_; have HB := n13_; clear n0_ n1_ n2_ n3_ n4_ n5_ n6_ n7_ n8_ n9_ n10_ n11_ n12_ n13_; (try clear hb); (try clear hb2); (try clear hk); (try clear hi)))
                                      go_ret
                                      exact ⟨by first | rfl | (simp [errW_none, errW_some] <;> rfl) | (simp [*, errW_none, errW_some] <;> rfl), by repeat (first | (with_reducible first | exact HB.out | apply below_alloc | apply pw_below_drewN | apply below_drew1 | refine below_set ?_ GE240.out | refine below_set ?_ GE255.out | refine below_set ?_ GE262.out | refine below_set ?_ GE270.out | refine below_set ?_ GE300.out) | exact HB.out)⟩

end Go.Proofs.Ytcdpiejcdeedoaa.PFnExactTrimLog
