/- The functions that a law reaches, each as a plain Lean function with the proof that the machine comes to its answer: written by program (the kit's print, turned by wip/gen). No conditions. -/
import Derived.Test.YtcdpiejcdeedoaaPFnExactAppendLogx0
import Derived.Test.YtcdpiejcdeedoaaPFnExactAppendLogx1
import Derived.Test.YtcdpiejcdeedoaaPFnExactAppendLogx2
import Derived.Test.YtcdpiejcdeedoaaPFnExactAppendLogx3
import Derived.Test.YtcdpiejcdeedoaaPFnExactAppendLogx5
namespace Go.Proofs.Ytcdpiejcdeedoaa.PFnExactAppendLog
open Go.RowKit Go.Proofs.YtcdpiejcdeedoaaW.PrintWords Go.Proofs.YtcdpiejcdeedoaaW.PrintLast Go.Proofs.YtcdpiejcdeedoaaW.PrintMore
attribute [local go_sem] max2_int min2_int max_two min_two max_three min_three max_four min_four   -- for this text's walks alone
set_option linter.unusedVariables false
set_option linter.unusedSimpArgs false

/-! ### laws_FnExactAppendLog: function 10 -/
mutual
def laws_FnExactAppendLog.j0 : Nat → List Int → List Int → List Int → Option (Bool)
  | 0, _, _, _ => none
  | k + 1, x1, x275000, x275001 => (laws_szLog.f x275000 x275001 1048576).bind fun t275 => (if t275 < 0 then (some true) else (laws_FnExactAppendLog.j1 k x1 x275000 x275001))
def laws_FnExactAppendLog.j1 : Nat → List Int → List Int → List Int → Option (Bool)
  | 0, _, _, _ => none
  | k + 1, x1, x275000, x275001 => (laws_toLog.f k x275000 x275001).bind fun bt276 => ((laws_toByteS.f k x1).bind fun t282 => ((spec_AppendLog.f k bt276.1 bt276.2 t282).bind fun bt285 => ((laws_toLog.f k x275000 x275001).bind fun bt293 => ((laws_toByteS.f k x1).bind fun t300 => ((impl_AppendLog.f k bt293.1 bt293.2 t300).bind fun bt303 => ((laws_eqLogResult.f k bt303.1 bt303.2.1 bt303.2.2 bt285.1 bt285.2.1 bt285.2.2).bind fun t311 => (if t311 = true then (laws_FnExactAppendLog.j2 k x1 t300 x275000 x275001 bt285.1 bt285.2.1 bt285.2.2 bt293.1 bt293.2 bt303.1 bt303.2.1 bt303.2.2) else (some false))))))))
def laws_FnExactAppendLog.j2 : Nat → List Int → List Int → List Int → List Int → Int → List Int → List Int → List Int → List Int → Int → List Int → List Int → Option (Bool)
  | 0, _, _, _, _, _, _, _, _, _, _, _, _ => none
  | k + 1, x1, x8, x275000, x275001, x293000, x293001, x293002, x300000, x300001, x311000, x311001, x311002 => (laws_toLog.f k x275000 x275001).bind fun bt312 => ((laws_eqLog.f k x300000 x300001 bt312.1 bt312.2).bind fun t318 => (if t318 = true then (laws_FnExactAppendLog.j3 k x1 x8 x275000 x275001 x293000 x293001 x293002 x300000 x300001 x311000 x311001 x311002) else (some false)))
def laws_FnExactAppendLog.j3 : Nat → List Int → List Int → List Int → List Int → Int → List Int → List Int → List Int → List Int → Int → List Int → List Int → Option (Bool)
  | 0, _, _, _, _, _, _, _, _, _, _, _, _ => none
  | k + 1, x1, x8, x275000, x275001, x293000, x293001, x293002, x300000, x300001, x311000, x311001, x311002 => (laws_toByteS.f k x1).bind fun t319 => ((laws_eqByteS.f k x8 t319).bind fun t322 => (if t322 = true then (laws_FnExactAppendLog.j4 k x1 x8 x275000 x275001 x293000 x293001 x293002 x300000 x300001 x311000 x311001 x311002) else (some false)))
def laws_FnExactAppendLog.j4 : Nat → List Int → List Int → List Int → List Int → Int → List Int → List Int → List Int → List Int → Int → List Int → List Int → Option (Bool)
  | 0, _, _, _, _, _, _, _, _, _, _, _, _ => none
  | k + 1, x1, x8, x275000, x275001, x293000, x293001, x293002, x300000, x300001, x311000, x311001, x311002 => (laws_markLog.f k x300000 x300001 1).bind fun bt323 => ((laws_markByteS.f k x8 bt323.1).bind fun bt326 => (if bt326.1 < 0 then (laws_FnExactAppendLog.j5 k x1 true x275000 x275001 x293000 x293001 x293002 x311000 x311001 x311002) else ((laws_eqLogResult.f k x311000 x311001 x311002 x293000 x293001 x293002).bind fun t328 => (laws_FnExactAppendLog.j5 k x1 (!t328) x275000 x275001 x293000 x293001 x293002 x311000 x311001 x311002))))
def laws_FnExactAppendLog.j5 : Nat → List Int → Bool → List Int → List Int → Int → List Int → List Int → Int → List Int → List Int → Option (Bool)
  | 0, _, _, _, _, _, _, _, _, _, _ => none
  | k + 1, x1, x61, x275000, x275001, x293000, x293001, x293002, x311000, x311001, x311002 => if x61 = true then (some false) else (laws_FnExactAppendLog.j6 k x1 x275000 x275001 x293000 x293001 x293002 x311000 x311001 x311002)
def laws_FnExactAppendLog.j6 : Nat → List Int → List Int → List Int → Int → List Int → List Int → Int → List Int → List Int → Option (Bool)
  | 0, _, _, _, _, _, _, _, _, _ => none
  | k + 1, x1, x275000, x275001, x293000, x293001, x293002, x311000, x311001, x311002 => (laws_markLogResult.f k x311000 x311001 x311002 1).bind fun bt329 => ((laws_heldLogResult.f k x311000 bt329.2.1 bt329.2.2 1).bind fun t332 => (if t332 < 0 then (some false) else (laws_FnExactAppendLog.j7 k x1 bt329.1 t332 x275000 x275001 x293000 x293001 x293002 x311000 bt329.2.1 bt329.2.2)))
def laws_FnExactAppendLog.j7 : Nat → List Int → Int → Int → List Int → List Int → Int → List Int → List Int → Int → List Int → List Int → Option (Bool)
  | 0, _, _, _, _, _, _, _, _, _, _, _ => none
  | k + 1, x1, x11, x12, x275000, x275001, x293000, x293001, x293002, x311000, x311001, x311002 => if x12 = x11 then (laws_FnExactAppendLog.j8 k x1 x11 x275000 x275001 x293000 x293001 x293002 x311000 x311001 x311002) else (some false)
def laws_FnExactAppendLog.j8 : Nat → List Int → Int → List Int → List Int → Int → List Int → List Int → Int → List Int → List Int → Option (Bool)
  | 0, _, _, _, _, _, _, _, _, _, _ => none
  | k + 1, x1, x11, x275000, x275001, x293000, x293001, x293002, x311000, x311001, x311002 => (laws_toLog.f k x275000 x275001).bind fun bt333 => ((laws_toByteS.f k x1).bind fun t339 => ((impl_AppendLog.f k bt333.1 bt333.2 t339).bind fun bt342 => ((laws_eqLogResult.f k bt342.1 bt342.2.1 bt342.2.2 x293000 x293001 x293002).bind fun t350 => (if t350 = true then (laws_FnExactAppendLog.j9 k x11 x311000 x311001 x311002) else (some false)))))
def laws_FnExactAppendLog.j9 : Nat → Int → Int → List Int → List Int → Option (Bool)
  | 0, _, _, _, _ => none
  | k + 1, x11, x311000, x311001, x311002 => (laws_heldLogResult.f k x311000 x311001 x311002 1).bind fun t351 => (if t351 < 0 then (some false) else (if t351 = x11 then (some true) else (some false)))
end
def laws_FnExactAppendLog.f (k : Nat) (l0_0 : List Int) (l0_1 : List Int) (l1 : List Int) : Option (Bool) := if (l1.length : Int) > 1048576 then (some true) else (laws_FnExactAppendLog.j0 k l1 l0_0 l0_1)
theorem laws_FnExactAppendLog.mono_l : ∀ k, (∀ y0 y1 y2, LeO (laws_FnExactAppendLog.j0 k y0 y1 y2) (laws_FnExactAppendLog.j0 (k + 1) y0 y1 y2)) ∧ (∀ y0 y1 y2, LeO (laws_FnExactAppendLog.j1 k y0 y1 y2) (laws_FnExactAppendLog.j1 (k + 1) y0 y1 y2)) ∧ (∀ y0 y1 y2 y3 y4 y5 y6 y7 y8 y9 y10 y11, LeO (laws_FnExactAppendLog.j2 k y0 y1 y2 y3 y4 y5 y6 y7 y8 y9 y10 y11) (laws_FnExactAppendLog.j2 (k + 1) y0 y1 y2 y3 y4 y5 y6 y7 y8 y9 y10 y11)) ∧ (∀ y0 y1 y2 y3 y4 y5 y6 y7 y8 y9 y10 y11, LeO (laws_FnExactAppendLog.j3 k y0 y1 y2 y3 y4 y5 y6 y7 y8 y9 y10 y11) (laws_FnExactAppendLog.j3 (k + 1) y0 y1 y2 y3 y4 y5 y6 y7 y8 y9 y10 y11)) ∧ (∀ y0 y1 y2 y3 y4 y5 y6 y7 y8 y9 y10 y11, LeO (laws_FnExactAppendLog.j4 k y0 y1 y2 y3 y4 y5 y6 y7 y8 y9 y10 y11) (laws_FnExactAppendLog.j4 (k + 1) y0 y1 y2 y3 y4 y5 y6 y7 y8 y9 y10 y11)) ∧ (∀ y0 y1 y2 y3 y4 y5 y6 y7 y8 y9, LeO (laws_FnExactAppendLog.j5 k y0 y1 y2 y3 y4 y5 y6 y7 y8 y9) (laws_FnExactAppendLog.j5 (k + 1) y0 y1 y2 y3 y4 y5 y6 y7 y8 y9)) ∧ (∀ y0 y1 y2 y3 y4 y5 y6 y7 y8, LeO (laws_FnExactAppendLog.j6 k y0 y1 y2 y3 y4 y5 y6 y7 y8) (laws_FnExactAppendLog.j6 (k + 1) y0 y1 y2 y3 y4 y5 y6 y7 y8)) ∧ (∀ y0 y1 y2 y3 y4 y5 y6 y7 y8 y9 y10, LeO (laws_FnExactAppendLog.j7 k y0 y1 y2 y3 y4 y5 y6 y7 y8 y9 y10) (laws_FnExactAppendLog.j7 (k + 1) y0 y1 y2 y3 y4 y5 y6 y7 y8 y9 y10)) ∧ (∀ y0 y1 y2 y3 y4 y5 y6 y7 y8 y9, LeO (laws_FnExactAppendLog.j8 k y0 y1 y2 y3 y4 y5 y6 y7 y8 y9) (laws_FnExactAppendLog.j8 (k + 1) y0 y1 y2 y3 y4 y5 y6 y7 y8 y9)) ∧ (∀ y0 y1 y2 y3, LeO (laws_FnExactAppendLog.j9 k y0 y1 y2 y3) (laws_FnExactAppendLog.j9 (k + 1) y0 y1 y2 y3))
  | 0 => ⟨fun _ _ _ r h => by simp [laws_FnExactAppendLog.j0] at h, fun _ _ _ r h => by simp [laws_FnExactAppendLog.j1] at h, fun _ _ _ _ _ _ _ _ _ _ _ _ r h => by simp [laws_FnExactAppendLog.j2] at h, fun _ _ _ _ _ _ _ _ _ _ _ _ r h => by simp [laws_FnExactAppendLog.j3] at h, fun _ _ _ _ _ _ _ _ _ _ _ _ r h => by simp [laws_FnExactAppendLog.j4] at h, fun _ _ _ _ _ _ _ _ _ _ r h => by simp [laws_FnExactAppendLog.j5] at h, fun _ _ _ _ _ _ _ _ _ r h => by simp [laws_FnExactAppendLog.j6] at h, fun _ _ _ _ _ _ _ _ _ _ _ r h => by simp [laws_FnExactAppendLog.j7] at h, fun _ _ _ _ _ _ _ _ _ _ r h => by simp [laws_FnExactAppendLog.j8] at h, fun _ _ _ _ r h => by simp [laws_FnExactAppendLog.j9] at h⟩
  | k + 1 => by
    obtain ⟨ih0, ih1, ih2, ih3, ih4, ih5, ih6, ih7, ih8, ih9⟩ := laws_FnExactAppendLog.mono_l k
    refine ⟨?_, ?_, ?_, ?_, ?_, ?_, ?_, ?_, ?_, ?_⟩
    · intro y0 y1 y2
      unfold laws_FnExactAppendLog.j0
      repeat' first
      | (with_reducible exact ih0 _ _ _)
      | (with_reducible exact ih1 _ _ _)
      | (with_reducible exact ih2 _ _ _ _ _ _ _ _ _ _ _ _)
      | (with_reducible exact ih3 _ _ _ _ _ _ _ _ _ _ _ _)
      | (with_reducible exact ih4 _ _ _ _ _ _ _ _ _ _ _ _)
      | (with_reducible exact ih5 _ _ _ _ _ _ _ _ _ _)
      | (with_reducible exact ih6 _ _ _ _ _ _ _ _ _)
      | (with_reducible exact ih7 _ _ _ _ _ _ _ _ _ _ _)
      | (with_reducible exact ih8 _ _ _ _ _ _ _ _ _ _)
      | (with_reducible exact ih9 _ _ _ _)
      | (with_reducible exact impl_AppendLog.mono _ _ _ _)
      | (with_reducible exact laws_eqByteS.mono _ _ _)
      | (with_reducible exact laws_eqLog.mono _ _ _ _ _)
      | (with_reducible exact laws_eqLogResult.mono _ _ _ _ _ _ _)
      | (with_reducible exact laws_heldLogResult.mono _ _ _ _ _)
      | (with_reducible exact laws_markByteS.mono _ _ _)
      | (with_reducible exact laws_markLog.mono _ _ _ _)
      | (with_reducible exact laws_markLogResult.mono _ _ _ _ _)
      | (with_reducible exact laws_toByteS.mono _ _)
      | (with_reducible exact laws_toLog.mono _ _ _)
      | (with_reducible exact spec_AppendLog.mono _ _ _ _)
      | (with_reducible exact LeO.refl _)
      | (with_reducible exact LeO.none _)
      | (with_reducible refine LeO.ite ?_ ?_)
      | (with_reducible refine LeO.bind ?_ (fun _ => ?_))
      | exact ih0 _ _ _
      | exact ih1 _ _ _
      | exact ih2 _ _ _ _ _ _ _ _ _ _ _ _
      | exact ih3 _ _ _ _ _ _ _ _ _ _ _ _
      | exact ih4 _ _ _ _ _ _ _ _ _ _ _ _
      | exact ih5 _ _ _ _ _ _ _ _ _ _
      | exact ih6 _ _ _ _ _ _ _ _ _
      | exact ih7 _ _ _ _ _ _ _ _ _ _ _
      | exact ih8 _ _ _ _ _ _ _ _ _ _
      | exact ih9 _ _ _ _
      | exact impl_AppendLog.mono _ _ _ _
      | exact laws_eqByteS.mono _ _ _
      | exact laws_eqLog.mono _ _ _ _ _
      | exact laws_eqLogResult.mono _ _ _ _ _ _ _
      | exact laws_heldLogResult.mono _ _ _ _ _
      | exact laws_markByteS.mono _ _ _
      | exact laws_markLog.mono _ _ _ _
      | exact laws_markLogResult.mono _ _ _ _ _
      | exact laws_toByteS.mono _ _
      | exact laws_toLog.mono _ _ _
      | exact spec_AppendLog.mono _ _ _ _
      | exact LeO.none _
      | refine LeO.ite ?_ ?_
      | refine LeO.bind ?_ (fun _ => ?_)
    · intro y0 y1 y2
      unfold laws_FnExactAppendLog.j1
      repeat' first
      | (with_reducible exact ih0 _ _ _)
      | (with_reducible exact ih1 _ _ _)
      | (with_reducible exact ih2 _ _ _ _ _ _ _ _ _ _ _ _)
      | (with_reducible exact ih3 _ _ _ _ _ _ _ _ _ _ _ _)
      | (with_reducible exact ih4 _ _ _ _ _ _ _ _ _ _ _ _)
      | (with_reducible exact ih5 _ _ _ _ _ _ _ _ _ _)
      | (with_reducible exact ih6 _ _ _ _ _ _ _ _ _)
      | (with_reducible exact ih7 _ _ _ _ _ _ _ _ _ _ _)
      | (with_reducible exact ih8 _ _ _ _ _ _ _ _ _ _)
      | (with_reducible exact ih9 _ _ _ _)
      | (with_reducible exact impl_AppendLog.mono _ _ _ _)
      | (with_reducible exact laws_eqByteS.mono _ _ _)
      | (with_reducible exact laws_eqLog.mono _ _ _ _ _)
      | (with_reducible exact laws_eqLogResult.mono _ _ _ _ _ _ _)
      | (with_reducible exact laws_heldLogResult.mono _ _ _ _ _)
      | (with_reducible exact laws_markByteS.mono _ _ _)
      | (with_reducible exact laws_markLog.mono _ _ _ _)
      | (with_reducible exact laws_markLogResult.mono _ _ _ _ _)
      | (with_reducible exact laws_toByteS.mono _ _)
      | (with_reducible exact laws_toLog.mono _ _ _)
      | (with_reducible exact spec_AppendLog.mono _ _ _ _)
      | (with_reducible exact LeO.refl _)
      | (with_reducible exact LeO.none _)
      | (with_reducible refine LeO.ite ?_ ?_)
      | (with_reducible refine LeO.bind ?_ (fun _ => ?_))
      | exact ih0 _ _ _
      | exact ih1 _ _ _
      | exact ih2 _ _ _ _ _ _ _ _ _ _ _ _
      | exact ih3 _ _ _ _ _ _ _ _ _ _ _ _
      | exact ih4 _ _ _ _ _ _ _ _ _ _ _ _
      | exact ih5 _ _ _ _ _ _ _ _ _ _
      | exact ih6 _ _ _ _ _ _ _ _ _
      | exact ih7 _ _ _ _ _ _ _ _ _ _ _
      | exact ih8 _ _ _ _ _ _ _ _ _ _
      | exact ih9 _ _ _ _
      | exact impl_AppendLog.mono _ _ _ _
      | exact laws_eqByteS.mono _ _ _
      | exact laws_eqLog.mono _ _ _ _ _
      | exact laws_eqLogResult.mono _ _ _ _ _ _ _
      | exact laws_heldLogResult.mono _ _ _ _ _
      | exact laws_markByteS.mono _ _ _
      | exact laws_markLog.mono _ _ _ _
      | exact laws_markLogResult.mono _ _ _ _ _
      | exact laws_toByteS.mono _ _
      | exact laws_toLog.mono _ _ _
      | exact spec_AppendLog.mono _ _ _ _
      | exact LeO.none _
      | refine LeO.ite ?_ ?_
      | refine LeO.bind ?_ (fun _ => ?_)
    · intro y0 y1 y2 y3 y4 y5 y6 y7 y8 y9 y10 y11
      unfold laws_FnExactAppendLog.j2
      repeat' first
      | (with_reducible exact ih0 _ _ _)
      | (with_reducible exact ih1 _ _ _)
      | (with_reducible exact ih2 _ _ _ _ _ _ _ _ _ _ _ _)
      | (with_reducible exact ih3 _ _ _ _ _ _ _ _ _ _ _ _)
      | (with_reducible exact ih4 _ _ _ _ _ _ _ _ _ _ _ _)
      | (with_reducible exact ih5 _ _ _ _ _ _ _ _ _ _)
      | (with_reducible exact ih6 _ _ _ _ _ _ _ _ _)
      | (with_reducible exact ih7 _ _ _ _ _ _ _ _ _ _ _)
      | (with_reducible exact ih8 _ _ _ _ _ _ _ _ _ _)
      | (with_reducible exact ih9 _ _ _ _)
      | (with_reducible exact impl_AppendLog.mono _ _ _ _)
      | (with_reducible exact laws_eqByteS.mono _ _ _)
      | (with_reducible exact laws_eqLog.mono _ _ _ _ _)
      | (with_reducible exact laws_eqLogResult.mono _ _ _ _ _ _ _)
      | (with_reducible exact laws_heldLogResult.mono _ _ _ _ _)
      | (with_reducible exact laws_markByteS.mono _ _ _)
      | (with_reducible exact laws_markLog.mono _ _ _ _)
      | (with_reducible exact laws_markLogResult.mono _ _ _ _ _)
      | (with_reducible exact laws_toByteS.mono _ _)
      | (with_reducible exact laws_toLog.mono _ _ _)
      | (with_reducible exact spec_AppendLog.mono _ _ _ _)
      | (with_reducible exact LeO.refl _)
      | (with_reducible exact LeO.none _)
      | (with_reducible refine LeO.ite ?_ ?_)
      | (with_reducible refine LeO.bind ?_ (fun _ => ?_))
      | exact ih0 _ _ _
      | exact ih1 _ _ _
      | exact ih2 _ _ _ _ _ _ _ _ _ _ _ _
      | exact ih3 _ _ _ _ _ _ _ _ _ _ _ _
      | exact ih4 _ _ _ _ _ _ _ _ _ _ _ _
      | exact ih5 _ _ _ _ _ _ _ _ _ _
      | exact ih6 _ _ _ _ _ _ _ _ _
      | exact ih7 _ _ _ _ _ _ _ _ _ _ _
      | exact ih8 _ _ _ _ _ _ _ _ _ _
      | exact ih9 _ _ _ _
      | exact impl_AppendLog.mono _ _ _ _
      | exact laws_eqByteS.mono _ _ _
      | exact laws_eqLog.mono _ _ _ _ _
      | exact laws_eqLogResult.mono _ _ _ _ _ _ _
      | exact laws_heldLogResult.mono _ _ _ _ _
      | exact laws_markByteS.mono _ _ _
      | exact laws_markLog.mono _ _ _ _
      | exact laws_markLogResult.mono _ _ _ _ _
      | exact laws_toByteS.mono _ _
      | exact laws_toLog.mono _ _ _
      | exact spec_AppendLog.mono _ _ _ _
      | exact LeO.none _
      | refine LeO.ite ?_ ?_
      | refine LeO.bind ?_ (fun _ => ?_)
    · intro y0 y1 y2 y3 y4 y5 y6 y7 y8 y9 y10 y11
      unfold laws_FnExactAppendLog.j3
      repeat' first
      | (with_reducible exact ih0 _ _ _)
      | (with_reducible exact ih1 _ _ _)
      | (with_reducible exact ih2 _ _ _ _ _ _ _ _ _ _ _ _)
      | (with_reducible exact ih3 _ _ _ _ _ _ _ _ _ _ _ _)
      | (with_reducible exact ih4 _ _ _ _ _ _ _ _ _ _ _ _)
      | (with_reducible exact ih5 _ _ _ _ _ _ _ _ _ _)
      | (with_reducible exact ih6 _ _ _ _ _ _ _ _ _)
      | (with_reducible exact ih7 _ _ _ _ _ _ _ _ _ _ _)
      | (with_reducible exact ih8 _ _ _ _ _ _ _ _ _ _)
      | (with_reducible exact ih9 _ _ _ _)
      | (with_reducible exact impl_AppendLog.mono _ _ _ _)
      | (with_reducible exact laws_eqByteS.mono _ _ _)
      | (with_reducible exact laws_eqLog.mono _ _ _ _ _)
      | (with_reducible exact laws_eqLogResult.mono _ _ _ _ _ _ _)
      | (with_reducible exact laws_heldLogResult.mono _ _ _ _ _)
      | (with_reducible exact laws_markByteS.mono _ _ _)
      | (with_reducible exact laws_markLog.mono _ _ _ _)
      | (with_reducible exact laws_markLogResult.mono _ _ _ _ _)
      | (with_reducible exact laws_toByteS.mono _ _)
      | (with_reducible exact laws_toLog.mono _ _ _)
      | (with_reducible exact spec_AppendLog.mono _ _ _ _)
      | (with_reducible exact LeO.refl _)
      | (with_reducible exact LeO.none _)
      | (with_reducible refine LeO.ite ?_ ?_)
      | (with_reducible refine LeO.bind ?_ (fun _ => ?_))
      | exact ih0 _ _ _
      | exact ih1 _ _ _
      | exact ih2 _ _ _ _ _ _ _ _ _ _ _ _
      | exact ih3 _ _ _ _ _ _ _ _ _ _ _ _
      | exact ih4 _ _ _ _ _ _ _ _ _ _ _ _
      | exact ih5 _ _ _ _ _ _ _ _ _ _
      | exact ih6 _ _ _ _ _ _ _ _ _
      | exact ih7 _ _ _ _ _ _ _ _ _ _ _
      | exact ih8 _ _ _ _ _ _ _ _ _ _
      | exact ih9 _ _ _ _
      | exact impl_AppendLog.mono _ _ _ _
      | exact laws_eqByteS.mono _ _ _
      | exact laws_eqLog.mono _ _ _ _ _
      | exact laws_eqLogResult.mono _ _ _ _ _ _ _
      | exact laws_heldLogResult.mono _ _ _ _ _
      | exact laws_markByteS.mono _ _ _
      | exact laws_markLog.mono _ _ _ _
      | exact laws_markLogResult.mono _ _ _ _ _
      | exact laws_toByteS.mono _ _
      | exact laws_toLog.mono _ _ _
      | exact spec_AppendLog.mono _ _ _ _
      | exact LeO.none _
      | refine LeO.ite ?_ ?_
      | refine LeO.bind ?_ (fun _ => ?_)
    · intro y0 y1 y2 y3 y4 y5 y6 y7 y8 y9 y10 y11
      unfold laws_FnExactAppendLog.j4
      repeat' first
      | (with_reducible exact ih0 _ _ _)
      | (with_reducible exact ih1 _ _ _)
      | (with_reducible exact ih2 _ _ _ _ _ _ _ _ _ _ _ _)
      | (with_reducible exact ih3 _ _ _ _ _ _ _ _ _ _ _ _)
      | (with_reducible exact ih4 _ _ _ _ _ _ _ _ _ _ _ _)
      | (with_reducible exact ih5 _ _ _ _ _ _ _ _ _ _)
      | (with_reducible exact ih6 _ _ _ _ _ _ _ _ _)
      | (with_reducible exact ih7 _ _ _ _ _ _ _ _ _ _ _)
      | (with_reducible exact ih8 _ _ _ _ _ _ _ _ _ _)
      | (with_reducible exact ih9 _ _ _ _)
      | (with_reducible exact impl_AppendLog.mono _ _ _ _)
      | (with_reducible exact laws_eqByteS.mono _ _ _)
      | (with_reducible exact laws_eqLog.mono _ _ _ _ _)
      | (with_reducible exact laws_eqLogResult.mono _ _ _ _ _ _ _)
      | (with_reducible exact laws_heldLogResult.mono _ _ _ _ _)
      | (with_reducible exact laws_markByteS.mono _ _ _)
      | (with_reducible exact laws_markLog.mono _ _ _ _)
      | (with_reducible exact laws_markLogResult.mono _ _ _ _ _)
      | (with_reducible exact laws_toByteS.mono _ _)
      | (with_reducible exact laws_toLog.mono _ _ _)
      | (with_reducible exact spec_AppendLog.mono _ _ _ _)
      | (with_reducible exact LeO.refl _)
      | (with_reducible exact LeO.none _)
      | (with_reducible refine LeO.ite ?_ ?_)
      | (with_reducible refine LeO.bind ?_ (fun _ => ?_))
      | exact ih0 _ _ _
      | exact ih1 _ _ _
      | exact ih2 _ _ _ _ _ _ _ _ _ _ _ _
      | exact ih3 _ _ _ _ _ _ _ _ _ _ _ _
      | exact ih4 _ _ _ _ _ _ _ _ _ _ _ _
      | exact ih5 _ _ _ _ _ _ _ _ _ _
      | exact ih6 _ _ _ _ _ _ _ _ _
      | exact ih7 _ _ _ _ _ _ _ _ _ _ _
      | exact ih8 _ _ _ _ _ _ _ _ _ _
      | exact ih9 _ _ _ _
      | exact impl_AppendLog.mono _ _ _ _
      | exact laws_eqByteS.mono _ _ _
      | exact laws_eqLog.mono _ _ _ _ _
      | exact laws_eqLogResult.mono _ _ _ _ _ _ _
      | exact laws_heldLogResult.mono _ _ _ _ _
      | exact laws_markByteS.mono _ _ _
      | exact laws_markLog.mono _ _ _ _
      | exact laws_markLogResult.mono _ _ _ _ _
      | exact laws_toByteS.mono _ _
      | exact laws_toLog.mono _ _ _
      | exact spec_AppendLog.mono _ _ _ _
      | exact LeO.none _
      | refine LeO.ite ?_ ?_
      | refine LeO.bind ?_ (fun _ => ?_)
    · intro y0 y1 y2 y3 y4 y5 y6 y7 y8 y9
      unfold laws_FnExactAppendLog.j5
      repeat' first
      | (with_reducible exact ih0 _ _ _)
      | (with_reducible exact ih1 _ _ _)
      | (with_reducible exact ih2 _ _ _ _ _ _ _ _ _ _ _ _)
      | (with_reducible exact ih3 _ _ _ _ _ _ _ _ _ _ _ _)
      | (with_reducible exact ih4 _ _ _ _ _ _ _ _ _ _ _ _)
      | (with_reducible exact ih5 _ _ _ _ _ _ _ _ _ _)
      | (with_reducible exact ih6 _ _ _ _ _ _ _ _ _)
      | (with_reducible exact ih7 _ _ _ _ _ _ _ _ _ _ _)
      | (with_reducible exact ih8 _ _ _ _ _ _ _ _ _ _)
      | (with_reducible exact ih9 _ _ _ _)
      | (with_reducible exact impl_AppendLog.mono _ _ _ _)
      | (with_reducible exact laws_eqByteS.mono _ _ _)
      | (with_reducible exact laws_eqLog.mono _ _ _ _ _)
      | (with_reducible exact laws_eqLogResult.mono _ _ _ _ _ _ _)
      | (with_reducible exact laws_heldLogResult.mono _ _ _ _ _)
      | (with_reducible exact laws_markByteS.mono _ _ _)
      | (with_reducible exact laws_markLog.mono _ _ _ _)
      | (with_reducible exact laws_markLogResult.mono _ _ _ _ _)
      | (with_reducible exact laws_toByteS.mono _ _)
      | (with_reducible exact laws_toLog.mono _ _ _)
      | (with_reducible exact spec_AppendLog.mono _ _ _ _)
      | (with_reducible exact LeO.refl _)
      | (with_reducible exact LeO.none _)
      | (with_reducible refine LeO.ite ?_ ?_)
      | (with_reducible refine LeO.bind ?_ (fun _ => ?_))
      | exact ih0 _ _ _
      | exact ih1 _ _ _
      | exact ih2 _ _ _ _ _ _ _ _ _ _ _ _
      | exact ih3 _ _ _ _ _ _ _ _ _ _ _ _
      | exact ih4 _ _ _ _ _ _ _ _ _ _ _ _
      | exact ih5 _ _ _ _ _ _ _ _ _ _
      | exact ih6 _ _ _ _ _ _ _ _ _
      | exact ih7 _ _ _ _ _ _ _ _ _ _ _
      | exact ih8 _ _ _ _ _ _ _ _ _ _
      | exact ih9 _ _ _ _
      | exact impl_AppendLog.mono _ _ _ _
      | exact laws_eqByteS.mono _ _ _
      | exact laws_eqLog.mono _ _ _ _ _
      | exact laws_eqLogResult.mono _ _ _ _ _ _ _
      | exact laws_heldLogResult.mono _ _ _ _ _
      | exact laws_markByteS.mono _ _ _
      | exact laws_markLog.mono _ _ _ _
      | exact laws_markLogResult.mono _ _ _ _ _
      | exact laws_toByteS.mono _ _
      | exact laws_toLog.mono _ _ _
      | exact spec_AppendLog.mono _ _ _ _
      | exact LeO.none _
      | refine LeO.ite ?_ ?_
      | refine LeO.bind ?_ (fun _ => ?_)
    · intro y0 y1 y2 y3 y4 y5 y6 y7 y8
      unfold laws_FnExactAppendLog.j6
      repeat' first
      | (with_reducible exact ih0 _ _ _)
      | (with_reducible exact ih1 _ _ _)
      | (with_reducible exact ih2 _ _ _ _ _ _ _ _ _ _ _ _)
      | (with_reducible exact ih3 _ _ _ _ _ _ _ _ _ _ _ _)
      | (with_reducible exact ih4 _ _ _ _ _ _ _ _ _ _ _ _)
      | (with_reducible exact ih5 _ _ _ _ _ _ _ _ _ _)
      | (with_reducible exact ih6 _ _ _ _ _ _ _ _ _)
      | (with_reducible exact ih7 _ _ _ _ _ _ _ _ _ _ _)
      | (with_reducible exact ih8 _ _ _ _ _ _ _ _ _ _)
      | (with_reducible exact ih9 _ _ _ _)
      | (with_reducible exact impl_AppendLog.mono _ _ _ _)
      | (with_reducible exact laws_eqByteS.mono _ _ _)
      | (with_reducible exact laws_eqLog.mono _ _ _ _ _)
      | (with_reducible exact laws_eqLogResult.mono _ _ _ _ _ _ _)
      | (with_reducible exact laws_heldLogResult.mono _ _ _ _ _)
      | (with_reducible exact laws_markByteS.mono _ _ _)
      | (with_reducible exact laws_markLog.mono _ _ _ _)
      | (with_reducible exact laws_markLogResult.mono _ _ _ _ _)
      | (with_reducible exact laws_toByteS.mono _ _)
      | (with_reducible exact laws_toLog.mono _ _ _)
      | (with_reducible exact spec_AppendLog.mono _ _ _ _)
      | (with_reducible exact LeO.refl _)
      | (with_reducible exact LeO.none _)
      | (with_reducible refine LeO.ite ?_ ?_)
      | (with_reducible refine LeO.bind ?_ (fun _ => ?_))
      | exact ih0 _ _ _
      | exact ih1 _ _ _
      | exact ih2 _ _ _ _ _ _ _ _ _ _ _ _
      | exact ih3 _ _ _ _ _ _ _ _ _ _ _ _
      | exact ih4 _ _ _ _ _ _ _ _ _ _ _ _
      | exact ih5 _ _ _ _ _ _ _ _ _ _
      | exact ih6 _ _ _ _ _ _ _ _ _
      | exact ih7 _ _ _ _ _ _ _ _ _ _ _
      | exact ih8 _ _ _ _ _ _ _ _ _ _
      | exact ih9 _ _ _ _
      | exact impl_AppendLog.mono _ _ _ _
      | exact laws_eqByteS.mono _ _ _
      | exact laws_eqLog.mono _ _ _ _ _
      | exact laws_eqLogResult.mono _ _ _ _ _ _ _
      | exact laws_heldLogResult.mono _ _ _ _ _
      | exact laws_markByteS.mono _ _ _
      | exact laws_markLog.mono _ _ _ _
      | exact laws_markLogResult.mono _ _ _ _ _
      | exact laws_toByteS.mono _ _
      | exact laws_toLog.mono _ _ _
      | exact spec_AppendLog.mono _ _ _ _
      | exact LeO.none _
      | refine LeO.ite ?_ ?_
      | refine LeO.bind ?_ (fun _ => ?_)
    · intro y0 y1 y2 y3 y4 y5 y6 y7 y8 y9 y10
      unfold laws_FnExactAppendLog.j7
      repeat' first
      | (with_reducible exact ih0 _ _ _)
      | (with_reducible exact ih1 _ _ _)
      | (with_reducible exact ih2 _ _ _ _ _ _ _ _ _ _ _ _)
      | (with_reducible exact ih3 _ _ _ _ _ _ _ _ _ _ _ _)
      | (with_reducible exact ih4 _ _ _ _ _ _ _ _ _ _ _ _)
      | (with_reducible exact ih5 _ _ _ _ _ _ _ _ _ _)
      | (with_reducible exact ih6 _ _ _ _ _ _ _ _ _)
      | (with_reducible exact ih7 _ _ _ _ _ _ _ _ _ _ _)
      | (with_reducible exact ih8 _ _ _ _ _ _ _ _ _ _)
      | (with_reducible exact ih9 _ _ _ _)
      | (with_reducible exact impl_AppendLog.mono _ _ _ _)
      | (with_reducible exact laws_eqByteS.mono _ _ _)
      | (with_reducible exact laws_eqLog.mono _ _ _ _ _)
      | (with_reducible exact laws_eqLogResult.mono _ _ _ _ _ _ _)
      | (with_reducible exact laws_heldLogResult.mono _ _ _ _ _)
      | (with_reducible exact laws_markByteS.mono _ _ _)
      | (with_reducible exact laws_markLog.mono _ _ _ _)
      | (with_reducible exact laws_markLogResult.mono _ _ _ _ _)
      | (with_reducible exact laws_toByteS.mono _ _)
      | (with_reducible exact laws_toLog.mono _ _ _)
      | (with_reducible exact spec_AppendLog.mono _ _ _ _)
      | (with_reducible exact LeO.refl _)
      | (with_reducible exact LeO.none _)
      | (with_reducible refine LeO.ite ?_ ?_)
      | (with_reducible refine LeO.bind ?_ (fun _ => ?_))
      | exact ih0 _ _ _
      | exact ih1 _ _ _
      | exact ih2 _ _ _ _ _ _ _ _ _ _ _ _
      | exact ih3 _ _ _ _ _ _ _ _ _ _ _ _
      | exact ih4 _ _ _ _ _ _ _ _ _ _ _ _
      | exact ih5 _ _ _ _ _ _ _ _ _ _
      | exact ih6 _ _ _ _ _ _ _ _ _
      | exact ih7 _ _ _ _ _ _ _ _ _ _ _
      | exact ih8 _ _ _ _ _ _ _ _ _ _
      | exact ih9 _ _ _ _
      | exact impl_AppendLog.mono _ _ _ _
      | exact laws_eqByteS.mono _ _ _
      | exact laws_eqLog.mono _ _ _ _ _
      | exact laws_eqLogResult.mono _ _ _ _ _ _ _
      | exact laws_heldLogResult.mono _ _ _ _ _
      | exact laws_markByteS.mono _ _ _
      | exact laws_markLog.mono _ _ _ _
      | exact laws_markLogResult.mono _ _ _ _ _
      | exact laws_toByteS.mono _ _
      | exact laws_toLog.mono _ _ _
      | exact spec_AppendLog.mono _ _ _ _
      | exact LeO.none _
      | refine LeO.ite ?_ ?_
      | refine LeO.bind ?_ (fun _ => ?_)
    · intro y0 y1 y2 y3 y4 y5 y6 y7 y8 y9
      unfold laws_FnExactAppendLog.j8
      repeat' first
      | (with_reducible exact ih0 _ _ _)
      | (with_reducible exact ih1 _ _ _)
      | (with_reducible exact ih2 _ _ _ _ _ _ _ _ _ _ _ _)
      | (with_reducible exact ih3 _ _ _ _ _ _ _ _ _ _ _ _)
      | (with_reducible exact ih4 _ _ _ _ _ _ _ _ _ _ _ _)
      | (with_reducible exact ih5 _ _ _ _ _ _ _ _ _ _)
      | (with_reducible exact ih6 _ _ _ _ _ _ _ _ _)
      | (with_reducible exact ih7 _ _ _ _ _ _ _ _ _ _ _)
      | (with_reducible exact ih8 _ _ _ _ _ _ _ _ _ _)
      | (with_reducible exact ih9 _ _ _ _)
      | (with_reducible exact impl_AppendLog.mono _ _ _ _)
      | (with_reducible exact laws_eqByteS.mono _ _ _)
      | (with_reducible exact laws_eqLog.mono _ _ _ _ _)
      | (with_reducible exact laws_eqLogResult.mono _ _ _ _ _ _ _)
      | (with_reducible exact laws_heldLogResult.mono _ _ _ _ _)
      | (with_reducible exact laws_markByteS.mono _ _ _)
      | (with_reducible exact laws_markLog.mono _ _ _ _)
      | (with_reducible exact laws_markLogResult.mono _ _ _ _ _)
      | (with_reducible exact laws_toByteS.mono _ _)
      | (with_reducible exact laws_toLog.mono _ _ _)
      | (with_reducible exact spec_AppendLog.mono _ _ _ _)
      | (with_reducible exact LeO.refl _)
      | (with_reducible exact LeO.none _)
      | (with_reducible refine LeO.ite ?_ ?_)
      | (with_reducible refine LeO.bind ?_ (fun _ => ?_))
      | exact ih0 _ _ _
      | exact ih1 _ _ _
      | exact ih2 _ _ _ _ _ _ _ _ _ _ _ _
      | exact ih3 _ _ _ _ _ _ _ _ _ _ _ _
      | exact ih4 _ _ _ _ _ _ _ _ _ _ _ _
      | exact ih5 _ _ _ _ _ _ _ _ _ _
      | exact ih6 _ _ _ _ _ _ _ _ _
      | exact ih7 _ _ _ _ _ _ _ _ _ _ _
      | exact ih8 _ _ _ _ _ _ _ _ _ _
      | exact ih9 _ _ _ _
      | exact impl_AppendLog.mono _ _ _ _
      | exact laws_eqByteS.mono _ _ _
      | exact laws_eqLog.mono _ _ _ _ _
      | exact laws_eqLogResult.mono _ _ _ _ _ _ _
      | exact laws_heldLogResult.mono _ _ _ _ _
      | exact laws_markByteS.mono _ _ _
      | exact laws_markLog.mono _ _ _ _
      | exact laws_markLogResult.mono _ _ _ _ _
      | exact laws_toByteS.mono _ _
      | exact laws_toLog.mono _ _ _
      | exact spec_AppendLog.mono _ _ _ _
      | exact LeO.none _
      | refine LeO.ite ?_ ?_
      | refine LeO.bind ?_ (fun _ => ?_)
    · intro y0 y1 y2 y3
      unfold laws_FnExactAppendLog.j9
      repeat' first
      | (with_reducible exact ih0 _ _ _)
      | (with_reducible exact ih1 _ _ _)
      | (with_reducible exact ih2 _ _ _ _ _ _ _ _ _ _ _ _)
      | (with_reducible exact ih3 _ _ _ _ _ _ _ _ _ _ _ _)
      | (with_reducible exact ih4 _ _ _ _ _ _ _ _ _ _ _ _)
      | (with_reducible exact ih5 _ _ _ _ _ _ _ _ _ _)
      | (with_reducible exact ih6 _ _ _ _ _ _ _ _ _)
      | (with_reducible exact ih7 _ _ _ _ _ _ _ _ _ _ _)
      | (with_reducible exact ih8 _ _ _ _ _ _ _ _ _ _)
      | (with_reducible exact ih9 _ _ _ _)
      | (with_reducible exact impl_AppendLog.mono _ _ _ _)
      | (with_reducible exact laws_eqByteS.mono _ _ _)
      | (with_reducible exact laws_eqLog.mono _ _ _ _ _)
      | (with_reducible exact laws_eqLogResult.mono _ _ _ _ _ _ _)
      | (with_reducible exact laws_heldLogResult.mono _ _ _ _ _)
      | (with_reducible exact laws_markByteS.mono _ _ _)
      | (with_reducible exact laws_markLog.mono _ _ _ _)
      | (with_reducible exact laws_markLogResult.mono _ _ _ _ _)
      | (with_reducible exact laws_toByteS.mono _ _)
      | (with_reducible exact laws_toLog.mono _ _ _)
      | (with_reducible exact spec_AppendLog.mono _ _ _ _)
      | (with_reducible exact LeO.refl _)
      | (with_reducible exact LeO.none _)
      | (with_reducible refine LeO.ite ?_ ?_)
      | (with_reducible refine LeO.bind ?_ (fun _ => ?_))
      | exact ih0 _ _ _
      | exact ih1 _ _ _
      | exact ih2 _ _ _ _ _ _ _ _ _ _ _ _
      | exact ih3 _ _ _ _ _ _ _ _ _ _ _ _
      | exact ih4 _ _ _ _ _ _ _ _ _ _ _ _
      | exact ih5 _ _ _ _ _ _ _ _ _ _
      | exact ih6 _ _ _ _ _ _ _ _ _
      | exact ih7 _ _ _ _ _ _ _ _ _ _ _
      | exact ih8 _ _ _ _ _ _ _ _ _ _
      | exact ih9 _ _ _ _
      | exact impl_AppendLog.mono _ _ _ _
      | exact laws_eqByteS.mono _ _ _
      | exact laws_eqLog.mono _ _ _ _ _
      | exact laws_eqLogResult.mono _ _ _ _ _ _ _
      | exact laws_heldLogResult.mono _ _ _ _ _
      | exact laws_markByteS.mono _ _ _
      | exact laws_markLog.mono _ _ _ _
      | exact laws_markLogResult.mono _ _ _ _ _
      | exact laws_toByteS.mono _ _
      | exact laws_toLog.mono _ _ _
      | exact spec_AppendLog.mono _ _ _ _
      | exact LeO.none _
      | refine LeO.ite ?_ ?_
      | refine LeO.bind ?_ (fun _ => ?_)
theorem laws_FnExactAppendLog.mono : ∀ a0 a1 a2 k, LeO (laws_FnExactAppendLog.f k a0 a1 a2) (laws_FnExactAppendLog.f (k + 1) a0 a1 a2) := by
  intro a0 a1 a2 k
  obtain ⟨ih0, ih1, ih2, ih3, ih4, ih5, ih6, ih7, ih8, ih9⟩ := laws_FnExactAppendLog.mono_l k
  unfold laws_FnExactAppendLog.f
  repeat' first
      | (with_reducible exact ih0 _ _ _)
      | (with_reducible exact ih1 _ _ _)
      | (with_reducible exact ih2 _ _ _ _ _ _ _ _ _ _ _ _)
      | (with_reducible exact ih3 _ _ _ _ _ _ _ _ _ _ _ _)
      | (with_reducible exact ih4 _ _ _ _ _ _ _ _ _ _ _ _)
      | (with_reducible exact ih5 _ _ _ _ _ _ _ _ _ _)
      | (with_reducible exact ih6 _ _ _ _ _ _ _ _ _)
      | (with_reducible exact ih7 _ _ _ _ _ _ _ _ _ _ _)
      | (with_reducible exact ih8 _ _ _ _ _ _ _ _ _ _)
      | (with_reducible exact ih9 _ _ _ _)
      | (with_reducible exact impl_AppendLog.mono _ _ _ _)
      | (with_reducible exact laws_eqByteS.mono _ _ _)
      | (with_reducible exact laws_eqLog.mono _ _ _ _ _)
      | (with_reducible exact laws_eqLogResult.mono _ _ _ _ _ _ _)
      | (with_reducible exact laws_heldLogResult.mono _ _ _ _ _)
      | (with_reducible exact laws_markByteS.mono _ _ _)
      | (with_reducible exact laws_markLog.mono _ _ _ _)
      | (with_reducible exact laws_markLogResult.mono _ _ _ _ _)
      | (with_reducible exact laws_toByteS.mono _ _)
      | (with_reducible exact laws_toLog.mono _ _ _)
      | (with_reducible exact spec_AppendLog.mono _ _ _ _)
      | (with_reducible exact LeO.refl _)
      | (with_reducible exact LeO.none _)
      | (with_reducible refine LeO.ite ?_ ?_)
      | (with_reducible refine LeO.bind ?_ (fun _ => ?_))
      | exact ih0 _ _ _
      | exact ih1 _ _ _
      | exact ih2 _ _ _ _ _ _ _ _ _ _ _ _
      | exact ih3 _ _ _ _ _ _ _ _ _ _ _ _
      | exact ih4 _ _ _ _ _ _ _ _ _ _ _ _
      | exact ih5 _ _ _ _ _ _ _ _ _ _
      | exact ih6 _ _ _ _ _ _ _ _ _
      | exact ih7 _ _ _ _ _ _ _ _ _ _ _
      | exact ih8 _ _ _ _ _ _ _ _ _ _
      | exact ih9 _ _ _ _
      | exact impl_AppendLog.mono _ _ _ _
      | exact laws_eqByteS.mono _ _ _
      | exact laws_eqLog.mono _ _ _ _ _
      | exact laws_eqLogResult.mono _ _ _ _ _ _ _
      | exact laws_heldLogResult.mono _ _ _ _ _
      | exact laws_markByteS.mono _ _ _
      | exact laws_markLog.mono _ _ _ _
      | exact laws_markLogResult.mono _ _ _ _ _
      | exact laws_toByteS.mono _ _
      | exact laws_toLog.mono _ _ _
      | exact spec_AppendLog.mono _ _ _ _
      | exact LeO.none _
      | refine LeO.ite ?_ ?_
      | refine LeO.bind ?_ (fun _ => ?_)

end Go.Proofs.Ytcdpiejcdeedoaa.PFnExactAppendLog
