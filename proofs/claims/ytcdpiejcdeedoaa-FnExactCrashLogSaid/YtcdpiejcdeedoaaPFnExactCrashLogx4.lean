/- The functions that a law reaches, each as a plain Lean function with the proof that the machine comes to its answer: written by program (the kit's print, turned by wip/gen). No conditions. -/
import Derived.Test.YtcdpiejcdeedoaaPFnExactCrashLogx0
import Derived.Test.YtcdpiejcdeedoaaPFnExactCrashLogx1
import Derived.Test.YtcdpiejcdeedoaaPFnExactCrashLogx2
import Derived.Test.YtcdpiejcdeedoaaPFnExactCrashLogx3
namespace Go.Proofs.Ytcdpiejcdeedoaa.PFnExactCrashLog
open Go.RowKit Go.Proofs.YtcdpiejcdeedoaaW.PrintWords Go.Proofs.YtcdpiejcdeedoaaW.PrintLast Go.Proofs.YtcdpiejcdeedoaaW.PrintMore
attribute [local go_sem] max2_int min2_int max_two min_two max_three min_three max_four min_four   -- for this text's walks alone
set_option linter.unusedVariables false
set_option linter.unusedSimpArgs false

/-! ### laws_FnExactCrashLog: function 8 -/
mutual
def laws_FnExactCrashLog.j0 : Nat → Int → List Int → List Int → Option (Bool)
  | 0, _, _, _ => none
  | k + 1, x1, x192000, x192001 => (laws_toLog.f k x192000 x192001).bind fun bt193 => ((spec_CrashLog.f bt193.1 bt193.2 x1).bind fun bt199 => ((laws_toLog.f k x192000 x192001).bind fun bt207 => ((impl_CrashLog.f k bt207.1 bt207.2 x1).bind fun bt214 => ((laws_eqLogResult.f k bt214.1 bt214.2.1 bt214.2.2 bt199.1 bt199.2.1 bt199.2.2).bind fun t222 => (if t222 = true then (laws_FnExactCrashLog.j1 k x1 x192000 x192001 bt199.1 bt199.2.1 bt199.2.2 bt207.1 bt207.2 bt214.1 bt214.2.1 bt214.2.2) else (some false))))))
def laws_FnExactCrashLog.j1 : Nat → Int → List Int → List Int → Int → List Int → List Int → List Int → List Int → Int → List Int → List Int → Option (Bool)
  | 0, _, _, _, _, _, _, _, _, _, _, _ => none
  | k + 1, x1, x192000, x192001, x207000, x207001, x207002, x214000, x214001, x222000, x222001, x222002 => (laws_toLog.f k x192000 x192001).bind fun bt223 => ((laws_eqLog.f k x214000 x214001 bt223.1 bt223.2).bind fun t229 => (if t229 = true then (laws_FnExactCrashLog.j2 k x1 x192000 x192001 x207000 x207001 x207002 x214000 x214001 x222000 x222001 x222002) else (some false)))
def laws_FnExactCrashLog.j2 : Nat → Int → List Int → List Int → Int → List Int → List Int → List Int → List Int → Int → List Int → List Int → Option (Bool)
  | 0, _, _, _, _, _, _, _, _, _, _, _ => none
  | k + 1, x1, x192000, x192001, x207000, x207001, x207002, x214000, x214001, x222000, x222001, x222002 => (laws_markLog.f k x214000 x214001 1).bind fun bt230 => (if bt230.1 < 0 then (laws_FnExactCrashLog.j3 k x1 true x192000 x192001 x207000 x207001 x207002 x222000 x222001 x222002) else ((laws_eqLogResult.f k x222000 x222001 x222002 x207000 x207001 x207002).bind fun t233 => (laws_FnExactCrashLog.j3 k x1 (!t233) x192000 x192001 x207000 x207001 x207002 x222000 x222001 x222002)))
def laws_FnExactCrashLog.j3 : Nat → Int → Bool → List Int → List Int → Int → List Int → List Int → Int → List Int → List Int → Option (Bool)
  | 0, _, _, _, _, _, _, _, _, _, _ => none
  | k + 1, x1, x46, x192000, x192001, x207000, x207001, x207002, x222000, x222001, x222002 => if x46 = true then (some false) else (laws_FnExactCrashLog.j4 k x1 x192000 x192001 x207000 x207001 x207002 x222000 x222001 x222002)
def laws_FnExactCrashLog.j4 : Nat → Int → List Int → List Int → Int → List Int → List Int → Int → List Int → List Int → Option (Bool)
  | 0, _, _, _, _, _, _, _, _, _ => none
  | k + 1, x1, x192000, x192001, x207000, x207001, x207002, x222000, x222001, x222002 => (laws_markLogResult.f k x222000 x222001 x222002 1).bind fun bt234 => ((laws_heldLogResult.f k x222000 bt234.2.1 bt234.2.2 1).bind fun t237 => (if t237 < 0 then (some false) else (laws_FnExactCrashLog.j5 k x1 bt234.1 t237 x192000 x192001 x207000 x207001 x207002 x222000 bt234.2.1 bt234.2.2)))
def laws_FnExactCrashLog.j5 : Nat → Int → Int → Int → List Int → List Int → Int → List Int → List Int → Int → List Int → List Int → Option (Bool)
  | 0, _, _, _, _, _, _, _, _, _, _, _ => none
  | k + 1, x1, x10, x11, x192000, x192001, x207000, x207001, x207002, x222000, x222001, x222002 => if x11 = x10 then (laws_FnExactCrashLog.j6 k x1 x10 x192000 x192001 x207000 x207001 x207002 x222000 x222001 x222002) else (some false)
def laws_FnExactCrashLog.j6 : Nat → Int → Int → List Int → List Int → Int → List Int → List Int → Int → List Int → List Int → Option (Bool)
  | 0, _, _, _, _, _, _, _, _, _, _ => none
  | k + 1, x1, x10, x192000, x192001, x207000, x207001, x207002, x222000, x222001, x222002 => (laws_toLog.f k x192000 x192001).bind fun bt238 => ((impl_CrashLog.f k bt238.1 bt238.2 x1).bind fun bt244 => ((laws_eqLogResult.f k bt244.1 bt244.2.1 bt244.2.2 x207000 x207001 x207002).bind fun t252 => (if t252 = true then (laws_FnExactCrashLog.j7 k x10 x222000 x222001 x222002) else (some false))))
def laws_FnExactCrashLog.j7 : Nat → Int → Int → List Int → List Int → Option (Bool)
  | 0, _, _, _, _ => none
  | k + 1, x10, x222000, x222001, x222002 => (laws_heldLogResult.f k x222000 x222001 x222002 1).bind fun t253 => (if t253 < 0 then (some false) else (if t253 = x10 then (some true) else (some false)))
end
def laws_FnExactCrashLog.f (k : Nat) (l0_0 : List Int) (l0_1 : List Int) (a1 : Int) : Option (Bool) := (laws_szLog.f l0_0 l0_1 1048576).bind fun t192 => (if t192 < 0 then (some true) else (laws_FnExactCrashLog.j0 k a1 l0_0 l0_1))
theorem laws_FnExactCrashLog.mono_l : ∀ k, (∀ y0 y1 y2, LeO (laws_FnExactCrashLog.j0 k y0 y1 y2) (laws_FnExactCrashLog.j0 (k + 1) y0 y1 y2)) ∧ (∀ y0 y1 y2 y3 y4 y5 y6 y7 y8 y9 y10, LeO (laws_FnExactCrashLog.j1 k y0 y1 y2 y3 y4 y5 y6 y7 y8 y9 y10) (laws_FnExactCrashLog.j1 (k + 1) y0 y1 y2 y3 y4 y5 y6 y7 y8 y9 y10)) ∧ (∀ y0 y1 y2 y3 y4 y5 y6 y7 y8 y9 y10, LeO (laws_FnExactCrashLog.j2 k y0 y1 y2 y3 y4 y5 y6 y7 y8 y9 y10) (laws_FnExactCrashLog.j2 (k + 1) y0 y1 y2 y3 y4 y5 y6 y7 y8 y9 y10)) ∧ (∀ y0 y1 y2 y3 y4 y5 y6 y7 y8 y9, LeO (laws_FnExactCrashLog.j3 k y0 y1 y2 y3 y4 y5 y6 y7 y8 y9) (laws_FnExactCrashLog.j3 (k + 1) y0 y1 y2 y3 y4 y5 y6 y7 y8 y9)) ∧ (∀ y0 y1 y2 y3 y4 y5 y6 y7 y8, LeO (laws_FnExactCrashLog.j4 k y0 y1 y2 y3 y4 y5 y6 y7 y8) (laws_FnExactCrashLog.j4 (k + 1) y0 y1 y2 y3 y4 y5 y6 y7 y8)) ∧ (∀ y0 y1 y2 y3 y4 y5 y6 y7 y8 y9 y10, LeO (laws_FnExactCrashLog.j5 k y0 y1 y2 y3 y4 y5 y6 y7 y8 y9 y10) (laws_FnExactCrashLog.j5 (k + 1) y0 y1 y2 y3 y4 y5 y6 y7 y8 y9 y10)) ∧ (∀ y0 y1 y2 y3 y4 y5 y6 y7 y8 y9, LeO (laws_FnExactCrashLog.j6 k y0 y1 y2 y3 y4 y5 y6 y7 y8 y9) (laws_FnExactCrashLog.j6 (k + 1) y0 y1 y2 y3 y4 y5 y6 y7 y8 y9)) ∧ (∀ y0 y1 y2 y3, LeO (laws_FnExactCrashLog.j7 k y0 y1 y2 y3) (laws_FnExactCrashLog.j7 (k + 1) y0 y1 y2 y3))
  | 0 => ⟨fun _ _ _ r h => by simp [laws_FnExactCrashLog.j0] at h, fun _ _ _ _ _ _ _ _ _ _ _ r h => by simp [laws_FnExactCrashLog.j1] at h, fun _ _ _ _ _ _ _ _ _ _ _ r h => by simp [laws_FnExactCrashLog.j2] at h, fun _ _ _ _ _ _ _ _ _ _ r h => by simp [laws_FnExactCrashLog.j3] at h, fun _ _ _ _ _ _ _ _ _ r h => by simp [laws_FnExactCrashLog.j4] at h, fun _ _ _ _ _ _ _ _ _ _ _ r h => by simp [laws_FnExactCrashLog.j5] at h, fun _ _ _ _ _ _ _ _ _ _ r h => by simp [laws_FnExactCrashLog.j6] at h, fun _ _ _ _ r h => by simp [laws_FnExactCrashLog.j7] at h⟩
  | k + 1 => by
    obtain ⟨ih0, ih1, ih2, ih3, ih4, ih5, ih6, ih7⟩ := laws_FnExactCrashLog.mono_l k
    refine ⟨?_, ?_, ?_, ?_, ?_, ?_, ?_, ?_⟩
    · intro y0 y1 y2
      unfold laws_FnExactCrashLog.j0
      repeat' first
      | (with_reducible exact ih0 _ _ _)
      | (with_reducible exact ih1 _ _ _ _ _ _ _ _ _ _ _)
      | (with_reducible exact ih2 _ _ _ _ _ _ _ _ _ _ _)
      | (with_reducible exact ih3 _ _ _ _ _ _ _ _ _ _)
      | (with_reducible exact ih4 _ _ _ _ _ _ _ _ _)
      | (with_reducible exact ih5 _ _ _ _ _ _ _ _ _ _ _)
      | (with_reducible exact ih6 _ _ _ _ _ _ _ _ _ _)
      | (with_reducible exact ih7 _ _ _ _)
      | (with_reducible exact impl_CrashLog.mono _ _ _ _)
      | (with_reducible exact laws_eqLog.mono _ _ _ _ _)
      | (with_reducible exact laws_eqLogResult.mono _ _ _ _ _ _ _)
      | (with_reducible exact laws_heldLogResult.mono _ _ _ _ _)
      | (with_reducible exact laws_markLog.mono _ _ _ _)
      | (with_reducible exact laws_markLogResult.mono _ _ _ _ _)
      | (with_reducible exact laws_toLog.mono _ _ _)
      | (with_reducible exact LeO.refl _)
      | (with_reducible exact LeO.none _)
      | (with_reducible refine LeO.ite ?_ ?_)
      | (with_reducible refine LeO.bind ?_ (fun _ => ?_))
      | exact ih0 _ _ _
      | exact ih1 _ _ _ _ _ _ _ _ _ _ _
      | exact ih2 _ _ _ _ _ _ _ _ _ _ _
      | exact ih3 _ _ _ _ _ _ _ _ _ _
      | exact ih4 _ _ _ _ _ _ _ _ _
      | exact ih5 _ _ _ _ _ _ _ _ _ _ _
      | exact ih6 _ _ _ _ _ _ _ _ _ _
      | exact ih7 _ _ _ _
      | exact impl_CrashLog.mono _ _ _ _
      | exact laws_eqLog.mono _ _ _ _ _
      | exact laws_eqLogResult.mono _ _ _ _ _ _ _
      | exact laws_heldLogResult.mono _ _ _ _ _
      | exact laws_markLog.mono _ _ _ _
      | exact laws_markLogResult.mono _ _ _ _ _
      | exact laws_toLog.mono _ _ _
      | exact LeO.none _
      | refine LeO.ite ?_ ?_
      | refine LeO.bind ?_ (fun _ => ?_)
    · intro y0 y1 y2 y3 y4 y5 y6 y7 y8 y9 y10
      unfold laws_FnExactCrashLog.j1
      repeat' first
      | (with_reducible exact ih0 _ _ _)
      | (with_reducible exact ih1 _ _ _ _ _ _ _ _ _ _ _)
      | (with_reducible exact ih2 _ _ _ _ _ _ _ _ _ _ _)
      | (with_reducible exact ih3 _ _ _ _ _ _ _ _ _ _)
      | (with_reducible exact ih4 _ _ _ _ _ _ _ _ _)
      | (with_reducible exact ih5 _ _ _ _ _ _ _ _ _ _ _)
      | (with_reducible exact ih6 _ _ _ _ _ _ _ _ _ _)
      | (with_reducible exact ih7 _ _ _ _)
      | (with_reducible exact impl_CrashLog.mono _ _ _ _)
      | (with_reducible exact laws_eqLog.mono _ _ _ _ _)
      | (with_reducible exact laws_eqLogResult.mono _ _ _ _ _ _ _)
      | (with_reducible exact laws_heldLogResult.mono _ _ _ _ _)
      | (with_reducible exact laws_markLog.mono _ _ _ _)
      | (with_reducible exact laws_markLogResult.mono _ _ _ _ _)
      | (with_reducible exact laws_toLog.mono _ _ _)
      | (with_reducible exact LeO.refl _)
      | (with_reducible exact LeO.none _)
      | (with_reducible refine LeO.ite ?_ ?_)
      | (with_reducible refine LeO.bind ?_ (fun _ => ?_))
      | exact ih0 _ _ _
      | exact ih1 _ _ _ _ _ _ _ _ _ _ _
      | exact ih2 _ _ _ _ _ _ _ _ _ _ _
      | exact ih3 _ _ _ _ _ _ _ _ _ _
      | exact ih4 _ _ _ _ _ _ _ _ _
      | exact ih5 _ _ _ _ _ _ _ _ _ _ _
      | exact ih6 _ _ _ _ _ _ _ _ _ _
      | exact ih7 _ _ _ _
      | exact impl_CrashLog.mono _ _ _ _
      | exact laws_eqLog.mono _ _ _ _ _
      | exact laws_eqLogResult.mono _ _ _ _ _ _ _
      | exact laws_heldLogResult.mono _ _ _ _ _
      | exact laws_markLog.mono _ _ _ _
      | exact laws_markLogResult.mono _ _ _ _ _
      | exact laws_toLog.mono _ _ _
      | exact LeO.none _
      | refine LeO.ite ?_ ?_
      | refine LeO.bind ?_ (fun _ => ?_)
    · intro y0 y1 y2 y3 y4 y5 y6 y7 y8 y9 y10
      unfold laws_FnExactCrashLog.j2
      repeat' first
      | (with_reducible exact ih0 _ _ _)
      | (with_reducible exact ih1 _ _ _ _ _ _ _ _ _ _ _)
      | (with_reducible exact ih2 _ _ _ _ _ _ _ _ _ _ _)
      | (with_reducible exact ih3 _ _ _ _ _ _ _ _ _ _)
      | (with_reducible exact ih4 _ _ _ _ _ _ _ _ _)
      | (with_reducible exact ih5 _ _ _ _ _ _ _ _ _ _ _)
      | (with_reducible exact ih6 _ _ _ _ _ _ _ _ _ _)
      | (with_reducible exact ih7 _ _ _ _)
      | (with_reducible exact impl_CrashLog.mono _ _ _ _)
      | (with_reducible exact laws_eqLog.mono _ _ _ _ _)
      | (with_reducible exact laws_eqLogResult.mono _ _ _ _ _ _ _)
      | (with_reducible exact laws_heldLogResult.mono _ _ _ _ _)
      | (with_reducible exact laws_markLog.mono _ _ _ _)
      | (with_reducible exact laws_markLogResult.mono _ _ _ _ _)
      | (with_reducible exact laws_toLog.mono _ _ _)
      | (with_reducible exact LeO.refl _)
      | (with_reducible exact LeO.none _)
      | (with_reducible refine LeO.ite ?_ ?_)
      | (with_reducible refine LeO.bind ?_ (fun _ => ?_))
      | exact ih0 _ _ _
      | exact ih1 _ _ _ _ _ _ _ _ _ _ _
      | exact ih2 _ _ _ _ _ _ _ _ _ _ _
      | exact ih3 _ _ _ _ _ _ _ _ _ _
      | exact ih4 _ _ _ _ _ _ _ _ _
      | exact ih5 _ _ _ _ _ _ _ _ _ _ _
      | exact ih6 _ _ _ _ _ _ _ _ _ _
      | exact ih7 _ _ _ _
      | exact impl_CrashLog.mono _ _ _ _
      | exact laws_eqLog.mono _ _ _ _ _
      | exact laws_eqLogResult.mono _ _ _ _ _ _ _
      | exact laws_heldLogResult.mono _ _ _ _ _
      | exact laws_markLog.mono _ _ _ _
      | exact laws_markLogResult.mono _ _ _ _ _
      | exact laws_toLog.mono _ _ _
      | exact LeO.none _
      | refine LeO.ite ?_ ?_
      | refine LeO.bind ?_ (fun _ => ?_)
    · intro y0 y1 y2 y3 y4 y5 y6 y7 y8 y9
      unfold laws_FnExactCrashLog.j3
      repeat' first
      | (with_reducible exact ih0 _ _ _)
      | (with_reducible exact ih1 _ _ _ _ _ _ _ _ _ _ _)
      | (with_reducible exact ih2 _ _ _ _ _ _ _ _ _ _ _)
      | (with_reducible exact ih3 _ _ _ _ _ _ _ _ _ _)
      | (with_reducible exact ih4 _ _ _ _ _ _ _ _ _)
      | (with_reducible exact ih5 _ _ _ _ _ _ _ _ _ _ _)
      | (with_reducible exact ih6 _ _ _ _ _ _ _ _ _ _)
      | (with_reducible exact ih7 _ _ _ _)
      | (with_reducible exact impl_CrashLog.mono _ _ _ _)
      | (with_reducible exact laws_eqLog.mono _ _ _ _ _)
      | (with_reducible exact laws_eqLogResult.mono _ _ _ _ _ _ _)
      | (with_reducible exact laws_heldLogResult.mono _ _ _ _ _)
      | (with_reducible exact laws_markLog.mono _ _ _ _)
      | (with_reducible exact laws_markLogResult.mono _ _ _ _ _)
      | (with_reducible exact laws_toLog.mono _ _ _)
      | (with_reducible exact LeO.refl _)
      | (with_reducible exact LeO.none _)
      | (with_reducible refine LeO.ite ?_ ?_)
      | (with_reducible refine LeO.bind ?_ (fun _ => ?_))
      | exact ih0 _ _ _
      | exact ih1 _ _ _ _ _ _ _ _ _ _ _
      | exact ih2 _ _ _ _ _ _ _ _ _ _ _
      | exact ih3 _ _ _ _ _ _ _ _ _ _
      | exact ih4 _ _ _ _ _ _ _ _ _
      | exact ih5 _ _ _ _ _ _ _ _ _ _ _
      | exact ih6 _ _ _ _ _ _ _ _ _ _
      | exact ih7 _ _ _ _
      | exact impl_CrashLog.mono _ _ _ _
      | exact laws_eqLog.mono _ _ _ _ _
      | exact laws_eqLogResult.mono _ _ _ _ _ _ _
      | exact laws_heldLogResult.mono _ _ _ _ _
      | exact laws_markLog.mono _ _ _ _
      | exact laws_markLogResult.mono _ _ _ _ _
      | exact laws_toLog.mono _ _ _
      | exact LeO.none _
      | refine LeO.ite ?_ ?_
      | refine LeO.bind ?_ (fun _ => ?_)
    · intro y0 y1 y2 y3 y4 y5 y6 y7 y8
      unfold laws_FnExactCrashLog.j4
      repeat' first
      | (with_reducible exact ih0 _ _ _)
      | (with_reducible exact ih1 _ _ _ _ _ _ _ _ _ _ _)
      | (with_reducible exact ih2 _ _ _ _ _ _ _ _ _ _ _)
      | (with_reducible exact ih3 _ _ _ _ _ _ _ _ _ _)
      | (with_reducible exact ih4 _ _ _ _ _ _ _ _ _)
      | (with_reducible exact ih5 _ _ _ _ _ _ _ _ _ _ _)
      | (with_reducible exact ih6 _ _ _ _ _ _ _ _ _ _)
      | (with_reducible exact ih7 _ _ _ _)
      | (with_reducible exact impl_CrashLog.mono _ _ _ _)
      | (with_reducible exact laws_eqLog.mono _ _ _ _ _)
      | (with_reducible exact laws_eqLogResult.mono _ _ _ _ _ _ _)
      | (with_reducible exact laws_heldLogResult.mono _ _ _ _ _)
      | (with_reducible exact laws_markLog.mono _ _ _ _)
      | (with_reducible exact laws_markLogResult.mono _ _ _ _ _)
      | (with_reducible exact laws_toLog.mono _ _ _)
      | (with_reducible exact LeO.refl _)
      | (with_reducible exact LeO.none _)
      | (with_reducible refine LeO.ite ?_ ?_)
      | (with_reducible refine LeO.bind ?_ (fun _ => ?_))
      | exact ih0 _ _ _
      | exact ih1 _ _ _ _ _ _ _ _ _ _ _
      | exact ih2 _ _ _ _ _ _ _ _ _ _ _
      | exact ih3 _ _ _ _ _ _ _ _ _ _
      | exact ih4 _ _ _ _ _ _ _ _ _
      | exact ih5 _ _ _ _ _ _ _ _ _ _ _
      | exact ih6 _ _ _ _ _ _ _ _ _ _
      | exact ih7 _ _ _ _
      | exact impl_CrashLog.mono _ _ _ _
      | exact laws_eqLog.mono _ _ _ _ _
      | exact laws_eqLogResult.mono _ _ _ _ _ _ _
      | exact laws_heldLogResult.mono _ _ _ _ _
      | exact laws_markLog.mono _ _ _ _
      | exact laws_markLogResult.mono _ _ _ _ _
      | exact laws_toLog.mono _ _ _
      | exact LeO.none _
      | refine LeO.ite ?_ ?_
      | refine LeO.bind ?_ (fun _ => ?_)
    · intro y0 y1 y2 y3 y4 y5 y6 y7 y8 y9 y10
      unfold laws_FnExactCrashLog.j5
      repeat' first
      | (with_reducible exact ih0 _ _ _)
      | (with_reducible exact ih1 _ _ _ _ _ _ _ _ _ _ _)
      | (with_reducible exact ih2 _ _ _ _ _ _ _ _ _ _ _)
      | (with_reducible exact ih3 _ _ _ _ _ _ _ _ _ _)
      | (with_reducible exact ih4 _ _ _ _ _ _ _ _ _)
      | (with_reducible exact ih5 _ _ _ _ _ _ _ _ _ _ _)
      | (with_reducible exact ih6 _ _ _ _ _ _ _ _ _ _)
      | (with_reducible exact ih7 _ _ _ _)
      | (with_reducible exact impl_CrashLog.mono _ _ _ _)
      | (with_reducible exact laws_eqLog.mono _ _ _ _ _)
      | (with_reducible exact laws_eqLogResult.mono _ _ _ _ _ _ _)
      | (with_reducible exact laws_heldLogResult.mono _ _ _ _ _)
      | (with_reducible exact laws_markLog.mono _ _ _ _)
      | (with_reducible exact laws_markLogResult.mono _ _ _ _ _)
      | (with_reducible exact laws_toLog.mono _ _ _)
      | (with_reducible exact LeO.refl _)
      | (with_reducible exact LeO.none _)
      | (with_reducible refine LeO.ite ?_ ?_)
      | (with_reducible refine LeO.bind ?_ (fun _ => ?_))
      | exact ih0 _ _ _
      | exact ih1 _ _ _ _ _ _ _ _ _ _ _
      | exact ih2 _ _ _ _ _ _ _ _ _ _ _
      | exact ih3 _ _ _ _ _ _ _ _ _ _
      | exact ih4 _ _ _ _ _ _ _ _ _
      | exact ih5 _ _ _ _ _ _ _ _ _ _ _
      | exact ih6 _ _ _ _ _ _ _ _ _ _
      | exact ih7 _ _ _ _
      | exact impl_CrashLog.mono _ _ _ _
      | exact laws_eqLog.mono _ _ _ _ _
      | exact laws_eqLogResult.mono _ _ _ _ _ _ _
      | exact laws_heldLogResult.mono _ _ _ _ _
      | exact laws_markLog.mono _ _ _ _
      | exact laws_markLogResult.mono _ _ _ _ _
      | exact laws_toLog.mono _ _ _
      | exact LeO.none _
      | refine LeO.ite ?_ ?_
      | refine LeO.bind ?_ (fun _ => ?_)
    · intro y0 y1 y2 y3 y4 y5 y6 y7 y8 y9
      unfold laws_FnExactCrashLog.j6
      repeat' first
      | (with_reducible exact ih0 _ _ _)
      | (with_reducible exact ih1 _ _ _ _ _ _ _ _ _ _ _)
      | (with_reducible exact ih2 _ _ _ _ _ _ _ _ _ _ _)
      | (with_reducible exact ih3 _ _ _ _ _ _ _ _ _ _)
      | (with_reducible exact ih4 _ _ _ _ _ _ _ _ _)
      | (with_reducible exact ih5 _ _ _ _ _ _ _ _ _ _ _)
      | (with_reducible exact ih6 _ _ _ _ _ _ _ _ _ _)
      | (with_reducible exact ih7 _ _ _ _)
      | (with_reducible exact impl_CrashLog.mono _ _ _ _)
      | (with_reducible exact laws_eqLog.mono _ _ _ _ _)
      | (with_reducible exact laws_eqLogResult.mono _ _ _ _ _ _ _)
      | (with_reducible exact laws_heldLogResult.mono _ _ _ _ _)
      | (with_reducible exact laws_markLog.mono _ _ _ _)
      | (with_reducible exact laws_markLogResult.mono _ _ _ _ _)
      | (with_reducible exact laws_toLog.mono _ _ _)
      | (with_reducible exact LeO.refl _)
      | (with_reducible exact LeO.none _)
      | (with_reducible refine LeO.ite ?_ ?_)
      | (with_reducible refine LeO.bind ?_ (fun _ => ?_))
      | exact ih0 _ _ _
      | exact ih1 _ _ _ _ _ _ _ _ _ _ _
      | exact ih2 _ _ _ _ _ _ _ _ _ _ _
      | exact ih3 _ _ _ _ _ _ _ _ _ _
      | exact ih4 _ _ _ _ _ _ _ _ _
      | exact ih5 _ _ _ _ _ _ _ _ _ _ _
      | exact ih6 _ _ _ _ _ _ _ _ _ _
      | exact ih7 _ _ _ _
      | exact impl_CrashLog.mono _ _ _ _
      | exact laws_eqLog.mono _ _ _ _ _
      | exact laws_eqLogResult.mono _ _ _ _ _ _ _
      | exact laws_heldLogResult.mono _ _ _ _ _
      | exact laws_markLog.mono _ _ _ _
      | exact laws_markLogResult.mono _ _ _ _ _
      | exact laws_toLog.mono _ _ _
      | exact LeO.none _
      | refine LeO.ite ?_ ?_
      | refine LeO.bind ?_ (fun _ => ?_)
    · intro y0 y1 y2 y3
      unfold laws_FnExactCrashLog.j7
      repeat' first
      | (with_reducible exact ih0 _ _ _)
      | (with_reducible exact ih1 _ _ _ _ _ _ _ _ _ _ _)
      | (with_reducible exact ih2 _ _ _ _ _ _ _ _ _ _ _)
      | (with_reducible exact ih3 _ _ _ _ _ _ _ _ _ _)
      | (with_reducible exact ih4 _ _ _ _ _ _ _ _ _)
      | (with_reducible exact ih5 _ _ _ _ _ _ _ _ _ _ _)
      | (with_reducible exact ih6 _ _ _ _ _ _ _ _ _ _)
      | (with_reducible exact ih7 _ _ _ _)
      | (with_reducible exact impl_CrashLog.mono _ _ _ _)
      | (with_reducible exact laws_eqLog.mono _ _ _ _ _)
      | (with_reducible exact laws_eqLogResult.mono _ _ _ _ _ _ _)
      | (with_reducible exact laws_heldLogResult.mono _ _ _ _ _)
      | (with_reducible exact laws_markLog.mono _ _ _ _)
      | (with_reducible exact laws_markLogResult.mono _ _ _ _ _)
      | (with_reducible exact laws_toLog.mono _ _ _)
      | (with_reducible exact LeO.refl _)
      | (with_reducible exact LeO.none _)
      | (with_reducible refine LeO.ite ?_ ?_)
      | (with_reducible refine LeO.bind ?_ (fun _ => ?_))
      | exact ih0 _ _ _
      | exact ih1 _ _ _ _ _ _ _ _ _ _ _
      | exact ih2 _ _ _ _ _ _ _ _ _ _ _
      | exact ih3 _ _ _ _ _ _ _ _ _ _
      | exact ih4 _ _ _ _ _ _ _ _ _
      | exact ih5 _ _ _ _ _ _ _ _ _ _ _
      | exact ih6 _ _ _ _ _ _ _ _ _ _
      | exact ih7 _ _ _ _
      | exact impl_CrashLog.mono _ _ _ _
      | exact laws_eqLog.mono _ _ _ _ _
      | exact laws_eqLogResult.mono _ _ _ _ _ _ _
      | exact laws_heldLogResult.mono _ _ _ _ _
      | exact laws_markLog.mono _ _ _ _
      | exact laws_markLogResult.mono _ _ _ _ _
      | exact laws_toLog.mono _ _ _
      | exact LeO.none _
      | refine LeO.ite ?_ ?_
      | refine LeO.bind ?_ (fun _ => ?_)
theorem laws_FnExactCrashLog.mono : ∀ a0 a1 a2 k, LeO (laws_FnExactCrashLog.f k a0 a1 a2) (laws_FnExactCrashLog.f (k + 1) a0 a1 a2) := by
  intro a0 a1 a2 k
  obtain ⟨ih0, ih1, ih2, ih3, ih4, ih5, ih6, ih7⟩ := laws_FnExactCrashLog.mono_l k
  unfold laws_FnExactCrashLog.f
  repeat' first
      | (with_reducible exact ih0 _ _ _)
      | (with_reducible exact ih1 _ _ _ _ _ _ _ _ _ _ _)
      | (with_reducible exact ih2 _ _ _ _ _ _ _ _ _ _ _)
      | (with_reducible exact ih3 _ _ _ _ _ _ _ _ _ _)
      | (with_reducible exact ih4 _ _ _ _ _ _ _ _ _)
      | (with_reducible exact ih5 _ _ _ _ _ _ _ _ _ _ _)
      | (with_reducible exact ih6 _ _ _ _ _ _ _ _ _ _)
      | (with_reducible exact ih7 _ _ _ _)
      | (with_reducible exact impl_CrashLog.mono _ _ _ _)
      | (with_reducible exact laws_eqLog.mono _ _ _ _ _)
      | (with_reducible exact laws_eqLogResult.mono _ _ _ _ _ _ _)
      | (with_reducible exact laws_heldLogResult.mono _ _ _ _ _)
      | (with_reducible exact laws_markLog.mono _ _ _ _)
      | (with_reducible exact laws_markLogResult.mono _ _ _ _ _)
      | (with_reducible exact laws_toLog.mono _ _ _)
      | (with_reducible exact LeO.refl _)
      | (with_reducible exact LeO.none _)
      | (with_reducible refine LeO.ite ?_ ?_)
      | (with_reducible refine LeO.bind ?_ (fun _ => ?_))
      | exact ih0 _ _ _
      | exact ih1 _ _ _ _ _ _ _ _ _ _ _
      | exact ih2 _ _ _ _ _ _ _ _ _ _ _
      | exact ih3 _ _ _ _ _ _ _ _ _ _
      | exact ih4 _ _ _ _ _ _ _ _ _
      | exact ih5 _ _ _ _ _ _ _ _ _ _ _
      | exact ih6 _ _ _ _ _ _ _ _ _ _
      | exact ih7 _ _ _ _
      | exact impl_CrashLog.mono _ _ _ _
      | exact laws_eqLog.mono _ _ _ _ _
      | exact laws_eqLogResult.mono _ _ _ _ _ _ _
      | exact laws_heldLogResult.mono _ _ _ _ _
      | exact laws_markLog.mono _ _ _ _
      | exact laws_markLogResult.mono _ _ _ _ _
      | exact laws_toLog.mono _ _ _
      | exact LeO.none _
      | refine LeO.ite ?_ ?_
      | refine LeO.bind ?_ (fun _ => ?_)
set_option maxHeartbeats 8000000 in
set_option maxRecDepth 100000 in
theorem laws_FnExactCrashLog.calls (k : Nat) (A0_0 : Option Addr) (c0_0 : Nat) (l0_0 : List Int) (A0_1 : Option Addr) (c0_1 : Nat) (l0_1 : List Int) (a1 : Int) (r : Bool) (w : World) (hr0_0 : Kd.C (Kd.int .u8) w A0_0 l0_0.length l0_0) (hc0_0 : l0_0.length ≤ c0_0) (hr0_1 : Kd.C (Kd.int .u8) w A0_1 l0_1.length l0_1) (hc0_1 : l0_1.length ≤ c0_1) (h : laws_FnExactCrashLog.f k l0_0 l0_1 a1 = some r) :
    Calls Try.prog 8 #[.agg #[.slice A0_0 l0_0.length c0_0, .slice A0_1 l0_1.length c0_1], .int .i64 a1] w fun e w' => e = .returned (.bool r) ∧ Below w.heap.size w w' := by
  have hu24 := Try.underlying24
  have hu46 := Try.underlying46
  have hu27 := Try.underlying27
  have HR0_0 := Aside0.mk hr0_0
  have HC0_0 := Aside0.mk hc0_0
  clear hr0_0 hc0_0
  have HR0_1 := Aside0.mk hr0_1
  have HC0_1 := Aside0.mk hc0_1
  clear hr0_1 hc0_1
  have HB := Aside0.mk (Below.refl w.heap.size w)
  have H : ((laws_szLog.f l0_0 l0_1 1048576).bind fun t192 => (if t192 < 0 then (some true) else (laws_FnExactCrashLog.j0 k a1 l0_0 l0_1))) = some r := h
  clear h
  replace H := Option.bind_eq_some_iff.mp H
  obtain ⟨t192, A30, H⟩ := H
  replace H : (if t192 < 0 then (some true) else (laws_FnExactCrashLog.j0 k a1 l0_0 l0_1)) = some r := H
  have A3 := Aside0.mk A30
  clear A30
  have HC4 := Aside0.mk H
  clear H
  go_enter Try.func8, Try.ntmps8
  go_upto_if 17 with (first | ((with_reducible refine gate_dst (N := 2) rfl ?_); refine box_event ?hg (N := 2) ?hd (cs := #[.slice A0_0 l0_0.length c0_0, .slice A0_1 l0_1.length c0_1]) (t := 24) ?hr ?_; (case hd => rfl); (case hg => rfl); (case hr => first | (go_simp; done) | (go_simp; rfl)); intro gb191 hg w5 hbox hb; have n0_ := Aside0.mk (below_step (by repeat (first | (with_reducible first | exact HB.out | apply below_alloc | apply pw_below_drewN | apply below_drew1) | exact HB.out)) hb); have n1_ := Aside0.mk (hbox); have n2_ := Aside0.mk ((by rw [hg]; exact (below_size (by repeat (first | (with_reducible first | exact HB.out | apply below_alloc | apply pw_below_drewN | apply below_drew1) | exact HB.out))) : w.heap.size ≤ gb191)); have n3_ := Aside0.mk ((by rw [hg]; exact (below_size (by repeat (first | (with_reducible first | exact HB.out | apply below_alloc | apply pw_below_drewN | apply below_drew1) | exact HB.out))) : w.heap.size ≤ gb191)); clear HB; have HB := n0_; have BK191 := n1_; have GW191 := n2_; have GE191 := n3_; clear n0_ n1_ n2_ n3_; clear hb hbox hg; have hcz6_0 : w5.cell? ⟨gb191, 0, none⟩ = some (.slice A0_0 l0_0.length c0_0) := (blk_cell BK191.out 0).trans rfl; have hcz6_1 : w5.cell? ⟨gb191, 1, none⟩ = some (.slice A0_1 l0_1.length c0_1) := (blk_cell BK191.out 1).trans rfl; have hfz6_0 := blk_frozen BK191.out 0; have hfz6_1 := blk_frozen BK191.out 1) | ((with_reducible refine gate_callee (f := 14) rfl ?_); refine goesL_ (some 15) rfl rfl Try.func14 (by kernel_rfl) rfl #[.agg #[.slice A0_0 l0_0.length c0_0, .slice A0_1 l0_1.length c0_1], .int .i64 1048576] rfl (by (try simp only [List.map_toArray, List.map_cons, List.map_nil]); first | done | rfl | (simp only [List.length_drop, List.length_take]; rfl)) ?_; (with_reducible refine (laws_szLog.calls _ _ l0_0 _ _ l0_1 1048576 t192 _ ?side1 ?side2 ?side3 ?side4 A3.out).mono ?_); (case side1 => repeat (first | exact (Kd.C_below HR0_0.out HB.out) | (with_reducible refine Kd.C_alloc ?_ _) | (with_reducible refine Kd.C_drewN ?_ _) | (with_reducible refine Kd.C_drew ?_))); (case side2 => exact HC0_0.out); (case side3 => repeat (first | exact (Kd.C_below HR0_1.out HB.out) | (with_reducible refine Kd.C_alloc ?_ _) | (with_reducible refine Kd.C_drewN ?_ _) | (with_reducible refine Kd.C_drew ?_))); (case side4 => exact HC0_1.out); rintro e w7 ⟨rfl, hb⟩; refine ⟨_, rfl, ?_⟩; have n0_ := Aside0.mk (blk_below (g := gb191) (o := .cells #[.slice A0_0 l0_0.length c0_0, .slice A0_1 l0_1.length c0_1] 24 (0, 0)) (by (with_reducible repeat (first | refine blk_drewN ?_ _ | refine blk_drew ?_ | refine blk_alloc ?_ _)); exact BK191.out) hb); have n1_ := Aside0.mk (below_step (by repeat (first | (with_reducible first | exact HB.out | apply below_alloc | apply pw_below_drewN | apply below_drew1 | refine below_set ?_ GE191.out) | exact HB.out)) hb); clear BK191; clear HB; have BK191 := n0_; have HB := n1_; clear n0_ n1_; (try clear hb); (try clear hb2); (try clear hk); (try clear hi)))
  (try simp only [Act.put, List.setIfInBounds_toArray, List.set_cons_zero, List.set_cons_succ])
  go_cut [] (fun wc => ∃ (kq : Nat), Aside0 (laws_FnExactCrashLog.j0 kq a1 l0_0 l0_1 = some r) ∧ Aside0 (kq ≤ k) ∧ Aside0 (wc.heap[gb191]? = some (.cells #[(.slice A0_0 l0_0.length c0_0), (.slice A0_1 l0_1.length c0_1)] 24 (0, 0))) ∧ Aside0 (Below w.heap.size w wc))
  case first =>
    have H := HC4.out
    clear HC4
    by_cases c8 : t192 < 0
    · rw [if_pos c8] at H
      have c8b0 : decide (t192 < 0) = true := decide_eq_true c8
      clear c8
      (first | rw [c8b0] | (simp only [i64_w, i32_w]; rw [c8b0]) | skip)
      obtain rfl := Option.some.inj H
      go_wp2
      go_ret
      exact ⟨by first | rfl | (simp [errW_none, errW_some] <;> rfl) | (simp [*, errW_none, errW_some] <;> rfl), by repeat (first | (with_reducible first | exact HB.out | apply below_alloc | apply pw_below_drewN | apply below_drew1 | refine below_set ?_ GE191.out) | exact HB.out)⟩
    · rw [if_neg c8] at H
      have c8b0 : decide (t192 < 0) = false := decide_eq_false c8
      clear c8
      (first | rw [c8b0] | (simp only [i64_w, i32_w]; rw [c8b0]) | skip)
      have H' := Aside0.mk H
      clear H
      go_wp2
      go_meet
      case rel => exact ⟨_, H', ⟨by first | omega | exact Nat.le_refl _⟩, ⟨by (with_reducible repeat (first | refine blk_drewN ?_ _ | refine blk_drew ?_ | refine blk_alloc ?_ _)); exact BK191.out⟩, ⟨by repeat (first | (with_reducible first | exact HB.out | apply below_alloc | apply pw_below_drewN | apply below_drew1 | refine below_set ?_ GE191.out) | exact HB.out)⟩⟩
  case rest =>
    clear HC4
    try clear c1
    try clear p2
    try clear c8
    try clear c8b0
    try clear hcz6_0
    try clear hcz6_1
    try clear hfz6_0
    try clear hfz6_1
    obtain ⟨kq, HA, HJ3, BK191, HB⟩ := hcut
    cases kq with
    | zero => exact absurd HA.out (by simp [laws_FnExactCrashLog.j0])
    | succ kj3 =>
      have H := HA.out
      clear HA
      simp only [laws_FnExactCrashLog.j0] at H
      replace H := Option.bind_eq_some_iff.mp H
      obtain ⟨⟨t193, t196⟩, A90, H⟩ := H
      replace H : ((spec_CrashLog.f t193 t196 a1).bind fun bt199 => ((laws_toLog.f kj3 l0_0 l0_1).bind fun bt207 => ((impl_CrashLog.f kj3 bt207.1 bt207.2 a1).bind fun bt214 => ((laws_eqLogResult.f kj3 bt214.1 bt214.2.1 bt214.2.2 bt199.1 bt199.2.1 bt199.2.2).bind fun t222 => (if t222 = true then (laws_FnExactCrashLog.j1 kj3 a1 l0_0 l0_1 bt199.1 bt199.2.1 bt199.2.2 bt207.1 bt207.2 bt214.1 bt214.2.1 bt214.2.2) else (some false)))))) = some r := H
      have A9 := Aside0.mk A90
      clear A90
      replace H := Option.bind_eq_some_iff.mp H
      obtain ⟨⟨t199, t200, t203⟩, A100, H⟩ := H
      replace H : ((laws_toLog.f kj3 l0_0 l0_1).bind fun bt207 => ((impl_CrashLog.f kj3 bt207.1 bt207.2 a1).bind fun bt214 => ((laws_eqLogResult.f kj3 bt214.1 bt214.2.1 bt214.2.2 t199 t200 t203).bind fun t222 => (if t222 = true then (laws_FnExactCrashLog.j1 kj3 a1 l0_0 l0_1 t199 t200 t203 bt207.1 bt207.2 bt214.1 bt214.2.1 bt214.2.2) else (some false))))) = some r := H
      have A10 := Aside0.mk A100
      clear A100
      replace H := Option.bind_eq_some_iff.mp H
      obtain ⟨⟨t207, t210⟩, A110, H⟩ := H
      replace H : ((impl_CrashLog.f kj3 t207 t210 a1).bind fun bt214 => ((laws_eqLogResult.f kj3 bt214.1 bt214.2.1 bt214.2.2 t199 t200 t203).bind fun t222 => (if t222 = true then (laws_FnExactCrashLog.j1 kj3 a1 l0_0 l0_1 t199 t200 t203 t207 t210 bt214.1 bt214.2.1 bt214.2.2) else (some false)))) = some r := H
      have A11 := Aside0.mk A110
      clear A110
      replace H := Option.bind_eq_some_iff.mp H
      obtain ⟨⟨t214, t215, t218⟩, A120, H⟩ := H
      replace H : ((laws_eqLogResult.f kj3 t214 t215 t218 t199 t200 t203).bind fun t222 => (if t222 = true then (laws_FnExactCrashLog.j1 kj3 a1 l0_0 l0_1 t199 t200 t203 t207 t210 t214 t215 t218) else (some false))) = some r := H
      have A12 := Aside0.mk A120
      clear A120
      replace H := Option.bind_eq_some_iff.mp H
      obtain ⟨t222, A130, H⟩ := H
      replace H : (if t222 = true then (laws_FnExactCrashLog.j1 kj3 a1 l0_0 l0_1 t199 t200 t203 t207 t210 t214 t215 t218) else (some false)) = some r := H
      have A13 := Aside0.mk A130
      clear A130
      have HC14 := Aside0.mk H
      clear H
      have hcz15_0 : wc.cell? ⟨gb191, 0, none⟩ = some (.slice A0_0 l0_0.length c0_0) := (blk_cell BK191.out 0).trans rfl
      have hcz15_1 : wc.cell? ⟨gb191, 1, none⟩ = some (.slice A0_1 l0_1.length c0_1) := (blk_cell BK191.out 1).trans rfl
      have hfz15_0 := blk_frozen BK191.out 0
      have hfz15_1 := blk_frozen BK191.out 1
      go_upto_if 30 with (first | ((with_reducible refine gate_callee (f := 16) rfl ?_); refine goesL_ (some 19) rfl rfl Try.func16 (by kernel_rfl) rfl #[.agg #[.slice A0_0 l0_0.length c0_0, .slice A0_1 l0_1.length c0_1]] rfl (by (try simp only [List.map_toArray, List.map_cons, List.map_nil]); first | done | rfl | (simp only [List.length_drop, List.length_take]; rfl)) ?_; (with_reducible refine (laws_toLog.calls kj3 _ _ l0_0 _ _ l0_1 t193 t196 _ ?side1 ?side2 ?side3 ?side4 A9.out).mono ?_); (case side1 => repeat (first | exact (Kd.C_below HR0_0.out HB.out) | (with_reducible refine Kd.C_alloc ?_ _) | (with_reducible refine Kd.C_drewN ?_ _) | (with_reducible refine Kd.C_drew ?_))); (case side2 => exact HC0_0.out); (case side3 => repeat (first | exact (Kd.C_below HR0_1.out HB.out) | (with_reducible refine Kd.C_alloc ?_ _) | (with_reducible refine Kd.C_drewN ?_ _) | (with_reducible refine Kd.C_drew ?_))); (case side4 => exact HC0_1.out); rintro e w16 ⟨v194, v197, rfl, ho0, ho1, hb⟩; refine ⟨_, rfl, ?_⟩; have n0_ := Aside0.mk (Kd.R_lower ho0 (below_size (by repeat (first | (with_reducible first | exact HB.out | apply below_alloc | apply pw_below_drewN | apply below_drew1 | refine below_set ?_ GE191.out) | exact HB.out)))); have n1_ := Aside0.mk (Kd.R_lower ho1 (below_size (by repeat (first | (with_reducible first | exact HB.out | apply below_alloc | apply pw_below_drewN | apply below_drew1 | refine below_set ?_ GE191.out) | exact HB.out)))); have n2_ := Aside0.mk (blk_below (g := gb191) (o := .cells #[.slice A0_0 l0_0.length c0_0, .slice A0_1 l0_1.length c0_1] 24 (0, 0)) (by (with_reducible repeat (first | refine blk_drewN ?_ _ | refine blk_drew ?_ | refine blk_alloc ?_ _)); exact BK191.out) hb); have n3_ := Aside0.mk (below_step (by repeat (first | (with_reducible first | exact HB.out | apply below_alloc | apply pw_below_drewN | apply below_drew1 | refine below_set ?_ GE191.out) | exact HB.out)) hb); clear BK191; clear HB; have HO195 := n0_; have HO198 := n1_; have BK191 := n2_; have HB := n3_; clear n0_ n1_ n2_ n3_; (try clear hb); (try clear hb2); (try clear hk); (try clear hi); (try clear ho0); (try clear ho1); obtain ⟨Ao17, co17, eo17⟩ := Kd.R_slice HO195.out; subst eo17; obtain ⟨Ao18, co18, eo18⟩ := Kd.R_slice HO198.out; subst eo18) | ((with_reducible refine gate_callee (f := 41) rfl ?_); refine goesL_ (some 21) rfl rfl Try.func41 (by kernel_rfl) rfl #[.agg #[.slice Ao17 t193.length co17, .slice Ao18 t196.length co18], .int .i64 a1] rfl (by (try simp only [List.map_toArray, List.map_cons, List.map_nil]); first | done | rfl | (simp only [List.length_drop, List.length_take]; rfl)) ?_; (with_reducible refine (spec_CrashLog.calls _ _ t193 _ _ t196 a1 t199 t200 t203 _ ?side1 ?side2 ?side3 ?side4 A10.out).mono ?_); (case side1 => repeat (first | exact (Kd.R_reads' HO195.out).2.2 | (with_reducible refine Kd.C_alloc ?_ _) | (with_reducible refine Kd.C_drewN ?_ _) | (with_reducible refine Kd.C_drew ?_))); (case side2 => exact (Kd.R_reads' HO195.out).2.1); (case side3 => repeat (first | exact (Kd.R_reads' HO198.out).2.2 | (with_reducible refine Kd.C_alloc ?_ _) | (with_reducible refine Kd.C_drewN ?_ _) | (with_reducible refine Kd.C_drew ?_))); (case side4 => exact (Kd.R_reads' HO198.out).2.1); rintro e w19 ⟨v201, v204, rfl, ho0, ho1, hb⟩; refine ⟨_, rfl, ?_⟩; have n0_ := Aside0.mk (Kd.R_mono (Kd.R_told (Kd.R_told (Kd.R_old (by (with_reducible repeat (first | apply Kd.R_alloc | apply Kd.R_drewN | apply Kd.R_drew)); exact HO195.out) hb) (Kd.R_base ho0)) (Kd.R_base ho1)) (fun _ h_ => h_.1)); have n1_ := Aside0.mk (Kd.R_mono (Kd.R_told (Kd.R_told (Kd.R_old (by (with_reducible repeat (first | apply Kd.R_alloc | apply Kd.R_drewN | apply Kd.R_drew)); exact HO198.out) hb) (Kd.R_base ho0)) (Kd.R_base ho1)) (fun _ h_ => h_.1)); have n2_ := Aside0.mk (Kd.R_lower (Kd.R_new' (Kd.R_new' ho0 (Kd.R_lt (by (with_reducible repeat (first | apply Kd.R_alloc | apply Kd.R_drewN | apply Kd.R_drew)); exact HO195.out))) (Kd.R_lt (by (with_reducible repeat (first | apply Kd.R_alloc | apply Kd.R_drewN | apply Kd.R_drew)); exact HO198.out))) (below_size (by repeat (first | (with_reducible first | exact HB.out | apply below_alloc | apply pw_below_drewN | apply below_drew1 | refine below_set ?_ GE191.out) | exact HB.out)))); have n3_ := Aside0.mk (Kd.R_lower (Kd.R_new' (Kd.R_new' ho1 (Kd.R_lt (by (with_reducible repeat (first | apply Kd.R_alloc | apply Kd.R_drewN | apply Kd.R_drew)); exact HO195.out))) (Kd.R_lt (by (with_reducible repeat (first | apply Kd.R_alloc | apply Kd.R_drewN | apply Kd.R_drew)); exact HO198.out))) (below_size (by repeat (first | (with_reducible first | exact HB.out | apply below_alloc | apply pw_below_drewN | apply below_drew1 | refine below_set ?_ GE191.out) | exact HB.out)))); have n4_ := Aside0.mk (blk_below (g := gb191) (o := .cells #[.slice A0_0 l0_0.length c0_0, .slice A0_1 l0_1.length c0_1] 24 (0, 0)) (by (with_reducible repeat (first | refine blk_drewN ?_ _ | refine blk_drew ?_ | refine blk_alloc ?_ _)); exact BK191.out) hb); have n5_ := Aside0.mk (below_step (by repeat (first | (with_reducible first | exact HB.out | apply below_alloc | apply pw_below_drewN | apply below_drew1 | refine below_set ?_ GE191.out) | exact HB.out)) hb); clear HO195; clear HO198; clear BK191; clear HB; have HO195 := n0_; have HO198 := n1_; have HO202 := n2_; have HO205 := n3_; have BK191 := n4_; have HB := n5_; clear n0_ n1_ n2_ n3_ n4_ n5_; (try clear hb); (try clear hb2); (try clear hk); (try clear hi); (try clear ho0); (try clear ho1)) | ((with_reducible refine gate_dst (N := 6) rfl ?_); refine box_event ?hg (N := 6) ?hd (cs := #[.int .i64 0, .slice none 0 0, .slice none 0 0]) (t := 46) ?hr ?_; (case hd => rfl); (case hg => rfl); (case hr => first | (go_simp; done) | (go_simp; rfl)); intro gb206 hg w20 hbox hb; have n0_ := Aside0.mk (Kd.R_below (by (with_reducible repeat (first | apply Kd.R_alloc | apply Kd.R_drewN | apply Kd.R_drew)); exact HO195.out) hb); have n1_ := Aside0.mk (Kd.R_below (by (with_reducible repeat (first | apply Kd.R_alloc | apply Kd.R_drewN | apply Kd.R_drew)); exact HO198.out) hb); have n2_ := Aside0.mk (Kd.R_below (by (with_reducible repeat (first | apply Kd.R_alloc | apply Kd.R_drewN | apply Kd.R_drew)); exact HO202.out) hb); have n3_ := Aside0.mk (Kd.R_below (by (with_reducible repeat (first | apply Kd.R_alloc | apply Kd.R_drewN | apply Kd.R_drew)); exact HO205.out) hb); have n4_ := Aside0.mk (blk_below (g := gb191) (o := .cells #[.slice A0_0 l0_0.length c0_0, .slice A0_1 l0_1.length c0_1] 24 (0, 0)) (by (with_reducible repeat (first | refine blk_drewN ?_ _ | refine blk_drew ?_ | refine blk_alloc ?_ _)); exact BK191.out) hb); have n5_ := Aside0.mk (below_step (by repeat (first | (with_reducible first | exact HB.out | apply below_alloc | apply pw_below_drewN | apply below_drew1 | refine below_set ?_ GE191.out) | exact HB.out)) hb); have n6_ := Aside0.mk (hbox); have n7_ := Aside0.mk ((by rw [hg]; exact (below_size (by repeat (first | (with_reducible first | exact HB.out | apply below_alloc | apply pw_below_drewN | apply below_drew1 | refine below_set ?_ GE191.out) | exact HB.out))) : w.heap.size ≤ gb206)); have n8_ := Aside0.mk ((by rw [hg]; exact (below_size (by repeat (first | (with_reducible first | exact HB.out | apply below_alloc | apply pw_below_drewN | apply below_drew1 | refine below_set ?_ GE191.out) | exact HB.out))) : w.heap.size ≤ gb206)); have n9_ := Aside0.mk ((by rw [hg]; exact Nat.ne_of_lt (blk_lt (g := gb191) (o := .cells #[.slice A0_0 l0_0.length c0_0, .slice A0_1 l0_1.length c0_1] 24 (0, 0)) (by (with_reducible repeat (first | refine blk_drewN ?_ _ | refine blk_drew ?_ | refine blk_alloc ?_ _)); exact BK191.out)) : gb191 ≠ gb206)); have n10_ := Aside0.mk ((by rw [hg]; exact Nat.ne_of_gt (blk_lt (g := gb191) (o := .cells #[.slice A0_0 l0_0.length c0_0, .slice A0_1 l0_1.length c0_1] 24 (0, 0)) (by (with_reducible repeat (first | refine blk_drewN ?_ _ | refine blk_drew ?_ | refine blk_alloc ?_ _)); exact BK191.out)) : gb206 ≠ gb191)); clear HO195; clear HO198; clear HO202; clear HO205; clear BK191; clear HB; have HO195 := n0_; have HO198 := n1_; have HO202 := n2_; have HO205 := n3_; have BK191 := n4_; have HB := n5_; have BK206 := n6_; have GW206 := n7_; have GE206 := n8_; have NB191_206 := n9_; have NB206_191 := n10_; clear n0_ n1_ n2_ n3_ n4_ n5_ n6_ n7_ n8_ n9_ n10_; clear hb hbox hg; have hnb21 := NB206_191.out; have hnc21 := NB191_206.out; have hcz22_0 : w20.cell? ⟨gb206, 0, none⟩ = some (.int .i64 0) := (blk_cell BK206.out 0).trans rfl; have hcz22_1 : w20.cell? ⟨gb206, 1, none⟩ = some (.slice none 0 0) := (blk_cell BK206.out 1).trans rfl; have hcz22_2 : w20.cell? ⟨gb206, 2, none⟩ = some (.slice none 0 0) := (blk_cell BK206.out 2).trans rfl; have hfz22_0 := blk_frozen BK206.out 0; have hfz22_1 := blk_frozen BK206.out 1; have hfz22_2 := blk_frozen BK206.out 2; obtain ⟨Ao23, co23, eo23⟩ := Kd.R_slice HO202.out; subst eo23; obtain ⟨Ao24, co24, eo24⟩ := Kd.R_slice HO205.out; subst eo24; have hcz25_0 : w20.cell? ⟨gb191, 0, none⟩ = some (.slice A0_0 l0_0.length c0_0) := (blk_cell BK191.out 0).trans rfl; have hcz25_1 : w20.cell? ⟨gb191, 1, none⟩ = some (.slice A0_1 l0_1.length c0_1) := (blk_cell BK191.out 1).trans rfl; have hfz25_0 := blk_frozen BK191.out 0; have hfz25_1 := blk_frozen BK191.out 1) | ((with_reducible refine gate_callee (f := 16) rfl ?_); refine goesL_ (some 23) rfl rfl Try.func16 (by kernel_rfl) rfl #[.agg #[.slice A0_0 l0_0.length c0_0, .slice A0_1 l0_1.length c0_1]] rfl (by (try simp only [List.map_toArray, List.map_cons, List.map_nil]); first | done | rfl | (simp only [List.length_drop, List.length_take]; rfl)) ?_; (with_reducible refine (laws_toLog.calls kj3 _ _ l0_0 _ _ l0_1 t207 t210 _ ?side1 ?side2 ?side3 ?side4 A11.out).mono ?_); (case side1 => exact Kd.C_below HR0_0.out (by repeat (first | (with_reducible first | exact HB.out | apply below_alloc | apply pw_below_drewN | apply below_drew1 | refine below_set ?_ GE191.out | refine below_set ?_ GE206.out) | exact HB.out))); (case side2 => exact HC0_0.out); (case side3 => exact Kd.C_below HR0_1.out (by repeat (first | (with_reducible first | exact HB.out | apply below_alloc | apply pw_below_drewN | apply below_drew1 | refine below_set ?_ GE191.out | refine below_set ?_ GE206.out) | exact HB.out))); (case side4 => exact HC0_1.out); rintro e w26 ⟨v208, v211, rfl, ho0, ho1, hb⟩; refine ⟨_, rfl, ?_⟩; have n0_ := Aside0.mk (Kd.R_mono (Kd.R_told (Kd.R_told (Kd.R_old (by (with_reducible repeat (first | apply Kd.R_alloc | apply Kd.R_drewN | apply Kd.R_drew)); exact (Kd.R_mono (Kd.R_far (p := ⟨gb206, 2, none⟩) (Kd.R_far (p := ⟨gb206, 1, none⟩) (Kd.R_far (p := ⟨gb206, 0, none⟩) (Kd.R_types HO195.out BK206.out (by decide)) (fun _ hk => hk.2) (.int .i64 t199)) (fun _ hk => hk.2) (.slice Ao23 t200.length co23)) (fun _ hk => hk.2) (.slice Ao24 t203.length co24)) (fun _ h_ => h_.1))) hb) (Kd.R_base ho0)) (Kd.R_base ho1)) (fun _ h_ => h_.1)); have n1_ := Aside0.mk (Kd.R_mono (Kd.R_told (Kd.R_told (Kd.R_old (by (with_reducible repeat (first | apply Kd.R_alloc | apply Kd.R_drewN | apply Kd.R_drew)); exact (Kd.R_mono (Kd.R_far (p := ⟨gb206, 2, none⟩) (Kd.R_far (p := ⟨gb206, 1, none⟩) (Kd.R_far (p := ⟨gb206, 0, none⟩) (Kd.R_types HO198.out BK206.out (by decide)) (fun _ hk => hk.2) (.int .i64 t199)) (fun _ hk => hk.2) (.slice Ao23 t200.length co23)) (fun _ hk => hk.2) (.slice Ao24 t203.length co24)) (fun _ h_ => h_.1))) hb) (Kd.R_base ho0)) (Kd.R_base ho1)) (fun _ h_ => h_.1)); have n2_ := Aside0.mk (Kd.R_mono (Kd.R_told (Kd.R_told (Kd.R_old (by (with_reducible repeat (first | apply Kd.R_alloc | apply Kd.R_drewN | apply Kd.R_drew)); exact (Kd.R_mono (Kd.R_far (p := ⟨gb206, 2, none⟩) (Kd.R_far (p := ⟨gb206, 1, none⟩) (Kd.R_far (p := ⟨gb206, 0, none⟩) (Kd.R_types HO202.out BK206.out (by decide)) (fun _ hk => hk.2) (.int .i64 t199)) (fun _ hk => hk.2) (.slice Ao23 t200.length co23)) (fun _ hk => hk.2) (.slice Ao24 t203.length co24)) (fun _ h_ => h_.1))) hb) (Kd.R_base ho0)) (Kd.R_base ho1)) (fun _ h_ => h_.1)); have n3_ := Aside0.mk (Kd.R_mono (Kd.R_told (Kd.R_told (Kd.R_old (by (with_reducible repeat (first | apply Kd.R_alloc | apply Kd.R_drewN | apply Kd.R_drew)); exact (Kd.R_mono (Kd.R_far (p := ⟨gb206, 2, none⟩) (Kd.R_far (p := ⟨gb206, 1, none⟩) (Kd.R_far (p := ⟨gb206, 0, none⟩) (Kd.R_types HO205.out BK206.out (by decide)) (fun _ hk => hk.2) (.int .i64 t199)) (fun _ hk => hk.2) (.slice Ao23 t200.length co23)) (fun _ hk => hk.2) (.slice Ao24 t203.length co24)) (fun _ h_ => h_.1))) hb) (Kd.R_base ho0)) (Kd.R_base ho1)) (fun _ h_ => h_.1)); have n4_ := Aside0.mk (Kd.R_lower (Kd.R_new' (Kd.R_new' (Kd.R_new' (Kd.R_new' ho0 (Kd.R_lt (by (with_reducible repeat (first | apply Kd.R_alloc | apply Kd.R_drewN | apply Kd.R_drew)); exact (Kd.R_mono (Kd.R_far (p := ⟨gb206, 2, none⟩) (Kd.R_far (p := ⟨gb206, 1, none⟩) (Kd.R_far (p := ⟨gb206, 0, none⟩) (Kd.R_types HO195.out BK206.out (by decide)) (fun _ hk => hk.2) (.int .i64 t199)) (fun _ hk => hk.2) (.slice Ao23 t200.length co23)) (fun _ hk => hk.2) (.slice Ao24 t203.length co24)) (fun _ h_ => h_.1))))) (Kd.R_lt (by (with_reducible repeat (first | apply Kd.R_alloc | apply Kd.R_drewN | apply Kd.R_drew)); exact (Kd.R_mono (Kd.R_far (p := ⟨gb206, 2, none⟩) (Kd.R_far (p := ⟨gb206, 1, none⟩) (Kd.R_far (p := ⟨gb206, 0, none⟩) (Kd.R_types HO198.out BK206.out (by decide)) (fun _ hk => hk.2) (.int .i64 t199)) (fun _ hk => hk.2) (.slice Ao23 t200.length co23)) (fun _ hk => hk.2) (.slice Ao24 t203.length co24)) (fun _ h_ => h_.1))))) (Kd.R_lt (by (with_reducible repeat (first | apply Kd.R_alloc | apply Kd.R_drewN | apply Kd.R_drew)); exact (Kd.R_mono (Kd.R_far (p := ⟨gb206, 2, none⟩) (Kd.R_far (p := ⟨gb206, 1, none⟩) (Kd.R_far (p := ⟨gb206, 0, none⟩) (Kd.R_types HO202.out BK206.out (by decide)) (fun _ hk => hk.2) (.int .i64 t199)) (fun _ hk => hk.2) (.slice Ao23 t200.length co23)) (fun _ hk => hk.2) (.slice Ao24 t203.length co24)) (fun _ h_ => h_.1))))) (Kd.R_lt (by (with_reducible repeat (first | apply Kd.R_alloc | apply Kd.R_drewN | apply Kd.R_drew)); exact (Kd.R_mono (Kd.R_far (p := ⟨gb206, 2, none⟩) (Kd.R_far (p := ⟨gb206, 1, none⟩) (Kd.R_far (p := ⟨gb206, 0, none⟩) (Kd.R_types HO205.out BK206.out (by decide)) (fun _ hk => hk.2) (.int .i64 t199)) (fun _ hk => hk.2) (.slice Ao23 t200.length co23)) (fun _ hk => hk.2) (.slice Ao24 t203.length co24)) (fun _ h_ => h_.1))))) (below_size (by repeat (first | (with_reducible first | exact HB.out | apply below_alloc | apply pw_below_drewN | apply below_drew1 | refine below_set ?_ GE191.out | refine below_set ?_ GE206.out) | exact HB.out)))); have n5_ := Aside0.mk (Kd.R_lower (Kd.R_new' (Kd.R_new' (Kd.R_new' (Kd.R_new' ho1 (Kd.R_lt (by (with_reducible repeat (first | apply Kd.R_alloc | apply Kd.R_drewN | apply Kd.R_drew)); exact (Kd.R_mono (Kd.R_far (p := ⟨gb206, 2, none⟩) (Kd.R_far (p := ⟨gb206, 1, none⟩) (Kd.R_far (p := ⟨gb206, 0, none⟩) (Kd.R_types HO195.out BK206.out (by decide)) (fun _ hk => hk.2) (.int .i64 t199)) (fun _ hk => hk.2) (.slice Ao23 t200.length co23)) (fun _ hk => hk.2) (.slice Ao24 t203.length co24)) (fun _ h_ => h_.1))))) (Kd.R_lt (by (with_reducible repeat (first | apply Kd.R_alloc | apply Kd.R_drewN | apply Kd.R_drew)); exact (Kd.R_mono (Kd.R_far (p := ⟨gb206, 2, none⟩) (Kd.R_far (p := ⟨gb206, 1, none⟩) (Kd.R_far (p := ⟨gb206, 0, none⟩) (Kd.R_types HO198.out BK206.out (by decide)) (fun _ hk => hk.2) (.int .i64 t199)) (fun _ hk => hk.2) (.slice Ao23 t200.length co23)) (fun _ hk => hk.2) (.slice Ao24 t203.length co24)) (fun _ h_ => h_.1))))) (Kd.R_lt (by (with_reducible repeat (first | apply Kd.R_alloc | apply Kd.R_drewN | apply Kd.R_drew)); exact (Kd.R_mono (Kd.R_far (p := ⟨gb206, 2, none⟩) (Kd.R_far (p := ⟨gb206, 1, none⟩) (Kd.R_far (p := ⟨gb206, 0, none⟩) (Kd.R_types HO202.out BK206.out (by decide)) (fun _ hk => hk.2) (.int .i64 t199)) (fun _ hk => hk.2) (.slice Ao23 t200.length co23)) (fun _ hk => hk.2) (.slice Ao24 t203.length co24)) (fun _ h_ => h_.1))))) (Kd.R_lt (by (with_reducible repeat (first | apply Kd.R_alloc | apply Kd.R_drewN | apply Kd.R_drew)); exact (Kd.R_mono (Kd.R_far (p := ⟨gb206, 2, none⟩) (Kd.R_far (p := ⟨gb206, 1, none⟩) (Kd.R_far (p := ⟨gb206, 0, none⟩) (Kd.R_types HO205.out BK206.out (by decide)) (fun _ hk => hk.2) (.int .i64 t199)) (fun _ hk => hk.2) (.slice Ao23 t200.length co23)) (fun _ hk => hk.2) (.slice Ao24 t203.length co24)) (fun _ h_ => h_.1))))) (below_size (by repeat (first | (with_reducible first | exact HB.out | apply below_alloc | apply pw_below_drewN | apply below_drew1 | refine below_set ?_ GE191.out | refine below_set ?_ GE206.out) | exact HB.out)))); have n6_ := Aside0.mk (blk_below (g := gb191) (o := .cells #[.slice A0_0 l0_0.length c0_0, .slice A0_1 l0_1.length c0_1] 24 (0, 0)) (by (with_reducible repeat (first | refine blk_drewN ?_ _ | refine blk_drew ?_ | refine blk_alloc ?_ _)); refine blk_far ?_ NB191_206.out _; (with_reducible repeat (first | refine blk_drewN ?_ _ | refine blk_drew ?_ | refine blk_alloc ?_ _)); refine blk_far ?_ NB191_206.out _; (with_reducible repeat (first | refine blk_drewN ?_ _ | refine blk_drew ?_ | refine blk_alloc ?_ _)); refine blk_far ?_ NB191_206.out _; (with_reducible repeat (first | refine blk_drewN ?_ _ | refine blk_drew ?_ | refine blk_alloc ?_ _)); exact BK191.out) hb); have n7_ := Aside0.mk (blk_below (g := gb206) (o := .cells #[.int .i64 t199, .slice Ao23 t200.length co23, .slice Ao24 t203.length co24] 46 (0, 0)) (by (with_reducible repeat (first | refine blk_drewN ?_ _ | refine blk_drew ?_ | refine blk_alloc ?_ _)); refine blk_put (cs := #[.int .i64 t199, .slice Ao23 t200.length co23, .slice none 0 0]) ?_ 2 _ rfl; (with_reducible repeat (first | refine blk_drewN ?_ _ | refine blk_drew ?_ | refine blk_alloc ?_ _)); refine blk_put (cs := #[.int .i64 t199, .slice none 0 0, .slice none 0 0]) ?_ 1 _ rfl; (with_reducible repeat (first | refine blk_drewN ?_ _ | refine blk_drew ?_ | refine blk_alloc ?_ _)); refine blk_put (cs := #[.int .i64 0, .slice none 0 0, .slice none 0 0]) ?_ 0 _ rfl; (with_reducible repeat (first | refine blk_drewN ?_ _ | refine blk_drew ?_ | refine blk_alloc ?_ _)); exact BK206.out) hb); have n8_ := Aside0.mk (below_step (by repeat (first | (with_reducible first | exact HB.out | apply below_alloc | apply pw_below_drewN | apply below_drew1 | refine below_set ?_ GE191.out | refine below_set ?_ GE206.out) | exact HB.out)) hb); clear HO195; clear HO198; clear HO202; clear HO205; clear BK191; clear BK206; clear HB; have HO195 := n0_; have HO198 := n1_; have HO202 := n2_; have HO205 := n3_; have HO209 := n4_; have HO212 := n5_; have BK191 := n6_; have BK206 := n7_; have HB := n8_; clear n0_ n1_ n2_ n3_ n4_ n5_ n6_ n7_ n8_; (try clear hb); (try clear hb2); (try clear hk); (try clear hi); (try clear ho0); (try clear ho1)) | ((with_reducible refine gate_dst (N := 7) rfl ?_); refine box_event ?hg (N := 7) ?hd (cs := #[.slice none 0 0, .slice none 0 0]) (t := 27) ?hr ?_; (case hd => rfl); (case hg => rfl); (case hr => first | (go_simp; done) | (go_simp; rfl)); intro gb213 hg w27 hbox hb; have n0_ := Aside0.mk (Kd.R_below (by (with_reducible repeat (first | apply Kd.R_alloc | apply Kd.R_drewN | apply Kd.R_drew)); exact HO195.out) hb); have n1_ := Aside0.mk (Kd.R_below (by (with_reducible repeat (first | apply Kd.R_alloc | apply Kd.R_drewN | apply Kd.R_drew)); exact HO198.out) hb); have n2_ := Aside0.mk (Kd.R_below (by (with_reducible repeat (first | apply Kd.R_alloc | apply Kd.R_drewN | apply Kd.R_drew)); exact HO202.out) hb); have n3_ := Aside0.mk (Kd.R_below (by (with_reducible repeat (first | apply Kd.R_alloc | apply Kd.R_drewN | apply Kd.R_drew)); exact HO205.out) hb); have n4_ := Aside0.mk (Kd.R_below (by (with_reducible repeat (first | apply Kd.R_alloc | apply Kd.R_drewN | apply Kd.R_drew)); exact HO209.out) hb); have n5_ := Aside0.mk (Kd.R_below (by (with_reducible repeat (first | apply Kd.R_alloc | apply Kd.R_drewN | apply Kd.R_drew)); exact HO212.out) hb); have n6_ := Aside0.mk (blk_below (g := gb191) (o := .cells #[.slice A0_0 l0_0.length c0_0, .slice A0_1 l0_1.length c0_1] 24 (0, 0)) (by (with_reducible repeat (first | refine blk_drewN ?_ _ | refine blk_drew ?_ | refine blk_alloc ?_ _)); exact BK191.out) hb); have n7_ := Aside0.mk (blk_below (g := gb206) (o := .cells #[.int .i64 t199, .slice Ao23 t200.length co23, .slice Ao24 t203.length co24] 46 (0, 0)) (by (with_reducible repeat (first | refine blk_drewN ?_ _ | refine blk_drew ?_ | refine blk_alloc ?_ _)); exact BK206.out) hb); have n8_ := Aside0.mk (below_step (by repeat (first | (with_reducible first | exact HB.out | apply below_alloc | apply pw_below_drewN | apply below_drew1 | refine below_set ?_ GE191.out | refine below_set ?_ GE206.out) | exact HB.out)) hb); have n9_ := Aside0.mk (hbox); have n10_ := Aside0.mk ((by rw [hg]; exact (below_size (by repeat (first | (with_reducible first | exact HB.out | apply below_alloc | apply pw_below_drewN | apply below_drew1 | refine below_set ?_ GE191.out | refine below_set ?_ GE206.out) | exact HB.out))) : w.heap.size ≤ gb213)); have n11_ := Aside0.mk ((by rw [hg]; exact (below_size (by repeat (first | (with_reducible first | exact HB.out | apply below_alloc | apply pw_below_drewN | apply below_drew1 | refine below_set ?_ GE191.out | refine below_set ?_ GE206.out) | exact HB.out))) : w.heap.size ≤ gb213)); have n12_ := Aside0.mk ((by rw [hg]; exact Nat.ne_of_lt (blk_lt (g := gb191) (o := .cells #[.slice A0_0 l0_0.length c0_0, .slice A0_1 l0_1.length c0_1] 24 (0, 0)) (by (with_reducible repeat (first | refine blk_drewN ?_ _ | refine blk_drew ?_ | refine blk_alloc ?_ _)); exact BK191.out)) : gb191 ≠ gb213)); have n13_ := Aside0.mk ((by rw [hg]; exact Nat.ne_of_gt (blk_lt (g := gb191) (o := .cells #[.slice A0_0 l0_0.length c0_0, .slice A0_1 l0_1.length c0_1] 24 (0, 0)) (by (with_reducible repeat (first | refine blk_drewN ?_ _ | refine blk_drew ?_ | refine blk_alloc ?_ _)); exact BK191.out)) : gb213 ≠ gb191)); have n14_ := Aside0.mk ((by rw [hg]; exact Nat.ne_of_lt (blk_lt (g := gb206) (o := .cells #[.int .i64 t199, .slice Ao23 t200.length co23, .slice Ao24 t203.length co24] 46 (0, 0)) (by (with_reducible repeat (first | refine blk_drewN ?_ _ | refine blk_drew ?_ | refine blk_alloc ?_ _)); exact BK206.out)) : gb206 ≠ gb213)); have n15_ := Aside0.mk ((by rw [hg]; exact Nat.ne_of_gt (blk_lt (g := gb206) (o := .cells #[.int .i64 t199, .slice Ao23 t200.length co23, .slice Ao24 t203.length co24] 46 (0, 0)) (by (with_reducible repeat (first | refine blk_drewN ?_ _ | refine blk_drew ?_ | refine blk_alloc ?_ _)); exact BK206.out)) : gb213 ≠ gb206)); clear HO195; clear HO198; clear HO202; clear HO205; clear HO209; clear HO212; clear BK191; clear BK206; clear HB; have HO195 := n0_; have HO198 := n1_; have HO202 := n2_; have HO205 := n3_; have HO209 := n4_; have HO212 := n5_; have BK191 := n6_; have BK206 := n7_; have HB := n8_; have BK213 := n9_; have GW213 := n10_; have GE213 := n11_; have NB191_213 := n12_; have NB213_191 := n13_; have NB206_213 := n14_; have NB213_206 := n15_; clear n0_ n1_ n2_ n3_ n4_ n5_ n6_ n7_ n8_ n9_ n10_ n11_ n12_ n13_ n14_ n15_; clear hb hbox hg; obtain ⟨Ao28, co28, eo28⟩ := Kd.R_slice HO209.out; subst eo28; have hnb29 := NB213_191.out; have hnc29 := NB191_213.out; have hnb30 := NB213_206.out; have hnc30 := NB206_213.out; have hcz31_0 : w27.cell? ⟨gb213, 0, none⟩ = some (.slice none 0 0) := (blk_cell BK213.out 0).trans rfl; have hcz31_1 : w27.cell? ⟨gb213, 1, none⟩ = some (.slice none 0 0) := (blk_cell BK213.out 1).trans rfl; have hfz31_0 := blk_frozen BK213.out 0; have hfz31_1 := blk_frozen BK213.out 1; obtain ⟨Ao32, co32, eo32⟩ := Kd.R_slice HO212.out; subst eo32) | ((with_reducible refine gate_store (t := 27) (p := 7) rfl ?_); refine store_event (t := 27) (p := 7) (v := ?vo_w33) (w1 := ((w27.setCell ⟨gb213, 0, none⟩ (.slice Ao28 t207.length co28)).setCell ⟨gb213, 1, none⟩ (.slice Ao32 t210.length co32))) ?hg ?ho ?hn ?hr ?_; (case ho => rfl); (case hg => rfl); (case hn => rfl); (case hr => first | (go_simp; done) | (go_simp; rfl)); intro w33 hw; have n0_ : Aside0 (Kd.R (Kd.int .u8) 5 w33 w.heap.size (fun k_ => some k_ ≠ (.slice Ao18 t196.length co18 : Value).ownBlock ∧ some k_ ≠ (.slice Ao23 t200.length co23 : Value).ownBlock ∧ some k_ ≠ (.slice Ao24 t203.length co24 : Value).ownBlock ∧ some k_ ≠ (.slice Ao28 t207.length co28 : Value).ownBlock ∧ some k_ ≠ (.slice Ao32 t210.length co32 : Value).ownBlock) (.slice Ao17 t193.length co17) t193) := ⟨(by rw [hw]; exact (by (with_reducible repeat (first | apply Kd.R_alloc | apply Kd.R_drewN | apply Kd.R_drew)); exact Kd.R_mono (Kd.R_far (p := ⟨gb213, 1, none⟩) (Kd.R_far (p := ⟨gb213, 0, none⟩) (Kd.R_types HO195.out BK213.out (by decide)) (fun _ hk => hk.2) (.slice Ao28 t207.length co28)) (fun _ hk => hk.2) (.slice Ao32 t210.length co32)) (fun _ hk => ⟨hk.1.1.1.1.1, ⟨hk.1.1.1.1.2, ⟨hk.1.1.1.2, ⟨hk.1.1.2, hk.1.2⟩⟩⟩⟩)))⟩; have n1_ : Aside0 (Kd.R (Kd.int .u8) 5 w33 w.heap.size (fun k_ => some k_ ≠ (.slice Ao17 t193.length co17 : Value).ownBlock ∧ some k_ ≠ (.slice Ao23 t200.length co23 : Value).ownBlock ∧ some k_ ≠ (.slice Ao24 t203.length co24 : Value).ownBlock ∧ some k_ ≠ (.slice Ao28 t207.length co28 : Value).ownBlock ∧ some k_ ≠ (.slice Ao32 t210.length co32 : Value).ownBlock) (.slice Ao18 t196.length co18) t196) := ⟨(by rw [hw]; exact (by (with_reducible repeat (first | apply Kd.R_alloc | apply Kd.R_drewN | apply Kd.R_drew)); exact Kd.R_mono (Kd.R_far (p := ⟨gb213, 1, none⟩) (Kd.R_far (p := ⟨gb213, 0, none⟩) (Kd.R_types HO198.out BK213.out (by decide)) (fun _ hk => hk.2) (.slice Ao28 t207.length co28)) (fun _ hk => hk.2) (.slice Ao32 t210.length co32)) (fun _ hk => ⟨hk.1.1.1.1.1, ⟨hk.1.1.1.1.2, ⟨hk.1.1.1.2, ⟨hk.1.1.2, hk.1.2⟩⟩⟩⟩)))⟩; have n2_ : Aside0 (Kd.R (Kd.int .u8) 5 w33 w.heap.size (fun k_ => some k_ ≠ (.slice Ao17 t193.length co17 : Value).ownBlock ∧ some k_ ≠ (.slice Ao18 t196.length co18 : Value).ownBlock ∧ some k_ ≠ (.slice Ao24 t203.length co24 : Value).ownBlock ∧ some k_ ≠ (.slice Ao28 t207.length co28 : Value).ownBlock ∧ some k_ ≠ (.slice Ao32 t210.length co32 : Value).ownBlock) (.slice Ao23 t200.length co23) t200) := ⟨(by rw [hw]; exact (by (with_reducible repeat (first | apply Kd.R_alloc | apply Kd.R_drewN | apply Kd.R_drew)); exact Kd.R_mono (Kd.R_far (p := ⟨gb213, 1, none⟩) (Kd.R_far (p := ⟨gb213, 0, none⟩) (Kd.R_types HO202.out BK213.out (by decide)) (fun _ hk => hk.2) (.slice Ao28 t207.length co28)) (fun _ hk => hk.2) (.slice Ao32 t210.length co32)) (fun _ hk => ⟨hk.1.1.1.1.2, ⟨hk.1.1.1.2, ⟨hk.1.1.1.1.1, ⟨hk.1.1.2, hk.1.2⟩⟩⟩⟩)))⟩; have n3_ : Aside0 (Kd.R (Kd.int .u8) 5 w33 w.heap.size (fun k_ => some k_ ≠ (.slice Ao17 t193.length co17 : Value).ownBlock ∧ some k_ ≠ (.slice Ao18 t196.length co18 : Value).ownBlock ∧ some k_ ≠ (.slice Ao23 t200.length co23 : Value).ownBlock ∧ some k_ ≠ (.slice Ao28 t207.length co28 : Value).ownBlock ∧ some k_ ≠ (.slice Ao32 t210.length co32 : Value).ownBlock) (.slice Ao24 t203.length co24) t203) := ⟨(by rw [hw]; exact (by (with_reducible repeat (first | apply Kd.R_alloc | apply Kd.R_drewN | apply Kd.R_drew)); exact Kd.R_mono (Kd.R_far (p := ⟨gb213, 1, none⟩) (Kd.R_far (p := ⟨gb213, 0, none⟩) (Kd.R_types HO205.out BK213.out (by decide)) (fun _ hk => hk.2) (.slice Ao28 t207.length co28)) (fun _ hk => hk.2) (.slice Ao32 t210.length co32)) (fun _ hk => ⟨hk.1.1.1.1.2, ⟨hk.1.1.1.2, ⟨hk.1.1.1.1.1, ⟨hk.1.1.2, hk.1.2⟩⟩⟩⟩)))⟩; have n4_ : Aside0 (Kd.R (Kd.int .u8) 5 w33 w.heap.size (fun k_ => some k_ ≠ (.slice Ao17 t193.length co17 : Value).ownBlock ∧ some k_ ≠ (.slice Ao18 t196.length co18 : Value).ownBlock ∧ some k_ ≠ (.slice Ao23 t200.length co23 : Value).ownBlock ∧ some k_ ≠ (.slice Ao24 t203.length co24 : Value).ownBlock ∧ some k_ ≠ (.slice Ao32 t210.length co32 : Value).ownBlock) (.slice Ao28 t207.length co28) t207) := ⟨(by rw [hw]; exact (by (with_reducible repeat (first | apply Kd.R_alloc | apply Kd.R_drewN | apply Kd.R_drew)); exact Kd.R_mono (Kd.R_far (p := ⟨gb213, 1, none⟩) (Kd.R_far (p := ⟨gb213, 0, none⟩) (Kd.R_types HO209.out BK213.out (by decide)) (fun _ hk => hk.2) (.slice Ao28 t207.length co28)) (fun _ hk => hk.2) (.slice Ao32 t210.length co32)) (fun _ hk => ⟨hk.1.1.1.1.2, ⟨hk.1.1.1.2, ⟨hk.1.1.2, ⟨hk.1.2, hk.1.1.1.1.1⟩⟩⟩⟩)))⟩; have n5_ : Aside0 (Kd.R (Kd.int .u8) 5 w33 w.heap.size (fun k_ => some k_ ≠ (.slice Ao17 t193.length co17 : Value).ownBlock ∧ some k_ ≠ (.slice Ao18 t196.length co18 : Value).ownBlock ∧ some k_ ≠ (.slice Ao23 t200.length co23 : Value).ownBlock ∧ some k_ ≠ (.slice Ao24 t203.length co24 : Value).ownBlock ∧ some k_ ≠ (.slice Ao28 t207.length co28 : Value).ownBlock) (.slice Ao32 t210.length co32) t210) := ⟨(by rw [hw]; exact (by (with_reducible repeat (first | apply Kd.R_alloc | apply Kd.R_drewN | apply Kd.R_drew)); exact Kd.R_mono (Kd.R_far (p := ⟨gb213, 1, none⟩) (Kd.R_far (p := ⟨gb213, 0, none⟩) (Kd.R_types HO212.out BK213.out (by decide)) (fun _ hk => hk.2) (.slice Ao28 t207.length co28)) (fun _ hk => hk.2) (.slice Ao32 t210.length co32)) (fun _ hk => ⟨hk.1.1.1.1.2, ⟨hk.1.1.1.2, ⟨hk.1.1.2, ⟨hk.1.2, hk.1.1.1.1.1⟩⟩⟩⟩)))⟩; have n6_ : Aside0 (w33.heap[gb191]? = some (.cells #[.slice A0_0 l0_0.length c0_0, .slice A0_1 l0_1.length c0_1] 24 (0, 0))) := ⟨(by rw [hw]; exact (by (with_reducible repeat (first | refine blk_drewN ?_ _ | refine blk_drew ?_ | refine blk_alloc ?_ _)); refine blk_far ?_ NB191_213.out _; (with_reducible repeat (first | refine blk_drewN ?_ _ | refine blk_drew ?_ | refine blk_alloc ?_ _)); refine blk_far ?_ NB191_213.out _; (with_reducible repeat (first | refine blk_drewN ?_ _ | refine blk_drew ?_ | refine blk_alloc ?_ _)); exact BK191.out))⟩; have n7_ : Aside0 (w33.heap[gb206]? = some (.cells #[.int .i64 t199, .slice Ao23 t200.length co23, .slice Ao24 t203.length co24] 46 (0, 0))) := ⟨(by rw [hw]; exact (by (with_reducible repeat (first | refine blk_drewN ?_ _ | refine blk_drew ?_ | refine blk_alloc ?_ _)); refine blk_far ?_ NB206_213.out _; (with_reducible repeat (first | refine blk_drewN ?_ _ | refine blk_drew ?_ | refine blk_alloc ?_ _)); refine blk_far ?_ NB206_213.out _; (with_reducible repeat (first | refine blk_drewN ?_ _ | refine blk_drew ?_ | refine blk_alloc ?_ _)); exact BK206.out))⟩; have n8_ : Aside0 (w33.heap[gb213]? = some (.cells #[.slice Ao28 t207.length co28, .slice Ao32 t210.length co32] 27 (0, 0))) := ⟨(by rw [hw]; exact (by (with_reducible repeat (first | refine blk_drewN ?_ _ | refine blk_drew ?_ | refine blk_alloc ?_ _)); refine blk_put (cs := #[.slice Ao28 t207.length co28, .slice none 0 0]) ?_ 1 _ rfl; (with_reducible repeat (first | refine blk_drewN ?_ _ | refine blk_drew ?_ | refine blk_alloc ?_ _)); refine blk_put (cs := #[.slice none 0 0, .slice none 0 0]) ?_ 0 _ rfl; (with_reducible repeat (first | refine blk_drewN ?_ _ | refine blk_drew ?_ | refine blk_alloc ?_ _)); exact BK213.out))⟩; have n9_ : Aside0 (Below w.heap.size w w33) := ⟨(by rw [hw]; exact (by repeat (first | (with_reducible first | exact HB.out | apply below_alloc | apply pw_below_drewN | apply below_drew1 | refine below_set ?_ GE191.out | refine below_set ?_ GE206.out | refine below_set ?_ GE213.out) | exact HB.out)))⟩; clear hw; clear HO195; clear HO198; clear HO202; clear HO205; clear HO209; clear HO212; clear BK191; clear BK206; clear BK213; clear HB; have HO195 := n0_; have HO198 := n1_; have HO202 := n2_; have HO205 := n3_; have HO209 := n4_; have HO212 := n5_; have BK191 := n6_; have BK206 := n7_; have BK213 := n8_; have HB := n9_; clear n0_ n1_ n2_ n3_ n4_ n5_ n6_ n7_ n8_ n9_; have hcz34_0 : w33.cell? ⟨gb213, 0, none⟩ = some (.slice Ao28 t207.length co28) := (blk_cell BK213.out 0).trans rfl; have hcz34_1 : w33.cell? ⟨gb213, 1, none⟩ = some (.slice Ao32 t210.length co32) := (blk_cell BK213.out 1).trans rfl; have hfz34_0 := blk_frozen BK213.out 0; have hfz34_1 := blk_frozen BK213.out 1) | ((with_reducible refine gate_callee (f := 42) rfl ?_); refine goesL_ (some 26) rfl rfl Try.func42 (by kernel_rfl) rfl #[.agg #[.slice Ao28 t207.length co28, .slice Ao32 t210.length co32], .int .i64 a1] rfl (by (try simp only [List.map_toArray, List.map_cons, List.map_nil]); first | done | rfl | (simp only [List.length_drop, List.length_take]; rfl)) ?_; (with_reducible refine (impl_CrashLog.calls kj3 (fun k_ => some k_ = (.slice Ao28 t207.length co28 : Value).ownBlock) _ _ t207 (fun k_ => some k_ = (.slice Ao32 t210.length co32 : Value).ownBlock) _ _ t210 a1 t214 t215 t218 _ ?side1 ?side2 A12.out).mono ?_); (case side1 => exact Kd.R_V (Kd.R_tight rfl (Kd.R_types (Kd.R_types (Kd.R_types (HO209.out) BK191.out (by decide)) BK206.out (by decide)) BK213.out (by decide)))); (case side2 => exact Kd.R_V (Kd.R_tight rfl (Kd.R_types (Kd.R_types (Kd.R_types (HO212.out) BK191.out (by decide)) BK206.out (by decide)) BK213.out (by decide)))); rintro e w35 ⟨v216, v219, rfl, ho0, ho1, hb⟩; refine ⟨_, rfl, ?_⟩; have n0_ := Aside0.mk (Kd.R_mono (Kd.R_told (Kd.R_told (Kd.R_old (by (with_reducible repeat (first | apply Kd.R_alloc | apply Kd.R_drewN | apply Kd.R_drew)); exact HO195.out) hb) (Kd.R_base ho0)) (Kd.R_base ho1)) (fun _ h_ => h_.1)); have n1_ := Aside0.mk (Kd.R_mono (Kd.R_told (Kd.R_told (Kd.R_old (by (with_reducible repeat (first | apply Kd.R_alloc | apply Kd.R_drewN | apply Kd.R_drew)); exact HO198.out) hb) (Kd.R_base ho0)) (Kd.R_base ho1)) (fun _ h_ => h_.1)); have n2_ := Aside0.mk (Kd.R_mono (Kd.R_told (Kd.R_told (Kd.R_old (by (with_reducible repeat (first | apply Kd.R_alloc | apply Kd.R_drewN | apply Kd.R_drew)); exact HO202.out) hb) (Kd.R_base ho0)) (Kd.R_base ho1)) (fun _ h_ => h_.1)); have n3_ := Aside0.mk (Kd.R_mono (Kd.R_told (Kd.R_told (Kd.R_old (by (with_reducible repeat (first | apply Kd.R_alloc | apply Kd.R_drewN | apply Kd.R_drew)); exact HO205.out) hb) (Kd.R_base ho0)) (Kd.R_base ho1)) (fun _ h_ => h_.1)); have n4_ := Aside0.mk (Kd.R_mono (Kd.R_told (Kd.R_told (Kd.R_old (by (with_reducible repeat (first | apply Kd.R_alloc | apply Kd.R_drewN | apply Kd.R_drew)); exact HO209.out) hb) (Kd.R_base ho0)) (Kd.R_base ho1)) (fun _ h_ => h_.1)); have n5_ := Aside0.mk (Kd.R_mono (Kd.R_told (Kd.R_told (Kd.R_old (by (with_reducible repeat (first | apply Kd.R_alloc | apply Kd.R_drewN | apply Kd.R_drew)); exact HO212.out) hb) (Kd.R_base ho0)) (Kd.R_base ho1)) (fun _ h_ => h_.1)); have n6_ := Aside0.mk (Kd.R_lower (Kd.R_new' (Kd.R_new' (Kd.R_new' (Kd.R_new' (Kd.R_new' (Kd.R_new' (Kd.R_mono (ok' := fun k_ => some k_ ≠ (v219 : Value).ownBlock) ho0 (fun _ hk_ => hk_.2)) (Kd.R_lt (by (with_reducible repeat (first | apply Kd.R_alloc | apply Kd.R_drewN | apply Kd.R_drew)); exact HO195.out))) (Kd.R_lt (by (with_reducible repeat (first | apply Kd.R_alloc | apply Kd.R_drewN | apply Kd.R_drew)); exact HO198.out))) (Kd.R_lt (by (with_reducible repeat (first | apply Kd.R_alloc | apply Kd.R_drewN | apply Kd.R_drew)); exact HO202.out))) (Kd.R_lt (by (with_reducible repeat (first | apply Kd.R_alloc | apply Kd.R_drewN | apply Kd.R_drew)); exact HO205.out))) (Kd.R_lt (by (with_reducible repeat (first | apply Kd.R_alloc | apply Kd.R_drewN | apply Kd.R_drew)); exact HO209.out))) (Kd.R_lt (by (with_reducible repeat (first | apply Kd.R_alloc | apply Kd.R_drewN | apply Kd.R_drew)); exact HO212.out))) (below_size (by repeat (first | (with_reducible first | exact HB.out | apply below_alloc | apply pw_below_drewN | apply below_drew1 | refine below_set ?_ GE191.out | refine below_set ?_ GE206.out | refine below_set ?_ GE213.out) | exact HB.out)))); have n7_ := Aside0.mk (Kd.R_lower (Kd.R_new' (Kd.R_new' (Kd.R_new' (Kd.R_new' (Kd.R_new' (Kd.R_new' (Kd.R_mono (ok' := fun k_ => some k_ ≠ (v216 : Value).ownBlock) ho1 (fun _ hk_ => hk_.2)) (Kd.R_lt (by (with_reducible repeat (first | apply Kd.R_alloc | apply Kd.R_drewN | apply Kd.R_drew)); exact HO195.out))) (Kd.R_lt (by (with_reducible repeat (first | apply Kd.R_alloc | apply Kd.R_drewN | apply Kd.R_drew)); exact HO198.out))) (Kd.R_lt (by (with_reducible repeat (first | apply Kd.R_alloc | apply Kd.R_drewN | apply Kd.R_drew)); exact HO202.out))) (Kd.R_lt (by (with_reducible repeat (first | apply Kd.R_alloc | apply Kd.R_drewN | apply Kd.R_drew)); exact HO205.out))) (Kd.R_lt (by (with_reducible repeat (first | apply Kd.R_alloc | apply Kd.R_drewN | apply Kd.R_drew)); exact HO209.out))) (Kd.R_lt (by (with_reducible repeat (first | apply Kd.R_alloc | apply Kd.R_drewN | apply Kd.R_drew)); exact HO212.out))) (below_size (by repeat (first | (with_reducible first | exact HB.out | apply below_alloc | apply pw_below_drewN | apply below_drew1 | refine below_set ?_ GE191.out | refine below_set ?_ GE206.out | refine below_set ?_ GE213.out) | exact HB.out)))); have n8_ := Aside0.mk (blk_below (g := gb191) (o := .cells #[.slice A0_0 l0_0.length c0_0, .slice A0_1 l0_1.length c0_1] 24 (0, 0)) (by (with_reducible repeat (first | refine blk_drewN ?_ _ | refine blk_drew ?_ | refine blk_alloc ?_ _)); exact BK191.out) hb); have n9_ := Aside0.mk (blk_below (g := gb206) (o := .cells #[.int .i64 t199, .slice Ao23 t200.length co23, .slice Ao24 t203.length co24] 46 (0, 0)) (by (with_reducible repeat (first | refine blk_drewN ?_ _ | refine blk_drew ?_ | refine blk_alloc ?_ _)); exact BK206.out) hb); have n10_ := Aside0.mk (blk_below (g := gb213) (o := .cells #[.slice Ao28 t207.length co28, .slice Ao32 t210.length co32] 27 (0, 0)) (by (with_reducible repeat (first | refine blk_drewN ?_ _ | refine blk_drew ?_ | refine blk_alloc ?_ _)); exact BK213.out) hb); have n11_ := Aside0.mk (below_step (by repeat (first | (with_reducible first | exact HB.out | apply below_alloc | apply pw_below_drewN | apply below_drew1 | refine below_set ?_ GE191.out | refine below_set ?_ GE206.out | refine below_set ?_ GE213.out) | exact HB.out)) hb); clear HO195; clear HO198; clear HO202; clear HO205; clear HO209; clear HO212; clear BK191; clear BK206; clear BK213; clear HB; have HO195 := n0_; have HO198 := n1_; have HO202 := n2_; have HO205 := n3_; have HO209 := n4_; have HO212 := n5_; have HO217 := n6_; have HO220 := n7_; have BK191 := n8_; have BK206 := n9_; have BK213 := n10_; have HB := n11_; clear n0_ n1_ n2_ n3_ n4_ n5_ n6_ n7_ n8_ n9_ n10_ n11_; (try clear hb); (try clear hb2); (try clear hk); (try clear hi); (try clear ho0); (try clear ho1)) | ((with_reducible refine gate_dst (N := 8) rfl ?_); refine box_event ?hg (N := 8) ?hd (cs := #[.int .i64 0, .slice none 0 0, .slice none 0 0]) (t := 46) ?hr ?_; (case hd => rfl); (case hg => rfl); (case hr => first | (go_simp; done) | (go_simp; rfl)); intro gb221 hg w36 hbox hb; have n0_ := Aside0.mk (Kd.R_below (by (with_reducible repeat (first | apply Kd.R_alloc | apply Kd.R_drewN | apply Kd.R_drew)); exact HO195.out) hb); have n1_ := Aside0.mk (Kd.R_below (by (with_reducible repeat (first | apply Kd.R_alloc | apply Kd.R_drewN | apply Kd.R_drew)); exact HO198.out) hb); have n2_ := Aside0.mk (Kd.R_below (by (with_reducible repeat (first | apply Kd.R_alloc | apply Kd.R_drewN | apply Kd.R_drew)); exact HO202.out) hb); have n3_ := Aside0.mk (Kd.R_below (by (with_reducible repeat (first | apply Kd.R_alloc | apply Kd.R_drewN | apply Kd.R_drew)); exact HO205.out) hb); have n4_ := Aside0.mk (Kd.R_below (by (with_reducible repeat (first | apply Kd.R_alloc | apply Kd.R_drewN | apply Kd.R_drew)); exact HO209.out) hb); have n5_ := Aside0.mk (Kd.R_below (by (with_reducible repeat (first | apply Kd.R_alloc | apply Kd.R_drewN | apply Kd.R_drew)); exact HO212.out) hb); have n6_ := Aside0.mk (Kd.R_below (by (with_reducible repeat (first | apply Kd.R_alloc | apply Kd.R_drewN | apply Kd.R_drew)); exact HO217.out) hb); have n7_ := Aside0.mk (Kd.R_below (by (with_reducible repeat (first | apply Kd.R_alloc | apply Kd.R_drewN | apply Kd.R_drew)); exact HO220.out) hb); have n8_ := Aside0.mk (blk_below (g := gb191) (o := .cells #[.slice A0_0 l0_0.length c0_0, .slice A0_1 l0_1.length c0_1] 24 (0, 0)) (by (with_reducible repeat (first | refine blk_drewN ?_ _ | refine blk_drew ?_ | refine blk_alloc ?_ _)); exact BK191.out) hb); have n9_ := Aside0.mk (blk_below (g := gb206) (o := .cells #[.int .i64 t199, .slice Ao23 t200.length co23, .slice Ao24 t203.length co24] 46 (0, 0)) (by (with_reducible repeat (first | refine blk_drewN ?_ _ | refine blk_drew ?_ | refine blk_alloc ?_ _)); exact BK206.out) hb); have n10_ := Aside0.mk (blk_below (g := gb213) (o := .cells #[.slice Ao28 t207.length co28, .slice Ao32 t210.length co32] 27 (0, 0)) (by (with_reducible repeat (first | refine blk_drewN ?_ _ | refine blk_drew ?_ | refine blk_alloc ?_ _)); exact BK213.out) hb); have n11_ := Aside0.mk (below_step (by repeat (first | (with_reducible first | exact HB.out | apply below_alloc | apply pw_below_drewN | apply below_drew1 | refine below_set ?_ GE191.out | refine below_set ?_ GE206.out | refine below_set ?_ GE213.out) | exact HB.out)) hb); have n12_ := Aside0.mk (hbox); have n13_ := Aside0.mk ((by rw [hg]; exact (below_size (by repeat (first | (with_reducible first | exact HB.out | apply below_alloc | apply pw_below_drewN | apply below_drew1 | refine below_set ?_ GE191.out | refine below_set ?_ GE206.out | refine below_set ?_ GE213.out) | exact HB.out))) : w.heap.size ≤ gb221)); have n14_ := Aside0.mk ((by rw [hg]; exact (below_size (by repeat (first | (with_reducible first | exact HB.out | apply below_alloc | apply pw_below_drewN | apply below_drew1 | refine below_set ?_ GE191.out | refine below_set ?_ GE206.out | refine below_set ?_ GE213.out) | exact HB.out))) : w.heap.size ≤ gb221)); have n15_ := Aside0.mk ((by rw [hg]; exact Nat.ne_of_lt (blk_lt (g := gb191) (o := .cells #[.slice A0_0 l0_0.length c0_0, .slice A0_1 l0_1.length c0_1] 24 (0, 0)) (by (with_reducible repeat (first | refine blk_drewN ?_ _ | refine blk_drew ?_ | refine blk_alloc ?_ _)); exact BK191.out)) : gb191 ≠ gb221)); have n16_ := Aside0.mk ((by rw [hg]; exact Nat.ne_of_gt (blk_lt (g := gb191) (o := .cells #[.slice A0_0 l0_0.length c0_0, .slice A0_1 l0_1.length c0_1] 24 (0, 0)) (by (with_reducible repeat (first | refine blk_drewN ?_ _ | refine blk_drew ?_ | refine blk_alloc ?_ _)); exact BK191.out)) : gb221 ≠ gb191)); have n17_ := Aside0.mk ((by rw [hg]; exact Nat.ne_of_lt (blk_lt (g := gb206) (o := .cells #[.int .i64 t199, .slice Ao23 t200.length co23, .slice Ao24 t203.length co24] 46 (0, 0)) (by (with_reducible repeat (first | refine blk_drewN ?_ _ | refine blk_drew ?_ | refine blk_alloc ?_ _)); exact BK206.out)) : gb206 ≠ gb221)); have n18_ := Aside0.mk ((by rw [hg]; exact Nat.ne_of_gt (blk_lt (g := gb206) (o := .cells #[.int .i64 t199, .slice Ao23 t200.length co23, .slice Ao24 t203.length co24] 46 (0, 0)) (by (with_reducible repeat (first | refine blk_drewN ?_ _ | refine blk_drew ?_ | refine blk_alloc ?_ _)); exact BK206.out)) : gb221 ≠ gb206)); have n19_ := Aside0.mk ((by rw [hg]; exact Nat.ne_of_lt (blk_lt (g := gb213) (o := .cells #[.slice Ao28 t207.length co28, .slice Ao32 t210.length co32] 27 (0, 0)) (by (with_reducible repeat (first | refine blk_drewN ?_ _ | refine blk_drew ?_ | refine blk_alloc ?_ _)); exact BK213.out)) : gb213 ≠ gb221)); have n20_ := Aside0.mk ((by rw [hg]; exact Nat.ne_of_gt (blk_lt (g := gb213) (o := .cells #[.slice Ao28 t207.length co28, .slice Ao32 t210.length co32] 27 (0, 0)) (by (with_reducible repeat (first | refine blk_drewN ?_ _ | refine blk_drew ?_ | refine blk_alloc ?_ _)); exact BK213.out)) : gb221 ≠ gb213)); clear HO195; clear HO198; clear HO202; clear HO205; clear HO209; clear HO212; clear HO217; clear HO220; clear BK191; clear BK206; clear BK213; clear HB; have HO195 := n0_; have HO198 := n1_; have HO202 := n2_; have HO205 := n3_; have HO209 := n4_; have HO212 := n5_; have HO217 := n6_; have HO220 := n7_; have BK191 := n8_; have BK206 := n9_; have BK213 := n10_; have HB := n11_; have BK221 := n12_; have GW221 := n13_; have GE221 := n14_; have NB191_221 := n15_; have NB221_191 := n16_; have NB206_221 := n17_; have NB221_206 := n18_; have NB213_221 := n19_; have NB221_213 := n20_; clear n0_ n1_ n2_ n3_ n4_ n5_ n6_ n7_ n8_ n9_ n10_ n11_ n12_ n13_ n14_ n15_ n16_ n17_ n18_ n19_ n20_; clear hb hbox hg; have hnb37 := NB221_191.out; have hnc37 := NB191_221.out; have hnb38 := NB221_206.out; have hnc38 := NB206_221.out; have hnb39 := NB221_213.out; have hnc39 := NB213_221.out; have hcz40_0 : w36.cell? ⟨gb221, 0, none⟩ = some (.int .i64 0) := (blk_cell BK221.out 0).trans rfl; have hcz40_1 : w36.cell? ⟨gb221, 1, none⟩ = some (.slice none 0 0) := (blk_cell BK221.out 1).trans rfl; have hcz40_2 : w36.cell? ⟨gb221, 2, none⟩ = some (.slice none 0 0) := (blk_cell BK221.out 2).trans rfl; have hfz40_0 := blk_frozen BK221.out 0; have hfz40_1 := blk_frozen BK221.out 1; have hfz40_2 := blk_frozen BK221.out 2; obtain ⟨Ao41, co41, eo41⟩ := Kd.R_slice HO217.out; subst eo41; obtain ⟨Ao42, co42, eo42⟩ := Kd.R_slice HO220.out; subst eo42; have hcz43_0 : w36.cell? ⟨gb206, 0, none⟩ = some (.int .i64 t199) := (blk_cell BK206.out 0).trans rfl; have hcz43_1 : w36.cell? ⟨gb206, 1, none⟩ = some (.slice Ao23 t200.length co23) := (blk_cell BK206.out 1).trans rfl; have hcz43_2 : w36.cell? ⟨gb206, 2, none⟩ = some (.slice Ao24 t203.length co24) := (blk_cell BK206.out 2).trans rfl; have hfz43_0 := blk_frozen BK206.out 0; have hfz43_1 := blk_frozen BK206.out 1; have hfz43_2 := blk_frozen BK206.out 2) | ((with_reducible refine gate_callee (f := 33) rfl ?_); refine goesL_ (some 29) rfl rfl Try.func33 (by kernel_rfl) rfl #[.agg #[.int .i64 t214, .slice Ao41 t215.length co41, .slice Ao42 t218.length co42], .agg #[.int .i64 t199, .slice Ao23 t200.length co23, .slice Ao24 t203.length co24]] rfl (by (try simp only [List.map_toArray, List.map_cons, List.map_nil]); first | done | rfl | (simp only [List.length_drop, List.length_take]; rfl)) ?_; (with_reducible refine (laws_eqLogResult.calls kj3 t214 _ _ t215 _ _ t218 t199 _ _ t200 _ _ t203 t222 _ ?side1 ?side2 ?side3 ?side4 ?side5 ?side6 ?side7 ?side8 A13.out).mono ?_); (case side1 => refine (Kd.R_reads' (e := 5) (base := w.heap.size) (ok := fun k_ => ((((((some k_ ≠ (.slice Ao42 t218.length co42 : Value).ownBlock ∧ some k_ ≠ (.slice Ao17 t193.length co17 : Value).ownBlock) ∧ some k_ ≠ (.slice Ao18 t196.length co18 : Value).ownBlock) ∧ some k_ ≠ (.slice Ao23 t200.length co23 : Value).ownBlock) ∧ some k_ ≠ (.slice Ao24 t203.length co24 : Value).ownBlock) ∧ some k_ ≠ (.slice Ao28 t207.length co28 : Value).ownBlock) ∧ some k_ ≠ (.slice Ao32 t210.length co32 : Value).ownBlock)) (n := t215.length) (c := co41) ?_).2.2; exact (by (with_reducible repeat (first | apply Kd.R_alloc | apply Kd.R_drewN | apply Kd.R_drew)); exact (Kd.R_mono (Kd.R_far (p := ⟨gb221, 2, none⟩) (Kd.R_far (p := ⟨gb221, 1, none⟩) (Kd.R_far (p := ⟨gb221, 0, none⟩) (Kd.R_types HO217.out BK221.out (by decide)) (fun _ hk => hk.2) (.int .i64 t214)) (fun _ hk => hk.2) (.slice Ao41 t215.length co41)) (fun _ hk => hk.2) (.slice Ao42 t218.length co42)) (fun _ h_ => h_.1)))); (case side2 => exact (Kd.R_reads' HO217.out).2.1); (case side3 => refine (Kd.R_reads' (e := 5) (base := w.heap.size) (ok := fun k_ => ((((((some k_ ≠ (.slice Ao41 t215.length co41 : Value).ownBlock ∧ some k_ ≠ (.slice Ao17 t193.length co17 : Value).ownBlock) ∧ some k_ ≠ (.slice Ao18 t196.length co18 : Value).ownBlock) ∧ some k_ ≠ (.slice Ao23 t200.length co23 : Value).ownBlock) ∧ some k_ ≠ (.slice Ao24 t203.length co24 : Value).ownBlock) ∧ some k_ ≠ (.slice Ao28 t207.length co28 : Value).ownBlock) ∧ some k_ ≠ (.slice Ao32 t210.length co32 : Value).ownBlock)) (n := t218.length) (c := co42) ?_).2.2; exact (by (with_reducible repeat (first | apply Kd.R_alloc | apply Kd.R_drewN | apply Kd.R_drew)); exact (Kd.R_mono (Kd.R_far (p := ⟨gb221, 2, none⟩) (Kd.R_far (p := ⟨gb221, 1, none⟩) (Kd.R_far (p := ⟨gb221, 0, none⟩) (Kd.R_types HO220.out BK221.out (by decide)) (fun _ hk => hk.2) (.int .i64 t214)) (fun _ hk => hk.2) (.slice Ao41 t215.length co41)) (fun _ hk => hk.2) (.slice Ao42 t218.length co42)) (fun _ h_ => h_.1)))); (case side4 => exact (Kd.R_reads' HO220.out).2.1); (case side5 => refine (Kd.R_reads' (e := 5) (base := w.heap.size) (ok := fun k_ => (((some k_ ≠ (.slice Ao17 t193.length co17 : Value).ownBlock ∧ (some k_ ≠ (.slice Ao18 t196.length co18 : Value).ownBlock ∧ (some k_ ≠ (.slice Ao24 t203.length co24 : Value).ownBlock ∧ (some k_ ≠ (.slice Ao28 t207.length co28 : Value).ownBlock ∧ some k_ ≠ (.slice Ao32 t210.length co32 : Value).ownBlock)))) ∧ some k_ ≠ (.slice Ao41 t215.length co41 : Value).ownBlock) ∧ some k_ ≠ (.slice Ao42 t218.length co42 : Value).ownBlock)) (n := t200.length) (c := co23) ?_).2.2; exact (by (with_reducible repeat (first | apply Kd.R_alloc | apply Kd.R_drewN | apply Kd.R_drew)); exact (Kd.R_mono (Kd.R_far (p := ⟨gb221, 2, none⟩) (Kd.R_far (p := ⟨gb221, 1, none⟩) (Kd.R_far (p := ⟨gb221, 0, none⟩) (Kd.R_types HO202.out BK221.out (by decide)) (fun _ hk => hk.2) (.int .i64 t214)) (fun _ hk => hk.2) (.slice Ao41 t215.length co41)) (fun _ hk => hk.2) (.slice Ao42 t218.length co42)) (fun _ h_ => h_.1)))); (case side6 => exact (Kd.R_reads' HO202.out).2.1); (case side7 => refine (Kd.R_reads' (e := 5) (base := w.heap.size) (ok := fun k_ => (((some k_ ≠ (.slice Ao17 t193.length co17 : Value).ownBlock ∧ (some k_ ≠ (.slice Ao18 t196.length co18 : Value).ownBlock ∧ (some k_ ≠ (.slice Ao23 t200.length co23 : Value).ownBlock ∧ (some k_ ≠ (.slice Ao28 t207.length co28 : Value).ownBlock ∧ some k_ ≠ (.slice Ao32 t210.length co32 : Value).ownBlock)))) ∧ some k_ ≠ (.slice Ao41 t215.length co41 : Value).ownBlock) ∧ some k_ ≠ (.slice Ao42 t218.length co42 : Value).ownBlock)) (n := t203.length) (c := co24) ?_).2.2; exact (by (with_reducible repeat (first | apply Kd.R_alloc | apply Kd.R_drewN | apply Kd.R_drew)); exact (Kd.R_mono (Kd.R_far (p := ⟨gb221, 2, none⟩) (Kd.R_far (p := ⟨gb221, 1, none⟩) (Kd.R_far (p := ⟨gb221, 0, none⟩) (Kd.R_types HO205.out BK221.out (by decide)) (fun _ hk => hk.2) (.int .i64 t214)) (fun _ hk => hk.2) (.slice Ao41 t215.length co41)) (fun _ hk => hk.2) (.slice Ao42 t218.length co42)) (fun _ h_ => h_.1)))); (case side8 => exact (Kd.R_reads' HO205.out).2.1); rintro e w44 ⟨rfl, hb⟩; refine ⟨_, rfl, ?_⟩; have n0_ := Aside0.mk (Kd.R_below (by (with_reducible repeat (first | apply Kd.R_alloc | apply Kd.R_drewN | apply Kd.R_drew)); exact (Kd.R_mono (Kd.R_far (p := ⟨gb221, 2, none⟩) (Kd.R_far (p := ⟨gb221, 1, none⟩) (Kd.R_far (p := ⟨gb221, 0, none⟩) (Kd.R_types HO195.out BK221.out (by decide)) (fun _ hk => hk.2) (.int .i64 t214)) (fun _ hk => hk.2) (.slice Ao41 t215.length co41)) (fun _ hk => hk.2) (.slice Ao42 t218.length co42)) (fun _ h_ => h_.1))) hb); have n1_ := Aside0.mk (Kd.R_below (by (with_reducible repeat (first | apply Kd.R_alloc | apply Kd.R_drewN | apply Kd.R_drew)); exact (Kd.R_mono (Kd.R_far (p := ⟨gb221, 2, none⟩) (Kd.R_far (p := ⟨gb221, 1, none⟩) (Kd.R_far (p := ⟨gb221, 0, none⟩) (Kd.R_types HO198.out BK221.out (by decide)) (fun _ hk => hk.2) (.int .i64 t214)) (fun _ hk => hk.2) (.slice Ao41 t215.length co41)) (fun _ hk => hk.2) (.slice Ao42 t218.length co42)) (fun _ h_ => h_.1))) hb); have n2_ := Aside0.mk (Kd.R_below (by (with_reducible repeat (first | apply Kd.R_alloc | apply Kd.R_drewN | apply Kd.R_drew)); exact (Kd.R_mono (Kd.R_far (p := ⟨gb221, 2, none⟩) (Kd.R_far (p := ⟨gb221, 1, none⟩) (Kd.R_far (p := ⟨gb221, 0, none⟩) (Kd.R_types HO202.out BK221.out (by decide)) (fun _ hk => hk.2) (.int .i64 t214)) (fun _ hk => hk.2) (.slice Ao41 t215.length co41)) (fun _ hk => hk.2) (.slice Ao42 t218.length co42)) (fun _ h_ => h_.1))) hb); have n3_ := Aside0.mk (Kd.R_below (by (with_reducible repeat (first | apply Kd.R_alloc | apply Kd.R_drewN | apply Kd.R_drew)); exact (Kd.R_mono (Kd.R_far (p := ⟨gb221, 2, none⟩) (Kd.R_far (p := ⟨gb221, 1, none⟩) (Kd.R_far (p := ⟨gb221, 0, none⟩) (Kd.R_types HO205.out BK221.out (by decide)) (fun _ hk => hk.2) (.int .i64 t214)) (fun _ hk => hk.2) (.slice Ao41 t215.length co41)) (fun _ hk => hk.2) (.slice Ao42 t218.length co42)) (fun _ h_ => h_.1))) hb); have n4_ := Aside0.mk (Kd.R_below (by (with_reducible repeat (first | apply Kd.R_alloc | apply Kd.R_drewN | apply Kd.R_drew)); exact (Kd.R_mono (Kd.R_far (p := ⟨gb221, 2, none⟩) (Kd.R_far (p := ⟨gb221, 1, none⟩) (Kd.R_far (p := ⟨gb221, 0, none⟩) (Kd.R_types HO209.out BK221.out (by decide)) (fun _ hk => hk.2) (.int .i64 t214)) (fun _ hk => hk.2) (.slice Ao41 t215.length co41)) (fun _ hk => hk.2) (.slice Ao42 t218.length co42)) (fun _ h_ => h_.1))) hb); have n5_ := Aside0.mk (Kd.R_below (by (with_reducible repeat (first | apply Kd.R_alloc | apply Kd.R_drewN | apply Kd.R_drew)); exact (Kd.R_mono (Kd.R_far (p := ⟨gb221, 2, none⟩) (Kd.R_far (p := ⟨gb221, 1, none⟩) (Kd.R_far (p := ⟨gb221, 0, none⟩) (Kd.R_types HO212.out BK221.out (by decide)) (fun _ hk => hk.2) (.int .i64 t214)) (fun _ hk => hk.2) (.slice Ao41 t215.length co41)) (fun _ hk => hk.2) (.slice Ao42 t218.length co42)) (fun _ h_ => h_.1))) hb); have n6_ := Aside0.mk (Kd.R_below (by (with_reducible repeat (first | apply Kd.R_alloc | apply Kd.R_drewN | apply Kd.R_drew)); exact (Kd.R_mono (Kd.R_far (p := ⟨gb221, 2, none⟩) (Kd.R_far (p := ⟨gb221, 1, none⟩) (Kd.R_far (p := ⟨gb221, 0, none⟩) (Kd.R_types HO217.out BK221.out (by decide)) (fun _ hk => hk.2) (.int .i64 t214)) (fun _ hk => hk.2) (.slice Ao41 t215.length co41)) (fun _ hk => hk.2) (.slice Ao42 t218.length co42)) (fun _ h_ => h_.1))) hb); have n7_ := Aside0.mk (Kd.R_below (by (with_reducible repeat (first | apply Kd.R_alloc | apply Kd.R_drewN | apply Kd.R_drew)); exact (Kd.R_mono (Kd.R_far (p := ⟨gb221, 2, none⟩) (Kd.R_far (p := ⟨gb221, 1, none⟩) (Kd.R_far (p := ⟨gb221, 0, none⟩) (Kd.R_types HO220.out BK221.out (by decide)) (fun _ hk => hk.2) (.int .i64 t214)) (fun _ hk => hk.2) (.slice Ao41 t215.length co41)) (fun _ hk => hk.2) (.slice Ao42 t218.length co42)) (fun _ h_ => h_.1))) hb); have n8_ := Aside0.mk (blk_below (g := gb191) (o := .cells #[.slice A0_0 l0_0.length c0_0, .slice A0_1 l0_1.length c0_1] 24 (0, 0)) (by (with_reducible repeat (first | refine blk_drewN ?_ _ | refine blk_drew ?_ | refine blk_alloc ?_ _)); refine blk_far ?_ NB191_221.out _; (with_reducible repeat (first | refine blk_drewN ?_ _ | refine blk_drew ?_ | refine blk_alloc ?_ _)); refine blk_far ?_ NB191_221.out _; (with_reducible repeat (first | refine blk_drewN ?_ _ | refine blk_drew ?_ | refine blk_alloc ?_ _)); refine blk_far ?_ NB191_221.out _; (with_reducible repeat (first | refine blk_drewN ?_ _ | refine blk_drew ?_ | refine blk_alloc ?_ _)); exact BK191.out) hb); have n9_ := Aside0.mk (blk_below (g := gb206) (o := .cells #[.int .i64 t199, .slice Ao23 t200.length co23, .slice Ao24 t203.length co24] 46 (0, 0)) (by (with_reducible repeat (first | refine blk_drewN ?_ _ | refine blk_drew ?_ | refine blk_alloc ?_ _)); refine blk_far ?_ NB206_221.out _; (with_reducible repeat (first | refine blk_drewN ?_ _ | refine blk_drew ?_ | refine blk_alloc ?_ _)); refine blk_far ?_ NB206_221.out _; (with_reducible repeat (first | refine blk_drewN ?_ _ | refine blk_drew ?_ | refine blk_alloc ?_ _)); refine blk_far ?_ NB206_221.out _; (with_reducible repeat (first | refine blk_drewN ?_ _ | refine blk_drew ?_ | refine blk_alloc ?_ _)); exact BK206.out) hb); have n10_ := Aside0.mk (blk_below (g := gb213) (o := .cells #[.slice Ao28 t207.length co28, .slice Ao32 t210.length co32] 27 (0, 0)) (by (with_reducible repeat (first | refine blk_drewN ?_ _ | refine blk_drew ?_ | refine blk_alloc ?_ _)); refine blk_far ?_ NB213_221.out _; (with_reducible repeat (first | refine blk_drewN ?_ _ | refine blk_drew ?_ | refine blk_alloc ?_ _)); refine blk_far ?_ NB213_221.out _; (with_reducible repeat (first | refine blk_drewN ?_ _ | refine blk_drew ?_ | refine blk_alloc ?_ _)); refine blk_far ?_ NB213_221.out _; (with_reducible repeat (first | refine blk_drewN ?_ _ | refine blk_drew ?_ | refine blk_alloc ?_ _)); exact BK213.out) hb); have n11_ := Aside0.mk (blk_below (g := gb221) (o := .cells #[.int .i64 t214, .slice Ao41 t215.length co41, .slice Ao42 t218.length co42] 46 (0, 0)) (by (with_reducible repeat (first | refine blk_drewN ?_ _ | refine blk_drew ?_ | refine blk_alloc ?_ _)); refine blk_put (cs := #[.int .i64 t214, .slice Ao41 t215.length co41, .slice none 0 0]) ?_ 2 _ rfl; (with_reducible repeat (first | refine blk_drewN ?_ _ | refine blk_drew ?_ | refine blk_alloc ?_ _)); refine blk_put (cs := #[.int .i64 t214, .slice none 0 0, .slice none 0 0]) ?_ 1 _ rfl; (with_reducible repeat (first | refine blk_drewN ?_ _ | refine blk_drew ?_ | refine blk_alloc ?_ _)); refine blk_put (cs := #[.int .i64 0, .slice none 0 0, .slice none 0 0]) ?_ 0 _ rfl; (with_reducible repeat (first | refine blk_drewN ?_ _ | refine blk_drew ?_ | refine blk_alloc ?_ _)); exact BK221.out) hb); have n12_ := Aside0.mk (below_step (by repeat (first | (with_reducible first | exact HB.out | apply below_alloc | apply pw_below_drewN | apply below_drew1 | refine below_set ?_ GE191.out | refine below_set ?_ GE206.out | refine below_set ?_ GE213.out | refine below_set ?_ GE221.out) | exact HB.out)) hb); clear HO195; clear HO198; clear HO202; clear HO205; clear HO209; clear HO212; clear HO217; clear HO220; clear BK191; clear BK206; clear BK213; clear BK221; clear HB; have HO195 := n0_; have HO198 := n1_; have HO202 := n2_; have HO205 := n3_; have HO209 := n4_; have HO212 := n5_; have HO217 := n6_; have HO220 := n7_; have BK191 := n8_; have BK206 := n9_; have BK213 := n10_; have BK221 := n11_; have HB := n12_; clear n0_ n1_ n2_ n3_ n4_ n5_ n6_ n7_ n8_ n9_ n10_ n11_ n12_; (try clear hb); (try clear hb2); (try clear hk); (try clear hi)))
      (try simp only [Act.put, List.setIfInBounds_toArray, List.set_cons_zero, List.set_cons_succ])
      go_cut [] (fun wc => ∃ (kq : Nat), Aside0 (laws_FnExactCrashLog.j1 kq a1 l0_0 l0_1 t199 t200 t203 t207 t210 t214 t215 t218 = some r) ∧ Aside0 (kq ≤ kj3) ∧ Aside0 (Kd.R (Kd.int .u8) 5 wc w.heap.size (fun k_ => some k_ ≠ ((.slice Ao24 t203.length co24) : Value).ownBlock ∧ some k_ ≠ ((.slice Ao28 t207.length co28) : Value).ownBlock ∧ some k_ ≠ ((.slice Ao32 t210.length co32) : Value).ownBlock ∧ some k_ ≠ ((.slice Ao41 t215.length co41) : Value).ownBlock ∧ some k_ ≠ ((.slice Ao42 t218.length co42) : Value).ownBlock) (.slice Ao23 t200.length co23) t200) ∧ Aside0 (Kd.R (Kd.int .u8) 5 wc w.heap.size (fun k_ => some k_ ≠ ((.slice Ao23 t200.length co23) : Value).ownBlock ∧ some k_ ≠ ((.slice Ao28 t207.length co28) : Value).ownBlock ∧ some k_ ≠ ((.slice Ao32 t210.length co32) : Value).ownBlock ∧ some k_ ≠ ((.slice Ao41 t215.length co41) : Value).ownBlock ∧ some k_ ≠ ((.slice Ao42 t218.length co42) : Value).ownBlock) (.slice Ao24 t203.length co24) t203) ∧ Aside0 (Kd.R (Kd.int .u8) 5 wc w.heap.size (fun k_ => some k_ ≠ ((.slice Ao23 t200.length co23) : Value).ownBlock ∧ some k_ ≠ ((.slice Ao24 t203.length co24) : Value).ownBlock ∧ some k_ ≠ ((.slice Ao32 t210.length co32) : Value).ownBlock ∧ some k_ ≠ ((.slice Ao41 t215.length co41) : Value).ownBlock ∧ some k_ ≠ ((.slice Ao42 t218.length co42) : Value).ownBlock) (.slice Ao28 t207.length co28) t207) ∧ Aside0 (Kd.R (Kd.int .u8) 5 wc w.heap.size (fun k_ => some k_ ≠ ((.slice Ao23 t200.length co23) : Value).ownBlock ∧ some k_ ≠ ((.slice Ao24 t203.length co24) : Value).ownBlock ∧ some k_ ≠ ((.slice Ao28 t207.length co28) : Value).ownBlock ∧ some k_ ≠ ((.slice Ao41 t215.length co41) : Value).ownBlock ∧ some k_ ≠ ((.slice Ao42 t218.length co42) : Value).ownBlock) (.slice Ao32 t210.length co32) t210) ∧ Aside0 (Kd.R (Kd.int .u8) 5 wc w.heap.size (fun k_ => some k_ ≠ ((.slice Ao23 t200.length co23) : Value).ownBlock ∧ some k_ ≠ ((.slice Ao24 t203.length co24) : Value).ownBlock ∧ some k_ ≠ ((.slice Ao28 t207.length co28) : Value).ownBlock ∧ some k_ ≠ ((.slice Ao32 t210.length co32) : Value).ownBlock ∧ some k_ ≠ ((.slice Ao42 t218.length co42) : Value).ownBlock) (.slice Ao41 t215.length co41) t215) ∧ Aside0 (Kd.R (Kd.int .u8) 5 wc w.heap.size (fun k_ => some k_ ≠ ((.slice Ao23 t200.length co23) : Value).ownBlock ∧ some k_ ≠ ((.slice Ao24 t203.length co24) : Value).ownBlock ∧ some k_ ≠ ((.slice Ao28 t207.length co28) : Value).ownBlock ∧ some k_ ≠ ((.slice Ao32 t210.length co32) : Value).ownBlock ∧ some k_ ≠ ((.slice Ao41 t215.length co41) : Value).ownBlock) (.slice Ao42 t218.length co42) t218) ∧ Aside0 (wc.heap[gb191]? = some (.cells #[(.slice A0_0 l0_0.length c0_0), (.slice A0_1 l0_1.length c0_1)] 24 (0, 0))) ∧ Aside0 (wc.heap[gb206]? = some (.cells #[.int .i64 t199, (.slice Ao23 t200.length co23), (.slice Ao24 t203.length co24)] 46 (0, 0))) ∧ Aside0 (wc.heap[gb213]? = some (.cells #[(.slice Ao28 t207.length co28), (.slice Ao32 t210.length co32)] 27 (0, 0))) ∧ Aside0 (wc.heap[gb221]? = some (.cells #[.int .i64 t214, (.slice Ao41 t215.length co41), (.slice Ao42 t218.length co42)] 46 (0, 0))) ∧ Aside0 (Below w.heap.size w wc))
      case first =>
        have H := HC14.out
        clear HC14
        by_cases c45 : t222 = true
        · subst c45
          have H1 : (laws_FnExactCrashLog.j1 kj3 a1 l0_0 l0_1 t199 t200 t203 t207 t210 t214 t215 t218) = some r := by rw [if_pos rfl] at H; exact H
          clear H
          have H := H1
          clear H1
          have H' := Aside0.mk H
          clear H
          go_wp2
          go_meet
          case rel => exact ⟨_, H', ⟨by have := HJ3.out; first | omega | exact Nat.le_refl _⟩, ⟨by (with_reducible repeat (first | apply Kd.R_alloc | apply Kd.R_drewN | apply Kd.R_drew)); exact Kd.R_mono HO202.out (fun _ hk => ⟨hk.1.1.2.2.1, ⟨hk.1.1.2.2.2.1, ⟨hk.1.1.2.2.2.2, ⟨hk.1.2, hk.2⟩⟩⟩⟩)⟩, ⟨by (with_reducible repeat (first | apply Kd.R_alloc | apply Kd.R_drewN | apply Kd.R_drew)); exact Kd.R_mono HO205.out (fun _ hk => ⟨hk.1.1.2.2.1, ⟨hk.1.1.2.2.2.1, ⟨hk.1.1.2.2.2.2, ⟨hk.1.2, hk.2⟩⟩⟩⟩)⟩, ⟨by (with_reducible repeat (first | apply Kd.R_alloc | apply Kd.R_drewN | apply Kd.R_drew)); exact Kd.R_mono HO209.out (fun _ hk => ⟨hk.1.1.2.2.1, ⟨hk.1.1.2.2.2.1, ⟨hk.1.1.2.2.2.2, ⟨hk.1.2, hk.2⟩⟩⟩⟩)⟩, ⟨by (with_reducible repeat (first | apply Kd.R_alloc | apply Kd.R_drewN | apply Kd.R_drew)); exact Kd.R_mono HO212.out (fun _ hk => ⟨hk.1.1.2.2.1, ⟨hk.1.1.2.2.2.1, ⟨hk.1.1.2.2.2.2, ⟨hk.1.2, hk.2⟩⟩⟩⟩)⟩, ⟨by (with_reducible repeat (first | apply Kd.R_alloc | apply Kd.R_drewN | apply Kd.R_drew)); exact Kd.R_mono HO217.out (fun _ hk => ⟨hk.1.1.1.2, ⟨hk.1.1.2, ⟨hk.1.2, ⟨hk.2, hk.1.1.1.1.1.1⟩⟩⟩⟩)⟩, ⟨by (with_reducible repeat (first | apply Kd.R_alloc | apply Kd.R_drewN | apply Kd.R_drew)); exact Kd.R_mono HO220.out (fun _ hk => ⟨hk.1.1.1.2, ⟨hk.1.1.2, ⟨hk.1.2, ⟨hk.2, hk.1.1.1.1.1.1⟩⟩⟩⟩)⟩, ⟨by (with_reducible repeat (first | refine blk_drewN ?_ _ | refine blk_drew ?_ | refine blk_alloc ?_ _)); exact BK191.out⟩, ⟨by (with_reducible repeat (first | refine blk_drewN ?_ _ | refine blk_drew ?_ | refine blk_alloc ?_ _)); exact BK206.out⟩, ⟨by (with_reducible repeat (first | refine blk_drewN ?_ _ | refine blk_drew ?_ | refine blk_alloc ?_ _)); exact BK213.out⟩, ⟨by (with_reducible repeat (first | refine blk_drewN ?_ _ | refine blk_drew ?_ | refine blk_alloc ?_ _)); exact BK221.out⟩, ⟨by repeat (first | (with_reducible first | exact HB.out | apply below_alloc | apply pw_below_drewN | apply below_drew1 | refine below_set ?_ GE191.out | refine below_set ?_ GE206.out | refine below_set ?_ GE213.out | refine below_set ?_ GE221.out) | exact HB.out)⟩⟩
        · replace c45 := Bool.eq_false_iff.mpr c45
          subst c45
          have H1 : (some false) = some r := by rw [if_neg (show ¬ (false = true) by decide)] at H; exact H
          clear H
          have H := H1
          clear H1
          obtain rfl := Option.some.inj H
          go_wp2
          go_ret
          exact ⟨by first | rfl | (simp [errW_none, errW_some] <;> rfl) | (simp [*, errW_none, errW_some] <;> rfl), by repeat (first | (with_reducible first | exact HB.out | apply below_alloc | apply pw_below_drewN | apply below_drew1 | refine below_set ?_ GE191.out | refine below_set ?_ GE206.out | refine below_set ?_ GE213.out | refine below_set ?_ GE221.out) | exact HB.out)⟩
      case rest =>
        clear HC14
        try clear c1
        try clear c2
        try clear p2
        try clear c3
        try clear c4
        try clear c8
        try clear c8b0
        try clear c14
        try clear c16
        try clear c21
        try clear c29
        try clear c30
        try clear c33
        try clear c37
        try clear c38
        try clear c39
        try clear c41
        try clear c42
        try clear c45
        try clear hcz15_0
        try clear hcz15_1
        try clear hcz22_0
        try clear hcz22_1
        try clear hcz22_2
        try clear hcz25_0
        try clear hcz25_1
        try clear hcz31_0
        try clear hcz31_1
        try clear hcz34_0
        try clear hcz34_1
        try clear hcz40_0
        try clear hcz40_1
        try clear hcz40_2
        try clear hcz43_0
        try clear hcz43_1
        try clear hcz43_2
        try clear hcz6_0
        try clear hcz6_1
        try clear hfz15_0
        try clear hfz15_1
        try clear hfz22_0
        try clear hfz22_1
        try clear hfz22_2
        try clear hfz25_0
        try clear hfz25_1
        try clear hfz31_0
        try clear hfz31_1
        try clear hfz34_0
        try clear hfz34_1
        try clear hfz40_0
        try clear hfz40_1
        try clear hfz40_2
        try clear hfz43_0
        try clear hfz43_1
        try clear hfz43_2
        try clear hfz6_0
        try clear hfz6_1
        try clear p2
        obtain ⟨kq, HA, HJ13, HO_207001, HO_207002, HO_214000, HO_214001, HO_222001, HO_222002, BK191, BK206, BK213, BK221, HB⟩ := hcut
        cases kq with
        | zero => exact absurd HA.out (by simp [laws_FnExactCrashLog.j1])
        | succ kj13 =>
          have H := HA.out
          clear HA
          simp only [laws_FnExactCrashLog.j1] at H
          replace H := Option.bind_eq_some_iff.mp H
          obtain ⟨⟨t223, t226⟩, A460, H⟩ := H
          replace H : ((laws_eqLog.f kj13 t207 t210 t223 t226).bind fun t229 => (if t229 = true then (laws_FnExactCrashLog.j2 kj13 a1 l0_0 l0_1 t199 t200 t203 t207 t210 t214 t215 t218) else (some false))) = some r := H
          have A46 := Aside0.mk A460
          clear A460
          replace H := Option.bind_eq_some_iff.mp H
          obtain ⟨t229, A470, H⟩ := H
          replace H : (if t229 = true then (laws_FnExactCrashLog.j2 kj13 a1 l0_0 l0_1 t199 t200 t203 t207 t210 t214 t215 t218) else (some false)) = some r := H
          have A47 := Aside0.mk A470
          clear A470
          have HC48 := Aside0.mk H
          clear H
          try go_wp2
          have n0_ := Aside0.mk (Kd.R_drew HO_207001.out)
          have n1_ := Aside0.mk (Kd.R_drew HO_207002.out)
          have n2_ := Aside0.mk (Kd.R_drew HO_214000.out)
          have n3_ := Aside0.mk (Kd.R_drew HO_214001.out)
          have n4_ := Aside0.mk (Kd.R_drew HO_222001.out)
          have n5_ := Aside0.mk (Kd.R_drew HO_222002.out)
          have n6_ := Aside0.mk (blk_drew BK191.out)
          have n7_ := Aside0.mk (blk_drew BK206.out)
          have n8_ := Aside0.mk (blk_drew BK213.out)
          have n9_ := Aside0.mk (blk_drew BK221.out)
          have n10_ := Aside0.mk (below_drew1 HB.out)
          clear HO_207001
          clear HO_207002
          clear HO_214000
          clear HO_214001
          clear HO_222001
          clear HO_222002
          clear BK191
          clear BK206
          clear BK213
          clear BK221
          clear HB
          have HO_207001 := n0_
          have HO_207002 := n1_
          have HO_214000 := n2_
          have HO_214001 := n3_
          have HO_222001 := n4_
          have HO_222002 := n5_
          have BK191 := n6_
          have BK206 := n7_
          have BK213 := n8_
          have BK221 := n9_
          have HB := n10_
          clear n0_ n1_ n2_ n3_ n4_ n5_ n6_ n7_ n8_ n9_ n10_
          refine start_ (n := 5) (S := fun w' => w'.cell? ⟨gb213, 0, none⟩ = some (.slice Ao28 t207.length co28) ∧ w'.cell? ⟨gb213, 1, none⟩ = some (.slice Ao32 t210.length co32) ∧ w'.cell? ⟨gb191, 0, none⟩ = some (.slice A0_0 l0_0.length c0_0) ∧ w'.cell? ⟨gb191, 1, none⟩ = some (.slice A0_1 l0_1.length c0_1)) (ds := []) #[false, false, false, false, false] (by kernel_rfl) rfl rfl ⟨(blk_cell BK213.out 0).trans rfl, (blk_cell BK213.out 1).trans rfl, (blk_cell BK191.out 0).trans rfl, (blk_cell BK191.out 1).trans rfl⟩ (fun hHeld => ?_)
          generalize wc.drew = w49 at HO_207001 HO_207002 HO_214000 HO_214001 HO_222001 HO_222002 BK191 BK206 BK213 BK221 HB hHeld ⊢
          refine take_ (i := 0) (N := some 31) (v := ?_) (a' := ?_) #[true, false, false, false, false] rfl rfl (by kernel_rfl) (fun _ _ _ h => h) (Or.inl ⟨by rfl, ?_⟩) hHeld ?_ ?_
          rotate_left
          · rintro w' ⟨s0, s1, s2, s3⟩
            go_simp
            with_reducible rfl
          rotate_left
          · simp only [Act.put, List.setIfInBounds_toArray, List.set_cons_zero, List.set_cons_succ, i64_w, i32_w]
            rfl
          refine take_ (i := 1) (N := some 32) (v := ?_) (a' := ?_) #[true, true, false, false, false] rfl rfl (by kernel_rfl) (fun _ _ _ h => h) (Or.inl ⟨by rfl, ?_⟩) hHeld ?_ ?_
          rotate_left
          · rintro w' ⟨s0, s1, s2, s3⟩
            go_simp
            with_reducible rfl
          rotate_left
          · simp only [Act.put, List.setIfInBounds_toArray, List.set_cons_zero, List.set_cons_succ, i64_w, i32_w]
            rfl
          refine one_ (i := 2) (N := some 33) #[true, true, true, false, false] rfl rfl (by kernel_rfl) (by decide) (fun K hK => ?_)
          refine goes_ Try.func16 (by kernel_rfl) rfl #[.agg #[.slice A0_0 l0_0.length c0_0, .slice A0_1 l0_1.length c0_1]] (by rfl) rfl rfl (by (try simp only [List.map_toArray, List.map_cons, List.map_nil]); first | done | rfl | (simp only [List.length_drop, List.length_take]; rfl)) ?_
          with_reducible refine (laws_toLog.calls kj13 _ _ l0_0 _ _ l0_1 t223 t226 _ ?side1 ?side2 ?side3 ?side4 A46.out).mono ?_
          (case side1 => repeat (first | exact (Kd.C_below HR0_0.out HB.out) | (with_reducible refine Kd.C_alloc ?_ _) | (with_reducible refine Kd.C_drewN ?_ _) | (with_reducible refine Kd.C_drew ?_)))
          (case side2 => exact HC0_0.out)
          (case side3 => repeat (first | exact (Kd.C_below HR0_1.out HB.out) | (with_reducible refine Kd.C_alloc ?_ _) | (with_reducible refine Kd.C_drewN ?_ _) | (with_reducible refine Kd.C_drew ?_)))
          (case side4 => exact HC0_1.out)
          rintro e w50 ⟨v224, v227, rfl, ho0, ho1, hb⟩
          refine ⟨_, rfl, ?_⟩
          have n0_ := Aside0.mk (Kd.R_mono (Kd.R_told (Kd.R_told (Kd.R_old (by (with_reducible repeat (first | apply Kd.R_alloc | apply Kd.R_drewN | apply Kd.R_drew)); exact HO_207001.out) hb) (Kd.R_base ho0)) (Kd.R_base ho1)) (fun _ h_ => h_.1))
          have n1_ := Aside0.mk (Kd.R_mono (Kd.R_told (Kd.R_told (Kd.R_old (by (with_reducible repeat (first | apply Kd.R_alloc | apply Kd.R_drewN | apply Kd.R_drew)); exact HO_207002.out) hb) (Kd.R_base ho0)) (Kd.R_base ho1)) (fun _ h_ => h_.1))
          have n2_ := Aside0.mk (Kd.R_mono (Kd.R_told (Kd.R_told (Kd.R_old (by (with_reducible repeat (first | apply Kd.R_alloc | apply Kd.R_drewN | apply Kd.R_drew)); exact HO_214000.out) hb) (Kd.R_base ho0)) (Kd.R_base ho1)) (fun _ h_ => h_.1))
          have n3_ := Aside0.mk (Kd.R_mono (Kd.R_told (Kd.R_told (Kd.R_old (by (with_reducible repeat (first | apply Kd.R_alloc | apply Kd.R_drewN | apply Kd.R_drew)); exact HO_214001.out) hb) (Kd.R_base ho0)) (Kd.R_base ho1)) (fun _ h_ => h_.1))
          have n4_ := Aside0.mk (Kd.R_mono (Kd.R_told (Kd.R_told (Kd.R_old (by (with_reducible repeat (first | apply Kd.R_alloc | apply Kd.R_drewN | apply Kd.R_drew)); exact HO_222001.out) hb) (Kd.R_base ho0)) (Kd.R_base ho1)) (fun _ h_ => h_.1))
          have n5_ := Aside0.mk (Kd.R_mono (Kd.R_told (Kd.R_told (Kd.R_old (by (with_reducible repeat (first | apply Kd.R_alloc | apply Kd.R_drewN | apply Kd.R_drew)); exact HO_222002.out) hb) (Kd.R_base ho0)) (Kd.R_base ho1)) (fun _ h_ => h_.1))
          have n6_ := Aside0.mk (Kd.R_lower (Kd.R_new' (Kd.R_new' (Kd.R_new' (Kd.R_new' (Kd.R_new' (Kd.R_new' ho0 (Kd.R_lt (by (with_reducible repeat (first | apply Kd.R_alloc | apply Kd.R_drewN | apply Kd.R_drew)); exact HO_207001.out))) (Kd.R_lt (by (with_reducible repeat (first | apply Kd.R_alloc | apply Kd.R_drewN | apply Kd.R_drew)); exact HO_207002.out))) (Kd.R_lt (by (with_reducible repeat (first | apply Kd.R_alloc | apply Kd.R_drewN | apply Kd.R_drew)); exact HO_214000.out))) (Kd.R_lt (by (with_reducible repeat (first | apply Kd.R_alloc | apply Kd.R_drewN | apply Kd.R_drew)); exact HO_214001.out))) (Kd.R_lt (by (with_reducible repeat (first | apply Kd.R_alloc | apply Kd.R_drewN | apply Kd.R_drew)); exact HO_222001.out))) (Kd.R_lt (by (with_reducible repeat (first | apply Kd.R_alloc | apply Kd.R_drewN | apply Kd.R_drew)); exact HO_222002.out))) (below_size (by repeat (first | (with_reducible first | exact HB.out | apply below_alloc | apply pw_below_drewN | apply below_drew1 | refine below_set ?_ GE191.out | refine below_set ?_ GE206.out | refine below_set ?_ GE213.out | refine below_set ?_ GE221.out) | exact HB.out))))
          have n7_ := Aside0.mk (Kd.R_lower (Kd.R_new' (Kd.R_new' (Kd.R_new' (Kd.R_new' (Kd.R_new' (Kd.R_new' ho1 (Kd.R_lt (by (with_reducible repeat (first | apply Kd.R_alloc | apply Kd.R_drewN | apply Kd.R_drew)); exact HO_207001.out))) (Kd.R_lt (by (with_reducible repeat (first | apply Kd.R_alloc | apply Kd.R_drewN | apply Kd.R_drew)); exact HO_207002.out))) (Kd.R_lt (by (with_reducible repeat (first | apply Kd.R_alloc | apply Kd.R_drewN | apply Kd.R_drew)); exact HO_214000.out))) (Kd.R_lt (by (with_reducible repeat (first | apply Kd.R_alloc | apply Kd.R_drewN | apply Kd.R_drew)); exact HO_214001.out))) (Kd.R_lt (by (with_reducible repeat (first | apply Kd.R_alloc | apply Kd.R_drewN | apply Kd.R_drew)); exact HO_222001.out))) (Kd.R_lt (by (with_reducible repeat (first | apply Kd.R_alloc | apply Kd.R_drewN | apply Kd.R_drew)); exact HO_222002.out))) (below_size (by repeat (first | (with_reducible first | exact HB.out | apply below_alloc | apply pw_below_drewN | apply below_drew1 | refine below_set ?_ GE191.out | refine below_set ?_ GE206.out | refine below_set ?_ GE213.out | refine below_set ?_ GE221.out) | exact HB.out))))
          have n8_ := Aside0.mk (blk_below (g := gb191) (o := .cells #[.slice A0_0 l0_0.length c0_0, .slice A0_1 l0_1.length c0_1] 24 (0, 0)) (by (with_reducible repeat (first | refine blk_drewN ?_ _ | refine blk_drew ?_ | refine blk_alloc ?_ _)); exact BK191.out) hb)
          have n9_ := Aside0.mk (blk_below (g := gb206) (o := .cells #[.int .i64 t199, .slice Ao23 t200.length co23, .slice Ao24 t203.length co24] 46 (0, 0)) (by (with_reducible repeat (first | refine blk_drewN ?_ _ | refine blk_drew ?_ | refine blk_alloc ?_ _)); exact BK206.out) hb)
          have n10_ := Aside0.mk (blk_below (g := gb213) (o := .cells #[.slice Ao28 t207.length co28, .slice Ao32 t210.length co32] 27 (0, 0)) (by (with_reducible repeat (first | refine blk_drewN ?_ _ | refine blk_drew ?_ | refine blk_alloc ?_ _)); exact BK213.out) hb)
          have n11_ := Aside0.mk (blk_below (g := gb221) (o := .cells #[.int .i64 t214, .slice Ao41 t215.length co41, .slice Ao42 t218.length co42] 46 (0, 0)) (by (with_reducible repeat (first | refine blk_drewN ?_ _ | refine blk_drew ?_ | refine blk_alloc ?_ _)); exact BK221.out) hb)
          have n12_ := Aside0.mk (below_step (by repeat (first | (with_reducible first | exact HB.out | apply below_alloc | apply pw_below_drewN | apply below_drew1 | refine below_set ?_ GE191.out | refine below_set ?_ GE206.out | refine below_set ?_ GE213.out | refine below_set ?_ GE221.out) | exact HB.out)) hb)
          clear HO_207001
          clear HO_207002
          clear HO_214000
          clear HO_214001
          clear HO_222001
          clear HO_222002
          clear BK191
          clear BK206
          clear BK213
          clear BK221
          clear HB
          have HO_207001 := n0_
          have HO_207002 := n1_
          have HO_214000 := n2_
          have HO_214001 := n3_
          have HO_222001 := n4_
          have HO_222002 := n5_
          have HO225 := n6_
          have HO228 := n7_
          have BK191 := n8_
          have BK206 := n9_
          have BK213 := n10_
          have BK221 := n11_
          have HB := n12_
          clear n0_ n1_ n2_ n3_ n4_ n5_ n6_ n7_ n8_ n9_ n10_ n11_ n12_
          (try clear hb)
          (try clear hb2)
          (try clear hk)
          (try clear hi)
          (try clear ho0)
          (try clear ho1)
          obtain ⟨Ao51, co51, eo51⟩ := Kd.R_slice HO225.out
          (first | subst eo51 | (injection eo51 with f1_ f2_ f3_; have f4_ := f1_.symm; have f5_ := f3_.symm; clear f1_ f2_ f3_; subst f4_; subst f5_))
          obtain ⟨Ao52, co52, eo52⟩ := Kd.R_slice HO228.out
          (first | subst eo52 | (injection eo52 with f1_ f2_ f3_; have f4_ := f1_.symm; have f5_ := f3_.symm; clear f1_ f2_ f3_; subst f4_; subst f5_))
          refine hK.out _ _ ⟨(blk_cell BK213.out 0).trans rfl, (blk_cell BK213.out 1).trans rfl, (blk_cell BK191.out 0).trans rfl, (blk_cell BK191.out 1).trans rfl⟩ (fun hHeld => ?_)
          clear hK K
          refine norm_ (a' := ?_) ?_ ?_
          rotate_left
          · show Act.put _ (some 33) _ = _
            simp only [Act.put, List.setIfInBounds_toArray, List.set_cons_zero, List.set_cons_succ, i64_w, i32_w]
            rfl
          refine one_ (i := 3) (N := some 34) #[true, true, true, true, false] rfl rfl (by kernel_rfl) (by decide) (fun K hK => ?_)
          refine goes_ Try.func18 (by kernel_rfl) rfl #[.agg #[.slice Ao28 t207.length co28, .slice Ao32 t210.length co32], .agg #[.slice Ao51 t223.length co51, .slice Ao52 t226.length co52]] (by rfl) rfl rfl (by (try simp only [List.map_toArray, List.map_cons, List.map_nil]); first | done | rfl | (simp only [List.length_drop, List.length_take]; rfl)) ?_
          with_reducible refine (laws_eqLog.calls kj13 _ _ t207 _ _ t210 _ _ t223 _ _ t226 t229 _ ?side1 ?side2 ?side3 ?side4 ?side5 ?side6 ?side7 ?side8 A47.out).mono ?_
          (case side1 => repeat (first | exact (Kd.R_reads' HO_214000.out).2.2 | (with_reducible refine Kd.C_alloc ?_ _) | (with_reducible refine Kd.C_drewN ?_ _) | (with_reducible refine Kd.C_drew ?_)))
          (case side2 => exact (Kd.R_reads' HO_214000.out).2.1)
          (case side3 => repeat (first | exact (Kd.R_reads' HO_214001.out).2.2 | (with_reducible refine Kd.C_alloc ?_ _) | (with_reducible refine Kd.C_drewN ?_ _) | (with_reducible refine Kd.C_drew ?_)))
          (case side4 => exact (Kd.R_reads' HO_214001.out).2.1)
          (case side5 => repeat (first | exact (Kd.R_reads' HO225.out).2.2 | (with_reducible refine Kd.C_alloc ?_ _) | (with_reducible refine Kd.C_drewN ?_ _) | (with_reducible refine Kd.C_drew ?_)))
          (case side6 => exact (Kd.R_reads' HO225.out).2.1)
          (case side7 => repeat (first | exact (Kd.R_reads' HO228.out).2.2 | (with_reducible refine Kd.C_alloc ?_ _) | (with_reducible refine Kd.C_drewN ?_ _) | (with_reducible refine Kd.C_drew ?_)))
          (case side8 => exact (Kd.R_reads' HO228.out).2.1)
          rintro e w53 ⟨rfl, hb⟩
          refine ⟨_, rfl, ?_⟩
          have n0_ := Aside0.mk (Kd.R_below (by (with_reducible repeat (first | apply Kd.R_alloc | apply Kd.R_drewN | apply Kd.R_drew)); exact HO_207001.out) hb)
          have n1_ := Aside0.mk (Kd.R_below (by (with_reducible repeat (first | apply Kd.R_alloc | apply Kd.R_drewN | apply Kd.R_drew)); exact HO_207002.out) hb)
          have n2_ := Aside0.mk (Kd.R_below (by (with_reducible repeat (first | apply Kd.R_alloc | apply Kd.R_drewN | apply Kd.R_drew)); exact HO_214000.out) hb)
          have n3_ := Aside0.mk (Kd.R_below (by (with_reducible repeat (first | apply Kd.R_alloc | apply Kd.R_drewN | apply Kd.R_drew)); exact HO_214001.out) hb)
          have n4_ := Aside0.mk (Kd.R_below (by (with_reducible repeat (first | apply Kd.R_alloc | apply Kd.R_drewN | apply Kd.R_drew)); exact HO_222001.out) hb)
          have n5_ := Aside0.mk (Kd.R_below (by (with_reducible repeat (first | apply Kd.R_alloc | apply Kd.R_drewN | apply Kd.R_drew)); exact HO_222002.out) hb)
          have n6_ := Aside0.mk (Kd.R_below (by (with_reducible repeat (first | apply Kd.R_alloc | apply Kd.R_drewN | apply Kd.R_drew)); exact HO225.out) hb)
          have n7_ := Aside0.mk (Kd.R_below (by (with_reducible repeat (first | apply Kd.R_alloc | apply Kd.R_drewN | apply Kd.R_drew)); exact HO228.out) hb)
          have n8_ := Aside0.mk (blk_below (g := gb191) (o := .cells #[.slice A0_0 l0_0.length c0_0, .slice A0_1 l0_1.length c0_1] 24 (0, 0)) (by (with_reducible repeat (first | refine blk_drewN ?_ _ | refine blk_drew ?_ | refine blk_alloc ?_ _)); exact BK191.out) hb)
          have n9_ := Aside0.mk (blk_below (g := gb206) (o := .cells #[.int .i64 t199, .slice Ao23 t200.length co23, .slice Ao24 t203.length co24] 46 (0, 0)) (by (with_reducible repeat (first | refine blk_drewN ?_ _ | refine blk_drew ?_ | refine blk_alloc ?_ _)); exact BK206.out) hb)
          have n10_ := Aside0.mk (blk_below (g := gb213) (o := .cells #[.slice Ao28 t207.length co28, .slice Ao32 t210.length co32] 27 (0, 0)) (by (with_reducible repeat (first | refine blk_drewN ?_ _ | refine blk_drew ?_ | refine blk_alloc ?_ _)); exact BK213.out) hb)
          have n11_ := Aside0.mk (blk_below (g := gb221) (o := .cells #[.int .i64 t214, .slice Ao41 t215.length co41, .slice Ao42 t218.length co42] 46 (0, 0)) (by (with_reducible repeat (first | refine blk_drewN ?_ _ | refine blk_drew ?_ | refine blk_alloc ?_ _)); exact BK221.out) hb)
          have n12_ := Aside0.mk (below_step (by repeat (first | (with_reducible first | exact HB.out | apply below_alloc | apply pw_below_drewN | apply below_drew1 | refine below_set ?_ GE191.out | refine below_set ?_ GE206.out | refine below_set ?_ GE213.out | refine below_set ?_ GE221.out) | exact HB.out)) hb)
          clear HO_207001
          clear HO_207002
          clear HO_214000
          clear HO_214001
          clear HO_222001
          clear HO_222002
          clear HO225
          clear HO228
          clear BK191
          clear BK206
          clear BK213
          clear BK221
          clear HB
          have HO_207001 := n0_
          have HO_207002 := n1_
          have HO_214000 := n2_
          have HO_214001 := n3_
          have HO_222001 := n4_
          have HO_222002 := n5_
          have HO225 := n6_
          have HO228 := n7_
          have BK191 := n8_
          have BK206 := n9_
          have BK213 := n10_
          have BK221 := n11_
          have HB := n12_
          clear n0_ n1_ n2_ n3_ n4_ n5_ n6_ n7_ n8_ n9_ n10_ n11_ n12_
          (try clear hb)
          (try clear hb2)
          (try clear hk)
          (try clear hi)
          refine hK.out _ _ ⟨(blk_cell BK213.out 0).trans rfl, (blk_cell BK213.out 1).trans rfl, (blk_cell BK191.out 0).trans rfl, (blk_cell BK191.out 1).trans rfl⟩ (fun hHeld => ?_)
          clear hK K
          refine norm_ (a' := ?_) ?_ ?_
          rotate_left
          · show Act.put _ (some 34) _ = _
            simp only [Act.put, List.setIfInBounds_toArray, List.set_cons_zero, List.set_cons_succ, i64_w, i32_w]
            rfl
          refine pure_ (i := 4) (N := some 35) (v := ?_) (a' := ?_) #[true, true, true, true, true] rfl rfl (by kernel_rfl) (fun _ _ _ h => h) (Or.inl ⟨by rfl, ?_⟩) ?_ ?_
          rotate_left
          · intro w'
            go_simp
            with_reducible rfl
          rotate_left
          · simp only [Act.put, List.setIfInBounds_toArray, List.set_cons_zero, List.set_cons_succ, i64_w, i32_w]
            rfl
          refine done_ (by kernel_rfl) ?_
          go_upto_if 35 with (fail)
          go_cut [] (fun wc => ∃ (kq : Nat), Aside0 (laws_FnExactCrashLog.j2 kq a1 l0_0 l0_1 t199 t200 t203 t207 t210 t214 t215 t218 = some r) ∧ Aside0 (kq ≤ kj13) ∧ Aside0 (Kd.R (Kd.int .u8) 5 wc w.heap.size (fun k_ => some k_ ≠ ((.slice Ao24 t203.length co24) : Value).ownBlock ∧ some k_ ≠ ((.slice Ao28 t207.length co28) : Value).ownBlock ∧ some k_ ≠ ((.slice Ao32 t210.length co32) : Value).ownBlock ∧ some k_ ≠ ((.slice Ao41 t215.length co41) : Value).ownBlock ∧ some k_ ≠ ((.slice Ao42 t218.length co42) : Value).ownBlock) (.slice Ao23 t200.length co23) t200) ∧ Aside0 (Kd.R (Kd.int .u8) 5 wc w.heap.size (fun k_ => some k_ ≠ ((.slice Ao23 t200.length co23) : Value).ownBlock ∧ some k_ ≠ ((.slice Ao28 t207.length co28) : Value).ownBlock ∧ some k_ ≠ ((.slice Ao32 t210.length co32) : Value).ownBlock ∧ some k_ ≠ ((.slice Ao41 t215.length co41) : Value).ownBlock ∧ some k_ ≠ ((.slice Ao42 t218.length co42) : Value).ownBlock) (.slice Ao24 t203.length co24) t203) ∧ Aside0 (Kd.R (Kd.int .u8) 5 wc w.heap.size (fun k_ => some k_ ≠ ((.slice Ao23 t200.length co23) : Value).ownBlock ∧ some k_ ≠ ((.slice Ao24 t203.length co24) : Value).ownBlock ∧ some k_ ≠ ((.slice Ao32 t210.length co32) : Value).ownBlock ∧ some k_ ≠ ((.slice Ao41 t215.length co41) : Value).ownBlock ∧ some k_ ≠ ((.slice Ao42 t218.length co42) : Value).ownBlock) (.slice Ao28 t207.length co28) t207) ∧ Aside0 (Kd.R (Kd.int .u8) 5 wc w.heap.size (fun k_ => some k_ ≠ ((.slice Ao23 t200.length co23) : Value).ownBlock ∧ some k_ ≠ ((.slice Ao24 t203.length co24) : Value).ownBlock ∧ some k_ ≠ ((.slice Ao28 t207.length co28) : Value).ownBlock ∧ some k_ ≠ ((.slice Ao41 t215.length co41) : Value).ownBlock ∧ some k_ ≠ ((.slice Ao42 t218.length co42) : Value).ownBlock) (.slice Ao32 t210.length co32) t210) ∧ Aside0 (Kd.R (Kd.int .u8) 5 wc w.heap.size (fun k_ => some k_ ≠ ((.slice Ao23 t200.length co23) : Value).ownBlock ∧ some k_ ≠ ((.slice Ao24 t203.length co24) : Value).ownBlock ∧ some k_ ≠ ((.slice Ao28 t207.length co28) : Value).ownBlock ∧ some k_ ≠ ((.slice Ao32 t210.length co32) : Value).ownBlock ∧ some k_ ≠ ((.slice Ao42 t218.length co42) : Value).ownBlock) (.slice Ao41 t215.length co41) t215) ∧ Aside0 (Kd.R (Kd.int .u8) 5 wc w.heap.size (fun k_ => some k_ ≠ ((.slice Ao23 t200.length co23) : Value).ownBlock ∧ some k_ ≠ ((.slice Ao24 t203.length co24) : Value).ownBlock ∧ some k_ ≠ ((.slice Ao28 t207.length co28) : Value).ownBlock ∧ some k_ ≠ ((.slice Ao32 t210.length co32) : Value).ownBlock ∧ some k_ ≠ ((.slice Ao41 t215.length co41) : Value).ownBlock) (.slice Ao42 t218.length co42) t218) ∧ Aside0 (wc.heap[gb191]? = some (.cells #[(.slice A0_0 l0_0.length c0_0), (.slice A0_1 l0_1.length c0_1)] 24 (0, 0))) ∧ Aside0 (wc.heap[gb206]? = some (.cells #[.int .i64 t199, (.slice Ao23 t200.length co23), (.slice Ao24 t203.length co24)] 46 (0, 0))) ∧ Aside0 (wc.heap[gb213]? = some (.cells #[(.slice Ao28 t207.length co28), (.slice Ao32 t210.length co32)] 27 (0, 0))) ∧ Aside0 (wc.heap[gb221]? = some (.cells #[.int .i64 t214, (.slice Ao41 t215.length co41), (.slice Ao42 t218.length co42)] 46 (0, 0))) ∧ Aside0 (Below w.heap.size w wc))
          case first =>
            have H := HC48.out
            clear HC48
            by_cases c54 : t229 = true
            · subst c54
              have H1 : (laws_FnExactCrashLog.j2 kj13 a1 l0_0 l0_1 t199 t200 t203 t207 t210 t214 t215 t218) = some r := by rw [if_pos rfl] at H; exact H
              clear H
              have H := H1
              clear H1
              have H' := Aside0.mk H
              clear H
              go_wp2
              go_meet
              case rel => exact ⟨_, H', ⟨by have := HJ3.out; have := HJ13.out; first | omega | exact Nat.le_refl _⟩, ⟨by (with_reducible repeat (first | apply Kd.R_alloc | apply Kd.R_drewN | apply Kd.R_drew)); exact Kd.R_mono HO_207001.out (fun _ hk => ⟨hk.1.1.1, ⟨hk.1.1.2.1, ⟨hk.1.1.2.2.1, ⟨hk.1.1.2.2.2.1, hk.1.1.2.2.2.2⟩⟩⟩⟩)⟩, ⟨by (with_reducible repeat (first | apply Kd.R_alloc | apply Kd.R_drewN | apply Kd.R_drew)); exact Kd.R_mono HO_207002.out (fun _ hk => ⟨hk.1.1.1, ⟨hk.1.1.2.1, ⟨hk.1.1.2.2.1, ⟨hk.1.1.2.2.2.1, hk.1.1.2.2.2.2⟩⟩⟩⟩)⟩, ⟨by (with_reducible repeat (first | apply Kd.R_alloc | apply Kd.R_drewN | apply Kd.R_drew)); exact Kd.R_mono HO_214000.out (fun _ hk => ⟨hk.1.1.1, ⟨hk.1.1.2.1, ⟨hk.1.1.2.2.1, ⟨hk.1.1.2.2.2.1, hk.1.1.2.2.2.2⟩⟩⟩⟩)⟩, ⟨by (with_reducible repeat (first | apply Kd.R_alloc | apply Kd.R_drewN | apply Kd.R_drew)); exact Kd.R_mono HO_214001.out (fun _ hk => ⟨hk.1.1.1, ⟨hk.1.1.2.1, ⟨hk.1.1.2.2.1, ⟨hk.1.1.2.2.2.1, hk.1.1.2.2.2.2⟩⟩⟩⟩)⟩, ⟨by (with_reducible repeat (first | apply Kd.R_alloc | apply Kd.R_drewN | apply Kd.R_drew)); exact Kd.R_mono HO_222001.out (fun _ hk => ⟨hk.1.1.1, ⟨hk.1.1.2.1, ⟨hk.1.1.2.2.1, ⟨hk.1.1.2.2.2.1, hk.1.1.2.2.2.2⟩⟩⟩⟩)⟩, ⟨by (with_reducible repeat (first | apply Kd.R_alloc | apply Kd.R_drewN | apply Kd.R_drew)); exact Kd.R_mono HO_222002.out (fun _ hk => ⟨hk.1.1.1, ⟨hk.1.1.2.1, ⟨hk.1.1.2.2.1, ⟨hk.1.1.2.2.2.1, hk.1.1.2.2.2.2⟩⟩⟩⟩)⟩, ⟨by (with_reducible repeat (first | refine blk_drewN ?_ _ | refine blk_drew ?_ | refine blk_alloc ?_ _)); exact BK191.out⟩, ⟨by (with_reducible repeat (first | refine blk_drewN ?_ _ | refine blk_drew ?_ | refine blk_alloc ?_ _)); exact BK206.out⟩, ⟨by (with_reducible repeat (first | refine blk_drewN ?_ _ | refine blk_drew ?_ | refine blk_alloc ?_ _)); exact BK213.out⟩, ⟨by (with_reducible repeat (first | refine blk_drewN ?_ _ | refine blk_drew ?_ | refine blk_alloc ?_ _)); exact BK221.out⟩, ⟨by repeat (first | (with_reducible first | exact HB.out | apply below_alloc | apply pw_below_drewN | apply below_drew1 | refine below_set ?_ GE191.out | refine below_set ?_ GE206.out | refine below_set ?_ GE213.out | refine below_set ?_ GE221.out) | exact HB.out)⟩⟩
            · replace c54 := Bool.eq_false_iff.mpr c54
              subst c54
              have H1 : (some false) = some r := by rw [if_neg (show ¬ (false = true) by decide)] at H; exact H
              clear H
              have H := H1
              clear H1
              obtain rfl := Option.some.inj H
              go_wp2
              go_ret
              exact ⟨by first | rfl | (simp [errW_none, errW_some] <;> rfl) | (simp [*, errW_none, errW_some] <;> rfl), by repeat (first | (with_reducible first | exact HB.out | apply below_alloc | apply pw_below_drewN | apply below_drew1 | refine below_set ?_ GE191.out | refine below_set ?_ GE206.out | refine below_set ?_ GE213.out | refine below_set ?_ GE221.out) | exact HB.out)⟩
          case rest =>
            clear HC48
            try clear c1
            try clear c2
            try clear p2
            try clear c3
            try clear c4
            try clear c5
            try clear c8
            try clear c8b0
            try clear c14
            try clear c16
            try clear c18
            try clear c21
            try clear c29
            try clear c30
            try clear c33
            try clear c37
            try clear c38
            try clear c39
            try clear c41
            try clear c42
            try clear c45
            try clear c54
            try clear hcz15_0
            try clear hcz15_1
            try clear hcz22_0
            try clear hcz22_1
            try clear hcz22_2
            try clear hcz25_0
            try clear hcz25_1
            try clear hcz31_0
            try clear hcz31_1
            try clear hcz34_0
            try clear hcz34_1
            try clear hcz40_0
            try clear hcz40_1
            try clear hcz40_2
            try clear hcz43_0
            try clear hcz43_1
            try clear hcz43_2
            try clear hcz6_0
            try clear hcz6_1
            try clear hfz15_0
            try clear hfz15_1
            try clear hfz22_0
            try clear hfz22_1
            try clear hfz22_2
            try clear hfz25_0
            try clear hfz25_1
            try clear hfz31_0
            try clear hfz31_1
            try clear hfz34_0
            try clear hfz34_1
            try clear hfz40_0
            try clear hfz40_1
            try clear hfz40_2
            try clear hfz43_0
            try clear hfz43_1
            try clear hfz43_2
            try clear hfz6_0
            try clear hfz6_1
            try clear p2
            obtain ⟨kq, HA, HJ47, HO_207001, HO_207002, HO_214000, HO_214001, HO_222001, HO_222002, BK191, BK206, BK213, BK221, HB⟩ := hcut
            cases kq with
            | zero => exact absurd HA.out (by simp [laws_FnExactCrashLog.j2])
            | succ kj47 =>
              have H := HA.out
              clear HA
              simp only [laws_FnExactCrashLog.j2] at H
              replace H := Option.bind_eq_some_iff.mp H
              obtain ⟨⟨t230, t231, t232⟩, A550, H⟩ := H
              replace H : (if t230 < 0 then (laws_FnExactCrashLog.j3 kj47 a1 true l0_0 l0_1 t199 t200 t203 t214 t215 t218) else ((laws_eqLogResult.f kj47 t214 t215 t218 t199 t200 t203).bind fun t233 => (laws_FnExactCrashLog.j3 kj47 a1 (!t233) l0_0 l0_1 t199 t200 t203 t214 t215 t218))) = some r := H
              have A55 := Aside0.mk A550
              clear A550
              have HC56 := Aside0.mk H
              clear H
              have hnb57 := NB213_191.out
              have hnc57 := NB191_213.out
              have hnb58 := NB213_206.out
              have hnc58 := NB206_213.out
              have hnb59 := NB213_221.out
              have hnc59 := NB221_213.out
              have hcz60_0 : wc.cell? ⟨gb213, 0, none⟩ = some (.slice Ao28 t207.length co28) := (blk_cell BK213.out 0).trans rfl
              have hcz60_1 : wc.cell? ⟨gb213, 1, none⟩ = some (.slice Ao32 t210.length co32) := (blk_cell BK213.out 1).trans rfl
              have hfz60_0 := blk_frozen BK213.out 0
              have hfz60_1 := blk_frozen BK213.out 1
              go_upto_region 14 with (first | ((with_reducible refine gate_callee (f := 34) rfl ?_); refine goesL_ (some 38) rfl rfl Try.func34 (by kernel_rfl) rfl #[.agg #[.slice Ao28 t207.length co28, .slice Ao32 t210.length co32], .int .i64 1] rfl (by (try simp only [List.map_toArray, List.map_cons, List.map_nil]); first | done | rfl | (simp only [List.length_drop, List.length_take]; rfl)) ?_; (with_reducible refine (laws_markLog.calls kj47 (fun k_ => some k_ = (.slice Ao28 t207.length co28 : Value).ownBlock) (.slice Ao28 t207.length co28) t207 (fun k_ => some k_ = (.slice Ao32 t210.length co32 : Value).ownBlock) (.slice Ao32 t210.length co32) t210 1 t230 t231 t232 w _ ?side1 ?side2 ?side3 ?side4 ?side5 A55.out).mono ?_); (case side1 => repeat (first | (with_reducible first | exact HB.out | apply below_alloc | apply pw_below_drewN | apply below_drew1 | refine below_set ?_ GE191.out | refine below_set ?_ GE206.out | refine below_set ?_ GE213.out | refine below_set ?_ GE221.out) | exact HB.out)); (case side2 => exact Kd.R_tight rfl HO_214000.out); (case side3 => exact fun k_ e_ => (HO_214000.out.1 k_ e_.symm).2.2.1); (case side4 => exact Kd.R_tight rfl HO_214001.out); (case side5 => exact fun k_ e_ => (HO_214001.out.1 k_ e_.symm).2.2.1); rintro e w61 ⟨rfl, hy0, hy1, hb, hkp⟩; refine ⟨_, rfl, ?_⟩; have n0_ := Aside0.mk (Kd.R_mono (ok' := fun k_ => some k_ ≠ (.slice Ao24 t203.length co24 : Value).ownBlock ∧ some k_ ≠ (.slice Ao28 t207.length co28 : Value).ownBlock ∧ some k_ ≠ (.slice Ao32 t210.length co32 : Value).ownBlock ∧ some k_ ≠ (.slice Ao41 t215.length co41 : Value).ownBlock ∧ some k_ ≠ (.slice Ao42 t218.length co42 : Value).ownBlock) (Kd.R_keptB (HO_207001.out) hkp (fun k_ hk_ hs_ => Or.elim hs_ (fun e_ => (hk_.2.1) e_) (fun e_ => (hk_.2.2.1) e_))) (fun k_ hk_ => ⟨hk_.1.1, hk_.1.2.1, hk_.1.2.2.1, hk_.1.2.2.2.1, hk_.1.2.2.2.2⟩)); have n1_ := Aside0.mk (Kd.R_mono (ok' := fun k_ => some k_ ≠ (.slice Ao23 t200.length co23 : Value).ownBlock ∧ some k_ ≠ (.slice Ao28 t207.length co28 : Value).ownBlock ∧ some k_ ≠ (.slice Ao32 t210.length co32 : Value).ownBlock ∧ some k_ ≠ (.slice Ao41 t215.length co41 : Value).ownBlock ∧ some k_ ≠ (.slice Ao42 t218.length co42 : Value).ownBlock) (Kd.R_keptB (HO_207002.out) hkp (fun k_ hk_ hs_ => Or.elim hs_ (fun e_ => (hk_.2.1) e_) (fun e_ => (hk_.2.2.1) e_))) (fun k_ hk_ => ⟨hk_.1.1, hk_.1.2.1, hk_.1.2.2.1, hk_.1.2.2.2.1, hk_.1.2.2.2.2⟩)); have n2_ := Aside0.mk (Kd.R_reok rfl hy0 (fun k_ e_ => HO_214000.out.1 k_ e_)); have n3_ := Aside0.mk (Kd.R_reok rfl hy1 (fun k_ e_ => HO_214001.out.1 k_ e_)); have n4_ := Aside0.mk (Kd.R_mono (ok' := fun k_ => some k_ ≠ (.slice Ao23 t200.length co23 : Value).ownBlock ∧ some k_ ≠ (.slice Ao24 t203.length co24 : Value).ownBlock ∧ some k_ ≠ (.slice Ao28 t207.length co28 : Value).ownBlock ∧ some k_ ≠ (.slice Ao32 t210.length co32 : Value).ownBlock ∧ some k_ ≠ (.slice Ao42 t218.length co42 : Value).ownBlock) (Kd.R_keptB (HO_222001.out) hkp (fun k_ hk_ hs_ => Or.elim hs_ (fun e_ => (hk_.2.2.1) e_) (fun e_ => (hk_.2.2.2.1) e_))) (fun k_ hk_ => ⟨hk_.1.1, hk_.1.2.1, hk_.1.2.2.1, hk_.1.2.2.2.1, hk_.1.2.2.2.2⟩)); have n5_ := Aside0.mk (Kd.R_mono (ok' := fun k_ => some k_ ≠ (.slice Ao23 t200.length co23 : Value).ownBlock ∧ some k_ ≠ (.slice Ao24 t203.length co24 : Value).ownBlock ∧ some k_ ≠ (.slice Ao28 t207.length co28 : Value).ownBlock ∧ some k_ ≠ (.slice Ao32 t210.length co32 : Value).ownBlock ∧ some k_ ≠ (.slice Ao41 t215.length co41 : Value).ownBlock) (Kd.R_keptB (HO_222002.out) hkp (fun k_ hk_ hs_ => Or.elim hs_ (fun e_ => (hk_.2.2.1) e_) (fun e_ => (hk_.2.2.2.1) e_))) (fun k_ hk_ => ⟨hk_.1.1, hk_.1.2.1, hk_.1.2.2.1, hk_.1.2.2.2.1, hk_.1.2.2.2.2⟩)); have n6_ := Aside0.mk (blk_kept (by (with_reducible repeat (first | refine blk_drewN ?_ _ | refine blk_drew ?_ | refine blk_alloc ?_ _)); exact BK191.out) hkp (fun hs_ => Or.elim hs_ (fun e_ => (fun e_ => (Kd.R_ne HO_214000.out BK191.out (by decide)) e_) e_) (fun e_ => (fun e_ => (Kd.R_ne HO_214001.out BK191.out (by decide)) e_) e_))); have n7_ := Aside0.mk (blk_kept (by (with_reducible repeat (first | refine blk_drewN ?_ _ | refine blk_drew ?_ | refine blk_alloc ?_ _)); exact BK206.out) hkp (fun hs_ => Or.elim hs_ (fun e_ => (fun e_ => (Kd.R_ne HO_214000.out BK206.out (by decide)) e_) e_) (fun e_ => (fun e_ => (Kd.R_ne HO_214001.out BK206.out (by decide)) e_) e_))); have n8_ := Aside0.mk (blk_kept (by (with_reducible repeat (first | refine blk_drewN ?_ _ | refine blk_drew ?_ | refine blk_alloc ?_ _)); exact BK213.out) hkp (fun hs_ => Or.elim hs_ (fun e_ => (fun e_ => (Kd.R_ne HO_214000.out BK213.out (by decide)) e_) e_) (fun e_ => (fun e_ => (Kd.R_ne HO_214001.out BK213.out (by decide)) e_) e_))); have n9_ := Aside0.mk (blk_kept (by (with_reducible repeat (first | refine blk_drewN ?_ _ | refine blk_drew ?_ | refine blk_alloc ?_ _)); exact BK221.out) hkp (fun hs_ => Or.elim hs_ (fun e_ => (fun e_ => (Kd.R_ne HO_214000.out BK221.out (by decide)) e_) e_) (fun e_ => (fun e_ => (Kd.R_ne HO_214001.out BK221.out (by decide)) e_) e_))); have n10_ := Aside0.mk (hb); clear HO_207001; clear HO_207002; clear HO_214000; clear HO_214001; clear HO_222001; clear HO_222002; clear BK191; clear BK206; clear BK213; clear BK221; clear HB; have HO_207001 := n0_; have HO_207002 := n1_; have HO_214000 := n2_; have HO_214001 := n3_; have HO_222001 := n4_; have HO_222002 := n5_; have BK191 := n6_; have BK206 := n7_; have BK213 := n8_; have BK221 := n9_; have HB := n10_; clear n0_ n1_ n2_ n3_ n4_ n5_ n6_ n7_ n8_ n9_ n10_; (try clear hb); (try clear hkp); (try clear hy0); (try clear hy1)))
              (try simp only [Act.put, List.setIfInBounds_toArray, List.set_cons_zero, List.set_cons_succ])
              go_cut [46] (fun v46 wc => ∃ (kq : Nat) (x46_55 : Bool), v46 = .bool x46_55 ∧ Aside0 (laws_FnExactCrashLog.j3 kq a1 x46_55 l0_0 l0_1 t199 t200 t203 t214 t215 t218 = some r) ∧ Aside0 (kq ≤ kj47) ∧ Aside0 (Kd.R (Kd.int .u8) 5 wc w.heap.size (fun k_ => some k_ ≠ ((.slice Ao24 t203.length co24) : Value).ownBlock ∧ some k_ ≠ ((.slice Ao28 t207.length co28) : Value).ownBlock ∧ some k_ ≠ ((.slice Ao32 t210.length co32) : Value).ownBlock ∧ some k_ ≠ ((.slice Ao41 t215.length co41) : Value).ownBlock ∧ some k_ ≠ ((.slice Ao42 t218.length co42) : Value).ownBlock) (.slice Ao23 t200.length co23) t200) ∧ Aside0 (Kd.R (Kd.int .u8) 5 wc w.heap.size (fun k_ => some k_ ≠ ((.slice Ao23 t200.length co23) : Value).ownBlock ∧ some k_ ≠ ((.slice Ao28 t207.length co28) : Value).ownBlock ∧ some k_ ≠ ((.slice Ao32 t210.length co32) : Value).ownBlock ∧ some k_ ≠ ((.slice Ao41 t215.length co41) : Value).ownBlock ∧ some k_ ≠ ((.slice Ao42 t218.length co42) : Value).ownBlock) (.slice Ao24 t203.length co24) t203) ∧ Aside0 (Kd.R (Kd.int .u8) 5 wc w.heap.size (fun k_ => some k_ ≠ ((.slice Ao23 t200.length co23) : Value).ownBlock ∧ some k_ ≠ ((.slice Ao24 t203.length co24) : Value).ownBlock ∧ some k_ ≠ ((.slice Ao32 t210.length co32) : Value).ownBlock ∧ some k_ ≠ ((.slice Ao41 t215.length co41) : Value).ownBlock ∧ some k_ ≠ ((.slice Ao42 t218.length co42) : Value).ownBlock) (.slice Ao28 t207.length co28) t231) ∧ Aside0 (Kd.R (Kd.int .u8) 5 wc w.heap.size (fun k_ => some k_ ≠ ((.slice Ao23 t200.length co23) : Value).ownBlock ∧ some k_ ≠ ((.slice Ao24 t203.length co24) : Value).ownBlock ∧ some k_ ≠ ((.slice Ao28 t207.length co28) : Value).ownBlock ∧ some k_ ≠ ((.slice Ao41 t215.length co41) : Value).ownBlock ∧ some k_ ≠ ((.slice Ao42 t218.length co42) : Value).ownBlock) (.slice Ao32 t210.length co32) t232) ∧ Aside0 (Kd.R (Kd.int .u8) 5 wc w.heap.size (fun k_ => some k_ ≠ ((.slice Ao23 t200.length co23) : Value).ownBlock ∧ some k_ ≠ ((.slice Ao24 t203.length co24) : Value).ownBlock ∧ some k_ ≠ ((.slice Ao28 t207.length co28) : Value).ownBlock ∧ some k_ ≠ ((.slice Ao32 t210.length co32) : Value).ownBlock ∧ some k_ ≠ ((.slice Ao42 t218.length co42) : Value).ownBlock) (.slice Ao41 t215.length co41) t215) ∧ Aside0 (Kd.R (Kd.int .u8) 5 wc w.heap.size (fun k_ => some k_ ≠ ((.slice Ao23 t200.length co23) : Value).ownBlock ∧ some k_ ≠ ((.slice Ao24 t203.length co24) : Value).ownBlock ∧ some k_ ≠ ((.slice Ao28 t207.length co28) : Value).ownBlock ∧ some k_ ≠ ((.slice Ao32 t210.length co32) : Value).ownBlock ∧ some k_ ≠ ((.slice Ao41 t215.length co41) : Value).ownBlock) (.slice Ao42 t218.length co42) t218) ∧ Aside0 (wc.heap[gb191]? = some (.cells #[(.slice A0_0 l0_0.length c0_0), (.slice A0_1 l0_1.length c0_1)] 24 (0, 0))) ∧ Aside0 (wc.heap[gb206]? = some (.cells #[.int .i64 t199, (.slice Ao23 t200.length co23), (.slice Ao24 t203.length co24)] 46 (0, 0))) ∧ Aside0 (wc.heap[gb213]? = some (.cells #[(.slice Ao28 t207.length co28), (.slice Ao32 t210.length co32)] 27 (0, 0))) ∧ Aside0 (wc.heap[gb221]? = some (.cells #[.int .i64 t214, (.slice Ao41 t215.length co41), (.slice Ao42 t218.length co42)] 46 (0, 0))) ∧ Aside0 (Below w.heap.size w wc))
              case first =>
                have H := HC56.out
                clear HC56
                by_cases c62 : t230 < 0
                · rw [if_pos c62] at H
                  have c62b0 : decide (t230 < 0) = true := decide_eq_true c62
                  clear c62
                  (first | rw [c62b0] | (simp only [i64_w, i32_w]; rw [c62b0]) | skip)
                  have H' := Aside0.mk H
                  clear H
                  go_wp2
                  go_meet
                  case rel => exact ⟨_, (true), (by first | rfl | (simp; done) | (simp [*]; done)), H', ⟨by have := HJ3.out; have := HJ13.out; have := HJ47.out; first | omega | exact Nat.le_refl _⟩, ⟨by (with_reducible repeat (first | apply Kd.R_alloc | apply Kd.R_drewN | apply Kd.R_drew)); exact HO_207001.out⟩, ⟨by (with_reducible repeat (first | apply Kd.R_alloc | apply Kd.R_drewN | apply Kd.R_drew)); exact HO_207002.out⟩, ⟨by (with_reducible repeat (first | apply Kd.R_alloc | apply Kd.R_drewN | apply Kd.R_drew)); exact HO_214000.out⟩, ⟨by (with_reducible repeat (first | apply Kd.R_alloc | apply Kd.R_drewN | apply Kd.R_drew)); exact HO_214001.out⟩, ⟨by (with_reducible repeat (first | apply Kd.R_alloc | apply Kd.R_drewN | apply Kd.R_drew)); exact HO_222001.out⟩, ⟨by (with_reducible repeat (first | apply Kd.R_alloc | apply Kd.R_drewN | apply Kd.R_drew)); exact HO_222002.out⟩, ⟨by (with_reducible repeat (first | refine blk_drewN ?_ _ | refine blk_drew ?_ | refine blk_alloc ?_ _)); exact BK191.out⟩, ⟨by (with_reducible repeat (first | refine blk_drewN ?_ _ | refine blk_drew ?_ | refine blk_alloc ?_ _)); exact BK206.out⟩, ⟨by (with_reducible repeat (first | refine blk_drewN ?_ _ | refine blk_drew ?_ | refine blk_alloc ?_ _)); exact BK213.out⟩, ⟨by (with_reducible repeat (first | refine blk_drewN ?_ _ | refine blk_drew ?_ | refine blk_alloc ?_ _)); exact BK221.out⟩, ⟨by repeat (first | (with_reducible first | exact HB.out | apply below_alloc | apply pw_below_drewN | apply below_drew1 | refine below_set ?_ GE191.out | refine below_set ?_ GE206.out | refine below_set ?_ GE213.out | refine below_set ?_ GE221.out) | exact HB.out)⟩⟩
                · rw [if_neg c62] at H
                  have c62b0 : decide (t230 < 0) = false := decide_eq_false c62
                  clear c62
                  (first | rw [c62b0] | (simp only [i64_w, i32_w]; rw [c62b0]) | skip)
                  replace H := Option.bind_eq_some_iff.mp H
                  obtain ⟨t233, A630, H⟩ := H
                  replace H : (laws_FnExactCrashLog.j3 kj47 a1 (!t233) l0_0 l0_1 t199 t200 t203 t214 t215 t218) = some r := H
                  have A63 := Aside0.mk A630
                  clear A630
                  have H' := Aside0.mk H
                  clear H
                  have hnb64 := NB221_191.out
                  have hnc64 := NB191_221.out
                  have hnb65 := NB221_206.out
                  have hnc65 := NB206_221.out
                  have hnb66 := NB221_213.out
                  have hnc66 := NB213_221.out
                  have hcz67_0 : w61.cell? ⟨gb221, 0, none⟩ = some (.int .i64 t214) := (blk_cell BK221.out 0).trans rfl
                  have hcz67_1 : w61.cell? ⟨gb221, 1, none⟩ = some (.slice Ao41 t215.length co41) := (blk_cell BK221.out 1).trans rfl
                  have hcz67_2 : w61.cell? ⟨gb221, 2, none⟩ = some (.slice Ao42 t218.length co42) := (blk_cell BK221.out 2).trans rfl
                  have hfz67_0 := blk_frozen BK221.out 0
                  have hfz67_1 := blk_frozen BK221.out 1
                  have hfz67_2 := blk_frozen BK221.out 2
                  have hnb68 := NB206_191.out
                  have hnc68 := NB191_206.out
                  have hnb69 := NB206_213.out
                  have hnc69 := NB213_206.out
                  have hcz70_0 : w61.cell? ⟨gb206, 0, none⟩ = some (.int .i64 t199) := (blk_cell BK206.out 0).trans rfl
                  have hcz70_1 : w61.cell? ⟨gb206, 1, none⟩ = some (.slice Ao23 t200.length co23) := (blk_cell BK206.out 1).trans rfl
                  have hcz70_2 : w61.cell? ⟨gb206, 2, none⟩ = some (.slice Ao24 t203.length co24) := (blk_cell BK206.out 2).trans rfl
                  have hfz70_0 := blk_frozen BK206.out 0
                  have hfz70_1 := blk_frozen BK206.out 1
                  have hfz70_2 := blk_frozen BK206.out 2
                  go_wp2_with (first | (go_at_call 33; (with_reducible refine (laws_eqLogResult.calls kj47 t214 _ _ t215 _ _ t218 t199 _ _ t200 _ _ t203 t233 _ ?side1 ?side2 ?side3 ?side4 ?side5 ?side6 ?side7 ?side8 A63.out).mono ?_); (case side1 => repeat (first | exact (Kd.R_reads' HO_222001.out).2.2 | (with_reducible refine Kd.C_alloc ?_ _) | (with_reducible refine Kd.C_drewN ?_ _) | (with_reducible refine Kd.C_drew ?_))); (case side2 => exact (Kd.R_reads' HO_222001.out).2.1); (case side3 => repeat (first | exact (Kd.R_reads' HO_222002.out).2.2 | (with_reducible refine Kd.C_alloc ?_ _) | (with_reducible refine Kd.C_drewN ?_ _) | (with_reducible refine Kd.C_drew ?_))); (case side4 => exact (Kd.R_reads' HO_222002.out).2.1); (case side5 => repeat (first | exact (Kd.R_reads' HO_207001.out).2.2 | (with_reducible refine Kd.C_alloc ?_ _) | (with_reducible refine Kd.C_drewN ?_ _) | (with_reducible refine Kd.C_drew ?_))); (case side6 => exact (Kd.R_reads' HO_207001.out).2.1); (case side7 => repeat (first | exact (Kd.R_reads' HO_207002.out).2.2 | (with_reducible refine Kd.C_alloc ?_ _) | (with_reducible refine Kd.C_drewN ?_ _) | (with_reducible refine Kd.C_drew ?_))); (case side8 => exact (Kd.R_reads' HO_207002.out).2.1); rintro e w71 ⟨rfl, hb⟩; have n0_ := Aside0.mk (Kd.R_below (by (with_reducible repeat (first | apply Kd.R_alloc | apply Kd.R_drewN | apply Kd.R_drew)); exact HO_207001.out) hb); have n1_ := Aside0.mk (Kd.R_below (by (with_reducible repeat (first | apply Kd.R_alloc | apply Kd.R_drewN | apply Kd.R_drew)); exact HO_207002.out) hb); have n2_ := Aside0.mk (Kd.R_below (by (with_reducible repeat (first | apply Kd.R_alloc | apply Kd.R_drewN | apply Kd.R_drew)); exact HO_214000.out) hb); have n3_ := Aside0.mk (Kd.R_below (by (with_reducible repeat (first | apply Kd.R_alloc | apply Kd.R_drewN | apply Kd.R_drew)); exact HO_214001.out) hb); have n4_ := Aside0.mk (Kd.R_below (by (with_reducible repeat (first | apply Kd.R_alloc | apply Kd.R_drewN | apply Kd.R_drew)); exact HO_222001.out) hb); have n5_ := Aside0.mk (Kd.R_below (by (with_reducible repeat (first | apply Kd.R_alloc | apply Kd.R_drewN | apply Kd.R_drew)); exact HO_222002.out) hb); have n6_ := Aside0.mk (blk_below (g := gb191) (o := .cells #[.slice A0_0 l0_0.length c0_0, .slice A0_1 l0_1.length c0_1] 24 (0, 0)) (by (with_reducible repeat (first | refine blk_drewN ?_ _ | refine blk_drew ?_ | refine blk_alloc ?_ _)); exact BK191.out) hb); have n7_ := Aside0.mk (blk_below (g := gb206) (o := .cells #[.int .i64 t199, .slice Ao23 t200.length co23, .slice Ao24 t203.length co24] 46 (0, 0)) (by (with_reducible repeat (first | refine blk_drewN ?_ _ | refine blk_drew ?_ | refine blk_alloc ?_ _)); exact BK206.out) hb); have n8_ := Aside0.mk (blk_below (g := gb213) (o := .cells #[.slice Ao28 t207.length co28, .slice Ao32 t210.length co32] 27 (0, 0)) (by (with_reducible repeat (first | refine blk_drewN ?_ _ | refine blk_drew ?_ | refine blk_alloc ?_ _)); exact BK213.out) hb); have n9_ := Aside0.mk (blk_below (g := gb221) (o := .cells #[.int .i64 t214, .slice Ao41 t215.length co41, .slice Ao42 t218.length co42] 46 (0, 0)) (by (with_reducible repeat (first | refine blk_drewN ?_ _ | refine blk_drew ?_ | refine blk_alloc ?_ _)); exact BK221.out) hb); have n10_ := Aside0.mk (below_step (by repeat (first | (with_reducible first | exact HB.out | apply below_alloc | apply pw_below_drewN | apply below_drew1 | refine below_set ?_ GE191.out | refine below_set ?_ GE206.out | refine below_set ?_ GE213.out | refine below_set ?_ GE221.out) | exact HB.out)) hb); clear HO_207001; clear HO_207002; clear HO_214000; clear HO_214001; clear HO_222001; clear HO_222002; clear BK191; clear BK206; clear BK213; clear BK221; clear HB; have HO_207001 := n0_; have HO_207002 := n1_; have HO_214000 := n2_; have HO_214001 := n3_; have HO_222001 := n4_; have HO_222002 := n5_; have BK191 := n6_; have BK206 := n7_; have BK213 := n8_; have BK221 := n9_; have HB := n10_; clear n0_ n1_ n2_ n3_ n4_ n5_ n6_ n7_ n8_ n9_ n10_; (try clear hb); (try clear hb2); (try clear hk); (try clear hi)))
                  go_meet
                  case rel => exact ⟨_, (!t233), (by first | rfl | (simp; done) | (simp [*]; done)), H', ⟨by have := HJ3.out; have := HJ13.out; have := HJ47.out; first | omega | exact Nat.le_refl _⟩, ⟨by (with_reducible repeat (first | apply Kd.R_alloc | apply Kd.R_drewN | apply Kd.R_drew)); exact HO_207001.out⟩, ⟨by (with_reducible repeat (first | apply Kd.R_alloc | apply Kd.R_drewN | apply Kd.R_drew)); exact HO_207002.out⟩, ⟨by (with_reducible repeat (first | apply Kd.R_alloc | apply Kd.R_drewN | apply Kd.R_drew)); exact HO_214000.out⟩, ⟨by (with_reducible repeat (first | apply Kd.R_alloc | apply Kd.R_drewN | apply Kd.R_drew)); exact HO_214001.out⟩, ⟨by (with_reducible repeat (first | apply Kd.R_alloc | apply Kd.R_drewN | apply Kd.R_drew)); exact HO_222001.out⟩, ⟨by (with_reducible repeat (first | apply Kd.R_alloc | apply Kd.R_drewN | apply Kd.R_drew)); exact HO_222002.out⟩, ⟨by (with_reducible repeat (first | refine blk_drewN ?_ _ | refine blk_drew ?_ | refine blk_alloc ?_ _)); exact BK191.out⟩, ⟨by (with_reducible repeat (first | refine blk_drewN ?_ _ | refine blk_drew ?_ | refine blk_alloc ?_ _)); exact BK206.out⟩, ⟨by (with_reducible repeat (first | refine blk_drewN ?_ _ | refine blk_drew ?_ | refine blk_alloc ?_ _)); exact BK213.out⟩, ⟨by (with_reducible repeat (first | refine blk_drewN ?_ _ | refine blk_drew ?_ | refine blk_alloc ?_ _)); exact BK221.out⟩, ⟨by repeat (first | (with_reducible first | exact HB.out | apply below_alloc | apply pw_below_drewN | apply below_drew1 | refine below_set ?_ GE191.out | refine below_set ?_ GE206.out | refine below_set ?_ GE213.out | refine below_set ?_ GE221.out) | exact HB.out)⟩⟩
              case rest =>
                clear HC56
                try clear c1
                try clear c2
                try clear p2
                try clear c3
                try clear c4
                try clear c5
                try clear c6
                try clear c8
                try clear c8b0
                try clear c14
                try clear c16
                try clear c18
                try clear c21
                try clear c29
                try clear c30
                try clear c33
                try clear c34
                try clear c37
                try clear c38
                try clear c39
                try clear c41
                try clear c42
                try clear c45
                try clear c54
                try clear c57
                try clear c58
                try clear c59
                try clear c62
                try clear c62b0
                try clear c64
                try clear c65
                try clear c66
                try clear c68
                try clear c69
                try clear hcz15_0
                try clear hcz15_1
                try clear hcz22_0
                try clear hcz22_1
                try clear hcz22_2
                try clear hcz25_0
                try clear hcz25_1
                try clear hcz31_0
                try clear hcz31_1
                try clear hcz34_0
                try clear hcz34_1
                try clear hcz40_0
                try clear hcz40_1
                try clear hcz40_2
                try clear hcz43_0
                try clear hcz43_1
                try clear hcz43_2
                try clear hcz60_0
                try clear hcz60_1
                try clear hcz67_0
                try clear hcz67_1
                try clear hcz67_2
                try clear hcz6_0
                try clear hcz6_1
                try clear hcz70_0
                try clear hcz70_1
                try clear hcz70_2
                try clear hfz15_0
                try clear hfz15_1
                try clear hfz22_0
                try clear hfz22_1
                try clear hfz22_2
                try clear hfz25_0
                try clear hfz25_1
                try clear hfz31_0
                try clear hfz31_1
                try clear hfz34_0
                try clear hfz34_1
                try clear hfz40_0
                try clear hfz40_1
                try clear hfz40_2
                try clear hfz43_0
                try clear hfz43_1
                try clear hfz43_2
                try clear hfz60_0
                try clear hfz60_1
                try clear hfz67_0
                try clear hfz67_1
                try clear hfz67_2
                try clear hfz6_0
                try clear hfz6_1
                try clear hfz70_0
                try clear hfz70_1
                try clear hfz70_2
                try clear p2
                obtain ⟨kq, x46_55, rfl, HA, HJ55, HO_207001, HO_207002, HO_214000, HO_214001, HO_222001, HO_222002, BK191, BK206, BK213, BK221, HB⟩ := hcut
                have hl214000_55 := (Kd.R_reads' HO_214000.out).1
                rw [hl214000_55] at HO_214000
                (try simp only [hl214000_55])
                (try simp only [hl214000_55] at BK191)
                (try simp only [hl214000_55] at BK206)
                (try simp only [hl214000_55] at BK213)
                (try simp only [hl214000_55] at BK221)
                (try simp only [hl214000_55] at HO_207001)
                (try simp only [hl214000_55] at HO_207002)
                (try simp only [hl214000_55] at HO_214001)
                (try simp only [hl214000_55] at HO_222001)
                (try simp only [hl214000_55] at HO_222002)
                have hl214001_55 := (Kd.R_reads' HO_214001.out).1
                rw [hl214001_55] at HO_214001
                (try simp only [hl214001_55])
                (try simp only [hl214001_55] at BK191)
                (try simp only [hl214001_55] at BK206)
                (try simp only [hl214001_55] at BK213)
                (try simp only [hl214001_55] at BK221)
                (try simp only [hl214001_55] at HO_207001)
                (try simp only [hl214001_55] at HO_207002)
                (try simp only [hl214001_55] at HO_214000)
                (try simp only [hl214001_55] at HO_222001)
                (try simp only [hl214001_55] at HO_222002)
                cases kq with
                | zero => exact absurd HA.out (by simp [laws_FnExactCrashLog.j3])
                | succ kj55 =>
                  have H := HA.out
                  clear HA
                  simp only [laws_FnExactCrashLog.j3] at H
                  have HC72 := Aside0.mk H
                  clear H
                  go_upto_if 46 with (fail)
                  go_cut [] (fun wc => ∃ (kq : Nat), Aside0 (laws_FnExactCrashLog.j4 kq a1 l0_0 l0_1 t199 t200 t203 t214 t215 t218 = some r) ∧ Aside0 (kq ≤ kj55) ∧ Aside0 (Kd.R (Kd.int .u8) 5 wc w.heap.size (fun k_ => some k_ ≠ ((.slice Ao24 t203.length co24) : Value).ownBlock ∧ some k_ ≠ ((.slice Ao28 t231.length co28) : Value).ownBlock ∧ some k_ ≠ ((.slice Ao32 t232.length co32) : Value).ownBlock ∧ some k_ ≠ ((.slice Ao41 t215.length co41) : Value).ownBlock ∧ some k_ ≠ ((.slice Ao42 t218.length co42) : Value).ownBlock) (.slice Ao23 t200.length co23) t200) ∧ Aside0 (Kd.R (Kd.int .u8) 5 wc w.heap.size (fun k_ => some k_ ≠ ((.slice Ao23 t200.length co23) : Value).ownBlock ∧ some k_ ≠ ((.slice Ao28 t231.length co28) : Value).ownBlock ∧ some k_ ≠ ((.slice Ao32 t232.length co32) : Value).ownBlock ∧ some k_ ≠ ((.slice Ao41 t215.length co41) : Value).ownBlock ∧ some k_ ≠ ((.slice Ao42 t218.length co42) : Value).ownBlock) (.slice Ao24 t203.length co24) t203) ∧ Aside0 (Kd.R (Kd.int .u8) 5 wc w.heap.size (fun k_ => some k_ ≠ ((.slice Ao23 t200.length co23) : Value).ownBlock ∧ some k_ ≠ ((.slice Ao24 t203.length co24) : Value).ownBlock ∧ some k_ ≠ ((.slice Ao32 t232.length co32) : Value).ownBlock ∧ some k_ ≠ ((.slice Ao41 t215.length co41) : Value).ownBlock ∧ some k_ ≠ ((.slice Ao42 t218.length co42) : Value).ownBlock) (.slice Ao28 t231.length co28) t231) ∧ Aside0 (Kd.R (Kd.int .u8) 5 wc w.heap.size (fun k_ => some k_ ≠ ((.slice Ao23 t200.length co23) : Value).ownBlock ∧ some k_ ≠ ((.slice Ao24 t203.length co24) : Value).ownBlock ∧ some k_ ≠ ((.slice Ao28 t231.length co28) : Value).ownBlock ∧ some k_ ≠ ((.slice Ao41 t215.length co41) : Value).ownBlock ∧ some k_ ≠ ((.slice Ao42 t218.length co42) : Value).ownBlock) (.slice Ao32 t232.length co32) t232) ∧ Aside0 (Kd.R (Kd.int .u8) 5 wc w.heap.size (fun k_ => some k_ ≠ ((.slice Ao23 t200.length co23) : Value).ownBlock ∧ some k_ ≠ ((.slice Ao24 t203.length co24) : Value).ownBlock ∧ some k_ ≠ ((.slice Ao28 t231.length co28) : Value).ownBlock ∧ some k_ ≠ ((.slice Ao32 t232.length co32) : Value).ownBlock ∧ some k_ ≠ ((.slice Ao42 t218.length co42) : Value).ownBlock) (.slice Ao41 t215.length co41) t215) ∧ Aside0 (Kd.R (Kd.int .u8) 5 wc w.heap.size (fun k_ => some k_ ≠ ((.slice Ao23 t200.length co23) : Value).ownBlock ∧ some k_ ≠ ((.slice Ao24 t203.length co24) : Value).ownBlock ∧ some k_ ≠ ((.slice Ao28 t231.length co28) : Value).ownBlock ∧ some k_ ≠ ((.slice Ao32 t232.length co32) : Value).ownBlock ∧ some k_ ≠ ((.slice Ao41 t215.length co41) : Value).ownBlock) (.slice Ao42 t218.length co42) t218) ∧ Aside0 (wc.heap[gb191]? = some (.cells #[(.slice A0_0 l0_0.length c0_0), (.slice A0_1 l0_1.length c0_1)] 24 (0, 0))) ∧ Aside0 (wc.heap[gb206]? = some (.cells #[.int .i64 t199, (.slice Ao23 t200.length co23), (.slice Ao24 t203.length co24)] 46 (0, 0))) ∧ Aside0 (wc.heap[gb213]? = some (.cells #[(.slice Ao28 t231.length co28), (.slice Ao32 t232.length co32)] 27 (0, 0))) ∧ Aside0 (wc.heap[gb221]? = some (.cells #[.int .i64 t214, (.slice Ao41 t215.length co41), (.slice Ao42 t218.length co42)] 46 (0, 0))) ∧ Aside0 (Below w.heap.size w wc))
                  case first =>
                    have H := HC72.out
                    clear HC72
                    by_cases c73 : x46_55 = true
                    · subst c73
                      have H1 : (some false) = some r := by rw [if_pos rfl] at H; exact H
                      clear H
                      have H := H1
                      clear H1
                      obtain rfl := Option.some.inj H
                      go_wp2
                      go_ret
                      exact ⟨by first | rfl | (simp [errW_none, errW_some] <;> rfl) | (simp [*, errW_none, errW_some] <;> rfl), by repeat (first | (with_reducible first | exact HB.out | apply below_alloc | apply pw_below_drewN | apply below_drew1 | refine below_set ?_ GE191.out | refine below_set ?_ GE206.out | refine below_set ?_ GE213.out | refine below_set ?_ GE221.out) | exact HB.out)⟩
                    · replace c73 := Bool.eq_false_iff.mpr c73
                      subst c73
                      have H1 : (laws_FnExactCrashLog.j4 kj55 a1 l0_0 l0_1 t199 t200 t203 t214 t215 t218) = some r := by rw [if_neg (show ¬ (false = true) by decide)] at H; exact H
                      clear H
                      have H := H1
                      clear H1
                      have H' := Aside0.mk H
                      clear H
                      go_wp2
                      go_meet
                      case rel => exact ⟨_, H', ⟨by have := HJ3.out; have := HJ13.out; have := HJ47.out; have := HJ55.out; first | omega | exact Nat.le_refl _⟩, ⟨by (try simp only [hl214000_55]); (try simp only [hl214001_55]); (with_reducible repeat (first | apply Kd.R_alloc | apply Kd.R_drewN | apply Kd.R_drew)); exact HO_207001.out⟩, ⟨by (try simp only [hl214000_55]); (try simp only [hl214001_55]); (with_reducible repeat (first | apply Kd.R_alloc | apply Kd.R_drewN | apply Kd.R_drew)); exact HO_207002.out⟩, ⟨by (try simp only [hl214000_55]); (try simp only [hl214001_55]); (with_reducible repeat (first | apply Kd.R_alloc | apply Kd.R_drewN | apply Kd.R_drew)); exact HO_214000.out⟩, ⟨by (try simp only [hl214000_55]); (try simp only [hl214001_55]); (with_reducible repeat (first | apply Kd.R_alloc | apply Kd.R_drewN | apply Kd.R_drew)); exact HO_214001.out⟩, ⟨by (try simp only [hl214000_55]); (try simp only [hl214001_55]); (with_reducible repeat (first | apply Kd.R_alloc | apply Kd.R_drewN | apply Kd.R_drew)); exact HO_222001.out⟩, ⟨by (try simp only [hl214000_55]); (try simp only [hl214001_55]); (with_reducible repeat (first | apply Kd.R_alloc | apply Kd.R_drewN | apply Kd.R_drew)); exact HO_222002.out⟩, ⟨by (try simp only [hl214000_55]); (try simp only [hl214001_55]); (with_reducible repeat (first | refine blk_drewN ?_ _ | refine blk_drew ?_ | refine blk_alloc ?_ _)); exact BK191.out⟩, ⟨by (try simp only [hl214000_55]); (try simp only [hl214001_55]); (with_reducible repeat (first | refine blk_drewN ?_ _ | refine blk_drew ?_ | refine blk_alloc ?_ _)); exact BK206.out⟩, ⟨by (try simp only [hl214000_55]); (try simp only [hl214001_55]); (with_reducible repeat (first | refine blk_drewN ?_ _ | refine blk_drew ?_ | refine blk_alloc ?_ _)); exact BK213.out⟩, ⟨by (try simp only [hl214000_55]); (try simp only [hl214001_55]); (with_reducible repeat (first | refine blk_drewN ?_ _ | refine blk_drew ?_ | refine blk_alloc ?_ _)); exact BK221.out⟩, ⟨by repeat (first | (with_reducible first | exact HB.out | apply below_alloc | apply pw_below_drewN | apply below_drew1 | refine below_set ?_ GE191.out | refine below_set ?_ GE206.out | refine below_set ?_ GE213.out | refine below_set ?_ GE221.out) | exact HB.out)⟩⟩
                  case rest =>
                    clear HC72
                    try clear c1
                    try clear c2
                    try clear p2
                    try clear c3
                    try clear c4
                    try clear c5
                    try clear c6
                    try clear c7
                    try clear c8
                    try clear c8b0
                    try clear c14
                    try clear c16
                    try clear c18
                    try clear c21
                    try clear c29
                    try clear c30
                    try clear c33
                    try clear c34
                    try clear c37
                    try clear c38
                    try clear c39
                    try clear c41
                    try clear c42
                    try clear c45
                    try clear c54
                    try clear c57
                    try clear c58
                    try clear c59
                    try clear c62
                    try clear c62b0
                    try clear c64
                    try clear c65
                    try clear c66
                    try clear c68
                    try clear c69
                    try clear c73
                    try clear hcz15_0
                    try clear hcz15_1
                    try clear hcz22_0
                    try clear hcz22_1
                    try clear hcz22_2
                    try clear hcz25_0
                    try clear hcz25_1
                    try clear hcz31_0
                    try clear hcz31_1
                    try clear hcz34_0
                    try clear hcz34_1
                    try clear hcz40_0
                    try clear hcz40_1
                    try clear hcz40_2
                    try clear hcz43_0
                    try clear hcz43_1
                    try clear hcz43_2
                    try clear hcz60_0
                    try clear hcz60_1
                    try clear hcz67_0
                    try clear hcz67_1
                    try clear hcz67_2
                    try clear hcz6_0
                    try clear hcz6_1
                    try clear hcz70_0
                    try clear hcz70_1
                    try clear hcz70_2
                    try clear hfz15_0
                    try clear hfz15_1
                    try clear hfz22_0
                    try clear hfz22_1
                    try clear hfz22_2
                    try clear hfz25_0
                    try clear hfz25_1
                    try clear hfz31_0
                    try clear hfz31_1
                    try clear hfz34_0
                    try clear hfz34_1
                    try clear hfz40_0
                    try clear hfz40_1
                    try clear hfz40_2
                    try clear hfz43_0
                    try clear hfz43_1
                    try clear hfz43_2
                    try clear hfz60_0
                    try clear hfz60_1
                    try clear hfz67_0
                    try clear hfz67_1
                    try clear hfz67_2
                    try clear hfz6_0
                    try clear hfz6_1
                    try clear hfz70_0
                    try clear hfz70_1
                    try clear hfz70_2
                    try clear p2
                    obtain ⟨kq, HA, HJ71, HO_207001, HO_207002, HO_214000, HO_214001, HO_222001, HO_222002, BK191, BK206, BK213, BK221, HB⟩ := hcut
                    cases kq with
                    | zero => exact absurd HA.out (by simp [laws_FnExactCrashLog.j4])
                    | succ kj71 =>
                      have H := HA.out
                      clear HA
                      simp only [laws_FnExactCrashLog.j4] at H
                      replace H := Option.bind_eq_some_iff.mp H
                      obtain ⟨⟨t234, t235, t236⟩, A740, H⟩ := H
                      replace H : ((laws_heldLogResult.f kj71 t214 t235 t236 1).bind fun t237 => (if t237 < 0 then (some false) else (laws_FnExactCrashLog.j5 kj71 a1 t234 t237 l0_0 l0_1 t199 t200 t203 t214 t235 t236))) = some r := H
                      have A74 := Aside0.mk A740
                      clear A740
                      replace H := Option.bind_eq_some_iff.mp H
                      obtain ⟨t237, A750, H⟩ := H
                      replace H : (if t237 < 0 then (some false) else (laws_FnExactCrashLog.j5 kj71 a1 t234 t237 l0_0 l0_1 t199 t200 t203 t214 t235 t236)) = some r := H
                      have A75 := Aside0.mk A750
                      clear A750
                      have HC76 := Aside0.mk H
                      clear H
                      have hnb77 := NB221_191.out
                      have hnc77 := NB191_221.out
                      have hnb78 := NB221_206.out
                      have hnc78 := NB206_221.out
                      have hnb79 := NB221_213.out
                      have hnc79 := NB213_221.out
                      have hcz80_0 : wc.cell? ⟨gb221, 0, none⟩ = some (.int .i64 t214) := (blk_cell BK221.out 0).trans rfl
                      have hcz80_1 : wc.cell? ⟨gb221, 1, none⟩ = some (.slice Ao41 t215.length co41) := (blk_cell BK221.out 1).trans rfl
                      have hcz80_2 : wc.cell? ⟨gb221, 2, none⟩ = some (.slice Ao42 t218.length co42) := (blk_cell BK221.out 2).trans rfl
                      have hfz80_0 := blk_frozen BK221.out 0
                      have hfz80_1 := blk_frozen BK221.out 1
                      have hfz80_2 := blk_frozen BK221.out 2
                      go_upto_if 54 with (first | ((with_reducible refine gate_callee (f := 35) rfl ?_); refine goesL_ (some 49) rfl rfl Try.func35 (by kernel_rfl) rfl #[.agg #[.int .i64 t214, .slice Ao41 t215.length co41, .slice Ao42 t218.length co42], .int .i64 1] rfl (by (try simp only [List.map_toArray, List.map_cons, List.map_nil]); first | done | rfl | (simp only [List.length_drop, List.length_take]; rfl)) ?_; (with_reducible refine (laws_markLogResult.calls kj71 t214 (fun k_ => some k_ = (.slice Ao41 t215.length co41 : Value).ownBlock) (.slice Ao41 t215.length co41) t215 (fun k_ => some k_ = (.slice Ao42 t218.length co42 : Value).ownBlock) (.slice Ao42 t218.length co42) t218 1 t234 t235 t236 w _ ?side1 ?side2 ?side3 ?side4 ?side5 A74.out).mono ?_); (case side1 => repeat (first | (with_reducible first | exact HB.out | apply below_alloc | apply pw_below_drewN | apply below_drew1 | refine below_set ?_ GE191.out | refine below_set ?_ GE206.out | refine below_set ?_ GE213.out | refine below_set ?_ GE221.out) | exact HB.out)); (case side2 => exact Kd.R_tight rfl HO_222001.out); (case side3 => exact fun k_ e_ => (HO_222001.out.1 k_ e_.symm).2.2.2.2); (case side4 => exact Kd.R_tight rfl HO_222002.out); (case side5 => exact fun k_ e_ => (HO_222002.out.1 k_ e_.symm).2.2.2.2); rintro e w81 ⟨rfl, hy0, hy1, hb, hkp⟩; refine ⟨_, rfl, ?_⟩; have n0_ := Aside0.mk (Kd.R_mono (ok' := fun k_ => some k_ ≠ (.slice Ao24 t203.length co24 : Value).ownBlock ∧ some k_ ≠ (.slice Ao28 t231.length co28 : Value).ownBlock ∧ some k_ ≠ (.slice Ao32 t232.length co32 : Value).ownBlock ∧ some k_ ≠ (.slice Ao41 t215.length co41 : Value).ownBlock ∧ some k_ ≠ (.slice Ao42 t218.length co42 : Value).ownBlock) (Kd.R_keptB (HO_207001.out) hkp (fun k_ hk_ hs_ => Or.elim hs_ (fun e_ => (hk_.2.2.2.1) e_) (fun e_ => (hk_.2.2.2.2) e_))) (fun k_ hk_ => ⟨hk_.1.1, hk_.1.2.1, hk_.1.2.2.1, hk_.1.2.2.2.1, hk_.1.2.2.2.2⟩)); have n1_ := Aside0.mk (Kd.R_mono (ok' := fun k_ => some k_ ≠ (.slice Ao23 t200.length co23 : Value).ownBlock ∧ some k_ ≠ (.slice Ao28 t231.length co28 : Value).ownBlock ∧ some k_ ≠ (.slice Ao32 t232.length co32 : Value).ownBlock ∧ some k_ ≠ (.slice Ao41 t215.length co41 : Value).ownBlock ∧ some k_ ≠ (.slice Ao42 t218.length co42 : Value).ownBlock) (Kd.R_keptB (HO_207002.out) hkp (fun k_ hk_ hs_ => Or.elim hs_ (fun e_ => (hk_.2.2.2.1) e_) (fun e_ => (hk_.2.2.2.2) e_))) (fun k_ hk_ => ⟨hk_.1.1, hk_.1.2.1, hk_.1.2.2.1, hk_.1.2.2.2.1, hk_.1.2.2.2.2⟩)); have n2_ := Aside0.mk (Kd.R_mono (ok' := fun k_ => some k_ ≠ (.slice Ao23 t200.length co23 : Value).ownBlock ∧ some k_ ≠ (.slice Ao24 t203.length co24 : Value).ownBlock ∧ some k_ ≠ (.slice Ao32 t232.length co32 : Value).ownBlock ∧ some k_ ≠ (.slice Ao41 t215.length co41 : Value).ownBlock ∧ some k_ ≠ (.slice Ao42 t218.length co42 : Value).ownBlock) (Kd.R_keptB (HO_214000.out) hkp (fun k_ hk_ hs_ => Or.elim hs_ (fun e_ => (hk_.2.2.2.1) e_) (fun e_ => (hk_.2.2.2.2) e_))) (fun k_ hk_ => ⟨hk_.1.1, hk_.1.2.1, hk_.1.2.2.1, hk_.1.2.2.2.1, hk_.1.2.2.2.2⟩)); have n3_ := Aside0.mk (Kd.R_mono (ok' := fun k_ => some k_ ≠ (.slice Ao23 t200.length co23 : Value).ownBlock ∧ some k_ ≠ (.slice Ao24 t203.length co24 : Value).ownBlock ∧ some k_ ≠ (.slice Ao28 t231.length co28 : Value).ownBlock ∧ some k_ ≠ (.slice Ao41 t215.length co41 : Value).ownBlock ∧ some k_ ≠ (.slice Ao42 t218.length co42 : Value).ownBlock) (Kd.R_keptB (HO_214001.out) hkp (fun k_ hk_ hs_ => Or.elim hs_ (fun e_ => (hk_.2.2.2.1) e_) (fun e_ => (hk_.2.2.2.2) e_))) (fun k_ hk_ => ⟨hk_.1.1, hk_.1.2.1, hk_.1.2.2.1, hk_.1.2.2.2.1, hk_.1.2.2.2.2⟩)); have n4_ := Aside0.mk (Kd.R_reok rfl hy0 (fun k_ e_ => HO_222001.out.1 k_ e_)); have n5_ := Aside0.mk (Kd.R_reok rfl hy1 (fun k_ e_ => HO_222002.out.1 k_ e_)); have n6_ := Aside0.mk (blk_kept (by (with_reducible repeat (first | refine blk_drewN ?_ _ | refine blk_drew ?_ | refine blk_alloc ?_ _)); exact BK191.out) hkp (fun hs_ => Or.elim hs_ (fun e_ => (fun e_ => (Kd.R_ne HO_222001.out BK191.out (by decide)) e_) e_) (fun e_ => (fun e_ => (Kd.R_ne HO_222002.out BK191.out (by decide)) e_) e_))); have n7_ := Aside0.mk (blk_kept (by (with_reducible repeat (first | refine blk_drewN ?_ _ | refine blk_drew ?_ | refine blk_alloc ?_ _)); exact BK206.out) hkp (fun hs_ => Or.elim hs_ (fun e_ => (fun e_ => (Kd.R_ne HO_222001.out BK206.out (by decide)) e_) e_) (fun e_ => (fun e_ => (Kd.R_ne HO_222002.out BK206.out (by decide)) e_) e_))); have n8_ := Aside0.mk (blk_kept (by (with_reducible repeat (first | refine blk_drewN ?_ _ | refine blk_drew ?_ | refine blk_alloc ?_ _)); exact BK213.out) hkp (fun hs_ => Or.elim hs_ (fun e_ => (fun e_ => (Kd.R_ne HO_222001.out BK213.out (by decide)) e_) e_) (fun e_ => (fun e_ => (Kd.R_ne HO_222002.out BK213.out (by decide)) e_) e_))); have n9_ := Aside0.mk (blk_kept (by (with_reducible repeat (first | refine blk_drewN ?_ _ | refine blk_drew ?_ | refine blk_alloc ?_ _)); exact BK221.out) hkp (fun hs_ => Or.elim hs_ (fun e_ => (fun e_ => (Kd.R_ne HO_222001.out BK221.out (by decide)) e_) e_) (fun e_ => (fun e_ => (Kd.R_ne HO_222002.out BK221.out (by decide)) e_) e_))); have n10_ := Aside0.mk (hb); clear HO_207001; clear HO_207002; clear HO_214000; clear HO_214001; clear HO_222001; clear HO_222002; clear BK191; clear BK206; clear BK213; clear BK221; clear HB; have HO_207001 := n0_; have HO_207002 := n1_; have HO_214000 := n2_; have HO_214001 := n3_; have HO_222001 := n4_; have HO_222002 := n5_; have BK191 := n6_; have BK206 := n7_; have BK213 := n8_; have BK221 := n9_; have HB := n10_; clear n0_ n1_ n2_ n3_ n4_ n5_ n6_ n7_ n8_ n9_ n10_; (try clear hb); (try clear hkp); (try clear hy0); (try clear hy1); have hcz82_0 : w81.cell? ⟨gb221, 0, none⟩ = some (.int .i64 t214) := (blk_cell BK221.out 0).trans rfl; have hcz82_1 : w81.cell? ⟨gb221, 1, none⟩ = some (.slice Ao41 t215.length co41) := (blk_cell BK221.out 1).trans rfl; have hcz82_2 : w81.cell? ⟨gb221, 2, none⟩ = some (.slice Ao42 t218.length co42) := (blk_cell BK221.out 2).trans rfl; have hfz82_0 := blk_frozen BK221.out 0; have hfz82_1 := blk_frozen BK221.out 1; have hfz82_2 := blk_frozen BK221.out 2) | ((with_reducible refine gate_callee (f := 36) rfl ?_); refine goesL_ (some 52) rfl rfl Try.func36 (by kernel_rfl) rfl #[.agg #[.int .i64 t214, .slice Ao41 t235.length co41, .slice Ao42 t236.length co42], .int .i64 1] rfl (by (try simp only [List.map_toArray, List.map_cons, List.map_nil]); first | done | (rw [show t235.length = t215.length from (Kd.R_reads' HO_222001.out).1.symm, show t236.length = t218.length from (Kd.R_reads' HO_222002.out).1.symm] <;> rfl) | rfl | (simp only [List.length_drop, List.length_take]; rfl)) ?_; (with_reducible refine (laws_heldLogResult.calls kj71 t214 _ _ t235 _ _ t236 1 t237 _ ?side1 ?side2 ?side3 ?side4 A75.out).mono ?_); (case side1 => repeat (first | exact (Kd.R_reads' HO_222001.out).2.2 | (with_reducible refine Kd.C_alloc ?_ _) | (with_reducible refine Kd.C_drewN ?_ _) | (with_reducible refine Kd.C_drew ?_))); (case side2 => rw [show t235.length = t215.length from (Kd.R_reads' HO_222001.out).1.symm]; exact (Kd.R_reads' HO_222001.out).2.1); (case side3 => repeat (first | exact (Kd.R_reads' HO_222002.out).2.2 | (with_reducible refine Kd.C_alloc ?_ _) | (with_reducible refine Kd.C_drewN ?_ _) | (with_reducible refine Kd.C_drew ?_))); (case side4 => rw [show t236.length = t218.length from (Kd.R_reads' HO_222002.out).1.symm]; exact (Kd.R_reads' HO_222002.out).2.1); rintro e w83 ⟨rfl, hb⟩; refine ⟨_, rfl, ?_⟩; have n0_ := Aside0.mk (Kd.R_below (by (with_reducible repeat (first | apply Kd.R_alloc | apply Kd.R_drewN | apply Kd.R_drew)); exact HO_207001.out) hb); have n1_ := Aside0.mk (Kd.R_below (by (with_reducible repeat (first | apply Kd.R_alloc | apply Kd.R_drewN | apply Kd.R_drew)); exact HO_207002.out) hb); have n2_ := Aside0.mk (Kd.R_below (by (with_reducible repeat (first | apply Kd.R_alloc | apply Kd.R_drewN | apply Kd.R_drew)); exact HO_214000.out) hb); have n3_ := Aside0.mk (Kd.R_below (by (with_reducible repeat (first | apply Kd.R_alloc | apply Kd.R_drewN | apply Kd.R_drew)); exact HO_214001.out) hb); have n4_ := Aside0.mk (Kd.R_below (by (with_reducible repeat (first | apply Kd.R_alloc | apply Kd.R_drewN | apply Kd.R_drew)); exact HO_222001.out) hb); have n5_ := Aside0.mk (Kd.R_below (by (with_reducible repeat (first | apply Kd.R_alloc | apply Kd.R_drewN | apply Kd.R_drew)); exact HO_222002.out) hb); have n6_ := Aside0.mk (blk_below (g := gb191) (o := .cells #[.slice A0_0 l0_0.length c0_0, .slice A0_1 l0_1.length c0_1] 24 (0, 0)) (by (with_reducible repeat (first | refine blk_drewN ?_ _ | refine blk_drew ?_ | refine blk_alloc ?_ _)); exact BK191.out) hb); have n7_ := Aside0.mk (blk_below (g := gb206) (o := .cells #[.int .i64 t199, .slice Ao23 t200.length co23, .slice Ao24 t203.length co24] 46 (0, 0)) (by (with_reducible repeat (first | refine blk_drewN ?_ _ | refine blk_drew ?_ | refine blk_alloc ?_ _)); exact BK206.out) hb); have n8_ := Aside0.mk (blk_below (g := gb213) (o := .cells #[.slice Ao28 t231.length co28, .slice Ao32 t232.length co32] 27 (0, 0)) (by (with_reducible repeat (first | refine blk_drewN ?_ _ | refine blk_drew ?_ | refine blk_alloc ?_ _)); exact BK213.out) hb); have n9_ := Aside0.mk (blk_below (g := gb221) (o := .cells #[.int .i64 t214, .slice Ao41 t215.length co41, .slice Ao42 t218.length co42] 46 (0, 0)) (by (with_reducible repeat (first | refine blk_drewN ?_ _ | refine blk_drew ?_ | refine blk_alloc ?_ _)); exact BK221.out) hb); have n10_ := Aside0.mk (below_step (by repeat (first | (with_reducible first | exact HB.out | apply below_alloc | apply pw_below_drewN | apply below_drew1 | refine below_set ?_ GE191.out | refine below_set ?_ GE206.out | refine below_set ?_ GE213.out | refine below_set ?_ GE221.out) | exact HB.out)) hb); clear HO_207001; clear HO_207002; clear HO_214000; clear HO_214001; clear HO_222001; clear HO_222002; clear BK191; clear BK206; clear BK213; clear BK221; clear HB; have HO_207001 := n0_; have HO_207002 := n1_; have HO_214000 := n2_; have HO_214001 := n3_; have HO_222001 := n4_; have HO_222002 := n5_; have BK191 := n6_; have BK206 := n7_; have BK213 := n8_; have BK221 := n9_; have HB := n10_; clear n0_ n1_ n2_ n3_ n4_ n5_ n6_ n7_ n8_ n9_ n10_; (try clear hb); (try clear hb2); (try clear hk); (try clear hi)))
                      (try simp only [Act.put, List.setIfInBounds_toArray, List.set_cons_zero, List.set_cons_succ])
                      go_cut [] (fun wc => ∃ (kq : Nat), Aside0 (laws_FnExactCrashLog.j5 kq a1 t234 t237 l0_0 l0_1 t199 t200 t203 t214 t235 t236 = some r) ∧ Aside0 (kq ≤ kj71) ∧ Aside0 (Kd.R (Kd.int .u8) 5 wc w.heap.size (fun k_ => some k_ ≠ ((.slice Ao24 t203.length co24) : Value).ownBlock ∧ some k_ ≠ ((.slice Ao28 t231.length co28) : Value).ownBlock ∧ some k_ ≠ ((.slice Ao32 t232.length co32) : Value).ownBlock ∧ some k_ ≠ ((.slice Ao41 t215.length co41) : Value).ownBlock ∧ some k_ ≠ ((.slice Ao42 t218.length co42) : Value).ownBlock) (.slice Ao23 t200.length co23) t200) ∧ Aside0 (Kd.R (Kd.int .u8) 5 wc w.heap.size (fun k_ => some k_ ≠ ((.slice Ao23 t200.length co23) : Value).ownBlock ∧ some k_ ≠ ((.slice Ao28 t231.length co28) : Value).ownBlock ∧ some k_ ≠ ((.slice Ao32 t232.length co32) : Value).ownBlock ∧ some k_ ≠ ((.slice Ao41 t215.length co41) : Value).ownBlock ∧ some k_ ≠ ((.slice Ao42 t218.length co42) : Value).ownBlock) (.slice Ao24 t203.length co24) t203) ∧ Aside0 (Kd.R (Kd.int .u8) 5 wc w.heap.size (fun k_ => some k_ ≠ ((.slice Ao23 t200.length co23) : Value).ownBlock ∧ some k_ ≠ ((.slice Ao24 t203.length co24) : Value).ownBlock ∧ some k_ ≠ ((.slice Ao32 t232.length co32) : Value).ownBlock ∧ some k_ ≠ ((.slice Ao41 t215.length co41) : Value).ownBlock ∧ some k_ ≠ ((.slice Ao42 t218.length co42) : Value).ownBlock) (.slice Ao28 t231.length co28) t231) ∧ Aside0 (Kd.R (Kd.int .u8) 5 wc w.heap.size (fun k_ => some k_ ≠ ((.slice Ao23 t200.length co23) : Value).ownBlock ∧ some k_ ≠ ((.slice Ao24 t203.length co24) : Value).ownBlock ∧ some k_ ≠ ((.slice Ao28 t231.length co28) : Value).ownBlock ∧ some k_ ≠ ((.slice Ao41 t215.length co41) : Value).ownBlock ∧ some k_ ≠ ((.slice Ao42 t218.length co42) : Value).ownBlock) (.slice Ao32 t232.length co32) t232) ∧ Aside0 (Kd.R (Kd.int .u8) 5 wc w.heap.size (fun k_ => some k_ ≠ ((.slice Ao23 t200.length co23) : Value).ownBlock ∧ some k_ ≠ ((.slice Ao24 t203.length co24) : Value).ownBlock ∧ some k_ ≠ ((.slice Ao28 t231.length co28) : Value).ownBlock ∧ some k_ ≠ ((.slice Ao32 t232.length co32) : Value).ownBlock ∧ some k_ ≠ ((.slice Ao42 t218.length co42) : Value).ownBlock) (.slice Ao41 t215.length co41) t235) ∧ Aside0 (Kd.R (Kd.int .u8) 5 wc w.heap.size (fun k_ => some k_ ≠ ((.slice Ao23 t200.length co23) : Value).ownBlock ∧ some k_ ≠ ((.slice Ao24 t203.length co24) : Value).ownBlock ∧ some k_ ≠ ((.slice Ao28 t231.length co28) : Value).ownBlock ∧ some k_ ≠ ((.slice Ao32 t232.length co32) : Value).ownBlock ∧ some k_ ≠ ((.slice Ao41 t215.length co41) : Value).ownBlock) (.slice Ao42 t218.length co42) t236) ∧ Aside0 (wc.heap[gb191]? = some (.cells #[(.slice A0_0 l0_0.length c0_0), (.slice A0_1 l0_1.length c0_1)] 24 (0, 0))) ∧ Aside0 (wc.heap[gb206]? = some (.cells #[.int .i64 t199, (.slice Ao23 t200.length co23), (.slice Ao24 t203.length co24)] 46 (0, 0))) ∧ Aside0 (wc.heap[gb213]? = some (.cells #[(.slice Ao28 t231.length co28), (.slice Ao32 t232.length co32)] 27 (0, 0))) ∧ Aside0 (wc.heap[gb221]? = some (.cells #[.int .i64 t214, (.slice Ao41 t215.length co41), (.slice Ao42 t218.length co42)] 46 (0, 0))) ∧ Aside0 (Below w.heap.size w wc))
                      case first =>
                        have H := HC76.out
                        clear HC76
                        by_cases c84 : t237 < 0
                        · rw [if_pos c84] at H
                          have c84b0 : decide (t237 < 0) = true := decide_eq_true c84
                          clear c84
                          (first | rw [c84b0] | (simp only [i64_w, i32_w]; rw [c84b0]) | skip)
                          obtain rfl := Option.some.inj H
                          go_wp2
                          go_ret
                          exact ⟨by first | rfl | (simp [errW_none, errW_some] <;> rfl) | (simp [*, errW_none, errW_some] <;> rfl), by repeat (first | (with_reducible first | exact HB.out | apply below_alloc | apply pw_below_drewN | apply below_drew1 | refine below_set ?_ GE191.out | refine below_set ?_ GE206.out | refine below_set ?_ GE213.out | refine below_set ?_ GE221.out) | exact HB.out)⟩
                        · rw [if_neg c84] at H
                          have c84b0 : decide (t237 < 0) = false := decide_eq_false c84
                          clear c84
                          (first | rw [c84b0] | (simp only [i64_w, i32_w]; rw [c84b0]) | skip)
                          have H' := Aside0.mk H
                          clear H
                          go_wp2
                          go_meet
                          case rel => exact ⟨_, H', ⟨by have := HJ3.out; have := HJ13.out; have := HJ47.out; have := HJ55.out; have := HJ71.out; first | omega | exact Nat.le_refl _⟩, ⟨by (try simp only [hl214000_55]); (try simp only [hl214001_55]); (with_reducible repeat (first | apply Kd.R_alloc | apply Kd.R_drewN | apply Kd.R_drew)); exact HO_207001.out⟩, ⟨by (try simp only [hl214000_55]); (try simp only [hl214001_55]); (with_reducible repeat (first | apply Kd.R_alloc | apply Kd.R_drewN | apply Kd.R_drew)); exact HO_207002.out⟩, ⟨by (try simp only [hl214000_55]); (try simp only [hl214001_55]); (with_reducible repeat (first | apply Kd.R_alloc | apply Kd.R_drewN | apply Kd.R_drew)); exact HO_214000.out⟩, ⟨by (try simp only [hl214000_55]); (try simp only [hl214001_55]); (with_reducible repeat (first | apply Kd.R_alloc | apply Kd.R_drewN | apply Kd.R_drew)); exact HO_214001.out⟩, ⟨by (try simp only [hl214000_55]); (try simp only [hl214001_55]); (with_reducible repeat (first | apply Kd.R_alloc | apply Kd.R_drewN | apply Kd.R_drew)); exact HO_222001.out⟩, ⟨by (try simp only [hl214000_55]); (try simp only [hl214001_55]); (with_reducible repeat (first | apply Kd.R_alloc | apply Kd.R_drewN | apply Kd.R_drew)); exact HO_222002.out⟩, ⟨by (try simp only [hl214000_55]); (try simp only [hl214001_55]); (with_reducible repeat (first | refine blk_drewN ?_ _ | refine blk_drew ?_ | refine blk_alloc ?_ _)); exact BK191.out⟩, ⟨by (try simp only [hl214000_55]); (try simp only [hl214001_55]); (with_reducible repeat (first | refine blk_drewN ?_ _ | refine blk_drew ?_ | refine blk_alloc ?_ _)); exact BK206.out⟩, ⟨by (try simp only [hl214000_55]); (try simp only [hl214001_55]); (with_reducible repeat (first | refine blk_drewN ?_ _ | refine blk_drew ?_ | refine blk_alloc ?_ _)); exact BK213.out⟩, ⟨by (try simp only [hl214000_55]); (try simp only [hl214001_55]); (with_reducible repeat (first | refine blk_drewN ?_ _ | refine blk_drew ?_ | refine blk_alloc ?_ _)); exact BK221.out⟩, ⟨by repeat (first | (with_reducible first | exact HB.out | apply below_alloc | apply pw_below_drewN | apply below_drew1 | refine below_set ?_ GE191.out | refine below_set ?_ GE206.out | refine below_set ?_ GE213.out | refine below_set ?_ GE221.out) | exact HB.out)⟩⟩
                      case rest =>
                        clear HC76
                        try clear c1
                        try clear c2
                        try clear p2
                        try clear c3
                        try clear c4
                        try clear c5
                        try clear c6
                        try clear c7
                        try clear c8
                        try clear c8b0
                        try clear c14
                        try clear c16
                        try clear c18
                        try clear c21
                        try clear c29
                        try clear c30
                        try clear c33
                        try clear c34
                        try clear c35
                        try clear c36
                        try clear c37
                        try clear c38
                        try clear c39
                        try clear c41
                        try clear c42
                        try clear c45
                        try clear c54
                        try clear c57
                        try clear c58
                        try clear c59
                        try clear c62
                        try clear c62b0
                        try clear c64
                        try clear c65
                        try clear c66
                        try clear c68
                        try clear c69
                        try clear c73
                        try clear c77
                        try clear c78
                        try clear c79
                        try clear c84
                        try clear c84b0
                        try clear hcz15_0
                        try clear hcz15_1
                        try clear hcz22_0
                        try clear hcz22_1
                        try clear hcz22_2
                        try clear hcz25_0
                        try clear hcz25_1
                        try clear hcz31_0
                        try clear hcz31_1
                        try clear hcz34_0
                        try clear hcz34_1
                        try clear hcz40_0
                        try clear hcz40_1
                        try clear hcz40_2
                        try clear hcz43_0
                        try clear hcz43_1
                        try clear hcz43_2
                        try clear hcz60_0
                        try clear hcz60_1
                        try clear hcz67_0
                        try clear hcz67_1
                        try clear hcz67_2
                        try clear hcz6_0
                        try clear hcz6_1
                        try clear hcz70_0
                        try clear hcz70_1
                        try clear hcz70_2
                        try clear hcz80_0
                        try clear hcz80_1
                        try clear hcz80_2
                        try clear hcz82_0
                        try clear hcz82_1
                        try clear hcz82_2
                        try clear hfz15_0
                        try clear hfz15_1
                        try clear hfz22_0
                        try clear hfz22_1
                        try clear hfz22_2
                        try clear hfz25_0
                        try clear hfz25_1
                        try clear hfz31_0
                        try clear hfz31_1
                        try clear hfz34_0
                        try clear hfz34_1
                        try clear hfz40_0
                        try clear hfz40_1
                        try clear hfz40_2
                        try clear hfz43_0
                        try clear hfz43_1
                        try clear hfz43_2
                        try clear hfz60_0
                        try clear hfz60_1
                        try clear hfz67_0
                        try clear hfz67_1
                        try clear hfz67_2
                        try clear hfz6_0
                        try clear hfz6_1
                        try clear hfz70_0
                        try clear hfz70_1
                        try clear hfz70_2
                        try clear hfz80_0
                        try clear hfz80_1
                        try clear hfz80_2
                        try clear hfz82_0
                        try clear hfz82_1
                        try clear hfz82_2
                        try clear p2
                        obtain ⟨kq, HA, HJ75, HO_207001, HO_207002, HO_214000, HO_214001, HO_222001, HO_222002, BK191, BK206, BK213, BK221, HB⟩ := hcut
                        have hl222001_75 := (Kd.R_reads' HO_222001.out).1
                        rw [hl222001_75] at HO_222001
                        (try simp only [hl222001_75])
                        (try simp only [hl222001_75] at BK191)
                        (try simp only [hl222001_75] at BK206)
                        (try simp only [hl222001_75] at BK213)
                        (try simp only [hl222001_75] at BK221)
                        (try simp only [hl222001_75] at HO_207001)
                        (try simp only [hl222001_75] at HO_207002)
                        (try simp only [hl222001_75] at HO_214000)
                        (try simp only [hl222001_75] at HO_214001)
                        (try simp only [hl222001_75] at HO_222002)
                        have hl222002_75 := (Kd.R_reads' HO_222002.out).1
                        rw [hl222002_75] at HO_222002
                        (try simp only [hl222002_75])
                        (try simp only [hl222002_75] at BK191)
                        (try simp only [hl222002_75] at BK206)
                        (try simp only [hl222002_75] at BK213)
                        (try simp only [hl222002_75] at BK221)
                        (try simp only [hl222002_75] at HO_207001)
                        (try simp only [hl222002_75] at HO_207002)
                        (try simp only [hl222002_75] at HO_214000)
                        (try simp only [hl222002_75] at HO_214001)
                        (try simp only [hl222002_75] at HO_222001)
                        cases kq with
                        | zero => exact absurd HA.out (by simp [laws_FnExactCrashLog.j5])
                        | succ kj75 =>
                          have H := HA.out
                          clear HA
                          simp only [laws_FnExactCrashLog.j5] at H
                          have HC85 := Aside0.mk H
                          clear H
                          go_upto_if 57 with (fail)
                          go_cut [] (fun wc => ∃ (kq : Nat), Aside0 (laws_FnExactCrashLog.j6 kq a1 t234 l0_0 l0_1 t199 t200 t203 t214 t235 t236 = some r) ∧ Aside0 (kq ≤ kj75) ∧ Aside0 (Kd.R (Kd.int .u8) 5 wc w.heap.size (fun k_ => some k_ ≠ ((.slice Ao24 t203.length co24) : Value).ownBlock ∧ some k_ ≠ ((.slice Ao28 t231.length co28) : Value).ownBlock ∧ some k_ ≠ ((.slice Ao32 t232.length co32) : Value).ownBlock ∧ some k_ ≠ ((.slice Ao41 t235.length co41) : Value).ownBlock ∧ some k_ ≠ ((.slice Ao42 t236.length co42) : Value).ownBlock) (.slice Ao23 t200.length co23) t200) ∧ Aside0 (Kd.R (Kd.int .u8) 5 wc w.heap.size (fun k_ => some k_ ≠ ((.slice Ao23 t200.length co23) : Value).ownBlock ∧ some k_ ≠ ((.slice Ao28 t231.length co28) : Value).ownBlock ∧ some k_ ≠ ((.slice Ao32 t232.length co32) : Value).ownBlock ∧ some k_ ≠ ((.slice Ao41 t235.length co41) : Value).ownBlock ∧ some k_ ≠ ((.slice Ao42 t236.length co42) : Value).ownBlock) (.slice Ao24 t203.length co24) t203) ∧ Aside0 (Kd.R (Kd.int .u8) 5 wc w.heap.size (fun k_ => some k_ ≠ ((.slice Ao23 t200.length co23) : Value).ownBlock ∧ some k_ ≠ ((.slice Ao24 t203.length co24) : Value).ownBlock ∧ some k_ ≠ ((.slice Ao32 t232.length co32) : Value).ownBlock ∧ some k_ ≠ ((.slice Ao41 t235.length co41) : Value).ownBlock ∧ some k_ ≠ ((.slice Ao42 t236.length co42) : Value).ownBlock) (.slice Ao28 t231.length co28) t231) ∧ Aside0 (Kd.R (Kd.int .u8) 5 wc w.heap.size (fun k_ => some k_ ≠ ((.slice Ao23 t200.length co23) : Value).ownBlock ∧ some k_ ≠ ((.slice Ao24 t203.length co24) : Value).ownBlock ∧ some k_ ≠ ((.slice Ao28 t231.length co28) : Value).ownBlock ∧ some k_ ≠ ((.slice Ao41 t235.length co41) : Value).ownBlock ∧ some k_ ≠ ((.slice Ao42 t236.length co42) : Value).ownBlock) (.slice Ao32 t232.length co32) t232) ∧ Aside0 (Kd.R (Kd.int .u8) 5 wc w.heap.size (fun k_ => some k_ ≠ ((.slice Ao23 t200.length co23) : Value).ownBlock ∧ some k_ ≠ ((.slice Ao24 t203.length co24) : Value).ownBlock ∧ some k_ ≠ ((.slice Ao28 t231.length co28) : Value).ownBlock ∧ some k_ ≠ ((.slice Ao32 t232.length co32) : Value).ownBlock ∧ some k_ ≠ ((.slice Ao42 t236.length co42) : Value).ownBlock) (.slice Ao41 t235.length co41) t235) ∧ Aside0 (Kd.R (Kd.int .u8) 5 wc w.heap.size (fun k_ => some k_ ≠ ((.slice Ao23 t200.length co23) : Value).ownBlock ∧ some k_ ≠ ((.slice Ao24 t203.length co24) : Value).ownBlock ∧ some k_ ≠ ((.slice Ao28 t231.length co28) : Value).ownBlock ∧ some k_ ≠ ((.slice Ao32 t232.length co32) : Value).ownBlock ∧ some k_ ≠ ((.slice Ao41 t235.length co41) : Value).ownBlock) (.slice Ao42 t236.length co42) t236) ∧ Aside0 (wc.heap[gb191]? = some (.cells #[(.slice A0_0 l0_0.length c0_0), (.slice A0_1 l0_1.length c0_1)] 24 (0, 0))) ∧ Aside0 (wc.heap[gb206]? = some (.cells #[.int .i64 t199, (.slice Ao23 t200.length co23), (.slice Ao24 t203.length co24)] 46 (0, 0))) ∧ Aside0 (wc.heap[gb213]? = some (.cells #[(.slice Ao28 t231.length co28), (.slice Ao32 t232.length co32)] 27 (0, 0))) ∧ Aside0 (wc.heap[gb221]? = some (.cells #[.int .i64 t214, (.slice Ao41 t235.length co41), (.slice Ao42 t236.length co42)] 46 (0, 0))) ∧ Aside0 (Below w.heap.size w wc))
                          case first =>
                            have H := HC85.out
                            clear HC85
                            by_cases c86 : t237 = t234
                            · rw [if_pos c86] at H
                              have c86b0 : (t237 == t234) = true := beq_iff_eq.mpr c86
                              have c86b1 : (t237 != t234) = false := bne_eq_false_iff_eq.mpr c86
                              clear c86
                              (first | rw [c86b0] | (simp only [i64_w, i32_w]; rw [c86b0]) | skip)
                              have H' := Aside0.mk H
                              clear H
                              go_wp2
                              go_meet
                              case rel => exact ⟨_, H', ⟨by have := HJ3.out; have := HJ13.out; have := HJ47.out; have := HJ55.out; have := HJ71.out; have := HJ75.out; first | omega | exact Nat.le_refl _⟩, ⟨by (try simp only [hl214000_55]); (try simp only [hl214001_55]); (try simp only [hl222001_75]); (try simp only [hl222002_75]); (with_reducible repeat (first | apply Kd.R_alloc | apply Kd.R_drewN | apply Kd.R_drew)); exact HO_207001.out⟩, ⟨by (try simp only [hl214000_55]); (try simp only [hl214001_55]); (try simp only [hl222001_75]); (try simp only [hl222002_75]); (with_reducible repeat (first | apply Kd.R_alloc | apply Kd.R_drewN | apply Kd.R_drew)); exact HO_207002.out⟩, ⟨by (try simp only [hl214000_55]); (try simp only [hl214001_55]); (try simp only [hl222001_75]); (try simp only [hl222002_75]); (with_reducible repeat (first | apply Kd.R_alloc | apply Kd.R_drewN | apply Kd.R_drew)); exact HO_214000.out⟩, ⟨by (try simp only [hl214000_55]); (try simp only [hl214001_55]); (try simp only [hl222001_75]); (try simp only [hl222002_75]); (with_reducible repeat (first | apply Kd.R_alloc | apply Kd.R_drewN | apply Kd.R_drew)); exact HO_214001.out⟩, ⟨by (try simp only [hl214000_55]); (try simp only [hl214001_55]); (try simp only [hl222001_75]); (try simp only [hl222002_75]); (with_reducible repeat (first | apply Kd.R_alloc | apply Kd.R_drewN | apply Kd.R_drew)); exact HO_222001.out⟩, ⟨by (try simp only [hl214000_55]); (try simp only [hl214001_55]); (try simp only [hl222001_75]); (try simp only [hl222002_75]); (with_reducible repeat (first | apply Kd.R_alloc | apply Kd.R_drewN | apply Kd.R_drew)); exact HO_222002.out⟩, ⟨by (try simp only [hl214000_55]); (try simp only [hl214001_55]); (try simp only [hl222001_75]); (try simp only [hl222002_75]); (with_reducible repeat (first | refine blk_drewN ?_ _ | refine blk_drew ?_ | refine blk_alloc ?_ _)); exact BK191.out⟩, ⟨by (try simp only [hl214000_55]); (try simp only [hl214001_55]); (try simp only [hl222001_75]); (try simp only [hl222002_75]); (with_reducible repeat (first | refine blk_drewN ?_ _ | refine blk_drew ?_ | refine blk_alloc ?_ _)); exact BK206.out⟩, ⟨by (try simp only [hl214000_55]); (try simp only [hl214001_55]); (try simp only [hl222001_75]); (try simp only [hl222002_75]); (with_reducible repeat (first | refine blk_drewN ?_ _ | refine blk_drew ?_ | refine blk_alloc ?_ _)); exact BK213.out⟩, ⟨by (try simp only [hl214000_55]); (try simp only [hl214001_55]); (try simp only [hl222001_75]); (try simp only [hl222002_75]); (with_reducible repeat (first | refine blk_drewN ?_ _ | refine blk_drew ?_ | refine blk_alloc ?_ _)); exact BK221.out⟩, ⟨by repeat (first | (with_reducible first | exact HB.out | apply below_alloc | apply pw_below_drewN | apply below_drew1 | refine below_set ?_ GE191.out | refine below_set ?_ GE206.out | refine below_set ?_ GE213.out | refine below_set ?_ GE221.out) | exact HB.out)⟩⟩
                            · rw [if_neg c86] at H
                              have c86b0 : (t237 == t234) = false := beq_eq_false_iff_ne.mpr c86
                              have c86b1 : (t237 != t234) = true := bne_iff_ne.mpr c86
                              (first | rw [c86b0] | (simp only [i64_w, i32_w]; rw [c86b0]) | skip)
                              obtain rfl := Option.some.inj H
                              go_wp2
                              go_ret
                              exact ⟨by first | rfl | (simp [errW_none, errW_some] <;> rfl) | (simp [*, errW_none, errW_some] <;> rfl), by repeat (first | (with_reducible first | exact HB.out | apply below_alloc | apply pw_below_drewN | apply below_drew1 | refine below_set ?_ GE191.out | refine below_set ?_ GE206.out | refine below_set ?_ GE213.out | refine below_set ?_ GE221.out) | exact HB.out)⟩
                          case rest =>
                            clear HC85
                            try clear c1
                            try clear c2
                            try clear p2
                            try clear c3
                            try clear c4
                            try clear c5
                            try clear c6
                            try clear c7
                            try clear c8
                            try clear c8b0
                            try clear c14
                            try clear c16
                            try clear c18
                            try clear c21
                            try clear c29
                            try clear c30
                            try clear c33
                            try clear c34
                            try clear c35
                            try clear c36
                            try clear c37
                            try clear c38
                            try clear c39
                            try clear c41
                            try clear c42
                            try clear c45
                            try clear c54
                            try clear c57
                            try clear c58
                            try clear c59
                            try clear c62
                            try clear c62b0
                            try clear c64
                            try clear c65
                            try clear c66
                            try clear c68
                            try clear c69
                            try clear c73
                            try clear c77
                            try clear c78
                            try clear c79
                            try clear c84
                            try clear c84b0
                            try clear c86
                            try clear c86b0
                            try clear c86b1
                            try clear hcz15_0
                            try clear hcz15_1
                            try clear hcz22_0
                            try clear hcz22_1
                            try clear hcz22_2
                            try clear hcz25_0
                            try clear hcz25_1
                            try clear hcz31_0
                            try clear hcz31_1
                            try clear hcz34_0
                            try clear hcz34_1
                            try clear hcz40_0
                            try clear hcz40_1
                            try clear hcz40_2
                            try clear hcz43_0
                            try clear hcz43_1
                            try clear hcz43_2
                            try clear hcz60_0
                            try clear hcz60_1
                            try clear hcz67_0
                            try clear hcz67_1
                            try clear hcz67_2
                            try clear hcz6_0
                            try clear hcz6_1
                            try clear hcz70_0
                            try clear hcz70_1
                            try clear hcz70_2
                            try clear hcz80_0
                            try clear hcz80_1
                            try clear hcz80_2
                            try clear hcz82_0
                            try clear hcz82_1
                            try clear hcz82_2
                            try clear hfz15_0
                            try clear hfz15_1
                            try clear hfz22_0
                            try clear hfz22_1
                            try clear hfz22_2
                            try clear hfz25_0
                            try clear hfz25_1
                            try clear hfz31_0
                            try clear hfz31_1
                            try clear hfz34_0
                            try clear hfz34_1
                            try clear hfz40_0
                            try clear hfz40_1
                            try clear hfz40_2
                            try clear hfz43_0
                            try clear hfz43_1
                            try clear hfz43_2
                            try clear hfz60_0
                            try clear hfz60_1
                            try clear hfz67_0
                            try clear hfz67_1
                            try clear hfz67_2
                            try clear hfz6_0
                            try clear hfz6_1
                            try clear hfz70_0
                            try clear hfz70_1
                            try clear hfz70_2
                            try clear hfz80_0
                            try clear hfz80_1
                            try clear hfz80_2
                            try clear hfz82_0
                            try clear hfz82_1
                            try clear hfz82_2
                            try clear p2
                            obtain ⟨kq, HA, HJ84, HO_207001, HO_207002, HO_214000, HO_214001, HO_222001, HO_222002, BK191, BK206, BK213, BK221, HB⟩ := hcut
                            cases kq with
                            | zero => exact absurd HA.out (by simp [laws_FnExactCrashLog.j6])
                            | succ kj84 =>
                              have H := HA.out
                              clear HA
                              simp only [laws_FnExactCrashLog.j6] at H
                              replace H := Option.bind_eq_some_iff.mp H
                              obtain ⟨⟨t238, t241⟩, A870, H⟩ := H
                              replace H : ((impl_CrashLog.f kj84 t238 t241 a1).bind fun bt244 => ((laws_eqLogResult.f kj84 bt244.1 bt244.2.1 bt244.2.2 t199 t200 t203).bind fun t252 => (if t252 = true then (laws_FnExactCrashLog.j7 kj84 t234 t214 t235 t236) else (some false)))) = some r := H
                              have A87 := Aside0.mk A870
                              clear A870
                              replace H := Option.bind_eq_some_iff.mp H
                              obtain ⟨⟨t244, t245, t248⟩, A880, H⟩ := H
                              replace H : ((laws_eqLogResult.f kj84 t244 t245 t248 t199 t200 t203).bind fun t252 => (if t252 = true then (laws_FnExactCrashLog.j7 kj84 t234 t214 t235 t236) else (some false))) = some r := H
                              have A88 := Aside0.mk A880
                              clear A880
                              replace H := Option.bind_eq_some_iff.mp H
                              obtain ⟨t252, A890, H⟩ := H
                              replace H : (if t252 = true then (laws_FnExactCrashLog.j7 kj84 t234 t214 t235 t236) else (some false)) = some r := H
                              have A89 := Aside0.mk A890
                              clear A890
                              have HC90 := Aside0.mk H
                              clear H
                              have hnb91 := NB191_206.out
                              have hnc91 := NB206_191.out
                              have hnb92 := NB191_213.out
                              have hnc92 := NB213_191.out
                              have hnb93 := NB191_221.out
                              have hnc93 := NB221_191.out
                              have hcz94_0 : wc.cell? ⟨gb191, 0, none⟩ = some (.slice A0_0 l0_0.length c0_0) := (blk_cell BK191.out 0).trans rfl
                              have hcz94_1 : wc.cell? ⟨gb191, 1, none⟩ = some (.slice A0_1 l0_1.length c0_1) := (blk_cell BK191.out 1).trans rfl
                              have hfz94_0 := blk_frozen BK191.out 0
                              have hfz94_1 := blk_frozen BK191.out 1
                              go_upto_if 65 with (first | ((with_reducible refine gate_callee (f := 16) rfl ?_); refine goesL_ (some 59) rfl rfl Try.func16 (by kernel_rfl) rfl #[.agg #[.slice A0_0 l0_0.length c0_0, .slice A0_1 l0_1.length c0_1]] rfl (by (try simp only [List.map_toArray, List.map_cons, List.map_nil]); first | done | rfl | (simp only [List.length_drop, List.length_take]; rfl)) ?_; (with_reducible refine (laws_toLog.calls kj84 _ _ l0_0 _ _ l0_1 t238 t241 _ ?side1 ?side2 ?side3 ?side4 A87.out).mono ?_); (case side1 => repeat (first | exact (Kd.C_below HR0_0.out HB.out) | (with_reducible refine Kd.C_alloc ?_ _) | (with_reducible refine Kd.C_drewN ?_ _) | (with_reducible refine Kd.C_drew ?_))); (case side2 => exact HC0_0.out); (case side3 => repeat (first | exact (Kd.C_below HR0_1.out HB.out) | (with_reducible refine Kd.C_alloc ?_ _) | (with_reducible refine Kd.C_drewN ?_ _) | (with_reducible refine Kd.C_drew ?_))); (case side4 => exact HC0_1.out); rintro e w95 ⟨v239, v242, rfl, ho0, ho1, hb⟩; refine ⟨_, rfl, ?_⟩; have n0_ := Aside0.mk (Kd.R_mono (Kd.R_told (Kd.R_told (Kd.R_old (by (with_reducible repeat (first | apply Kd.R_alloc | apply Kd.R_drewN | apply Kd.R_drew)); exact HO_207001.out) hb) (Kd.R_base ho0)) (Kd.R_base ho1)) (fun _ h_ => h_.1)); have n1_ := Aside0.mk (Kd.R_mono (Kd.R_told (Kd.R_told (Kd.R_old (by (with_reducible repeat (first | apply Kd.R_alloc | apply Kd.R_drewN | apply Kd.R_drew)); exact HO_207002.out) hb) (Kd.R_base ho0)) (Kd.R_base ho1)) (fun _ h_ => h_.1)); have n2_ := Aside0.mk (Kd.R_mono (Kd.R_told (Kd.R_told (Kd.R_old (by (with_reducible repeat (first | apply Kd.R_alloc | apply Kd.R_drewN | apply Kd.R_drew)); exact HO_214000.out) hb) (Kd.R_base ho0)) (Kd.R_base ho1)) (fun _ h_ => h_.1)); have n3_ := Aside0.mk (Kd.R_mono (Kd.R_told (Kd.R_told (Kd.R_old (by (with_reducible repeat (first | apply Kd.R_alloc | apply Kd.R_drewN | apply Kd.R_drew)); exact HO_214001.out) hb) (Kd.R_base ho0)) (Kd.R_base ho1)) (fun _ h_ => h_.1)); have n4_ := Aside0.mk (Kd.R_mono (Kd.R_told (Kd.R_told (Kd.R_old (by (with_reducible repeat (first | apply Kd.R_alloc | apply Kd.R_drewN | apply Kd.R_drew)); exact HO_222001.out) hb) (Kd.R_base ho0)) (Kd.R_base ho1)) (fun _ h_ => h_.1)); have n5_ := Aside0.mk (Kd.R_mono (Kd.R_told (Kd.R_told (Kd.R_old (by (with_reducible repeat (first | apply Kd.R_alloc | apply Kd.R_drewN | apply Kd.R_drew)); exact HO_222002.out) hb) (Kd.R_base ho0)) (Kd.R_base ho1)) (fun _ h_ => h_.1)); have n6_ := Aside0.mk (Kd.R_lower (Kd.R_new' (Kd.R_new' (Kd.R_new' (Kd.R_new' (Kd.R_new' (Kd.R_new' ho0 (Kd.R_lt (by (with_reducible repeat (first | apply Kd.R_alloc | apply Kd.R_drewN | apply Kd.R_drew)); exact HO_207001.out))) (Kd.R_lt (by (with_reducible repeat (first | apply Kd.R_alloc | apply Kd.R_drewN | apply Kd.R_drew)); exact HO_207002.out))) (Kd.R_lt (by (with_reducible repeat (first | apply Kd.R_alloc | apply Kd.R_drewN | apply Kd.R_drew)); exact HO_214000.out))) (Kd.R_lt (by (with_reducible repeat (first | apply Kd.R_alloc | apply Kd.R_drewN | apply Kd.R_drew)); exact HO_214001.out))) (Kd.R_lt (by (with_reducible repeat (first | apply Kd.R_alloc | apply Kd.R_drewN | apply Kd.R_drew)); exact HO_222001.out))) (Kd.R_lt (by (with_reducible repeat (first | apply Kd.R_alloc | apply Kd.R_drewN | apply Kd.R_drew)); exact HO_222002.out))) (below_size (by repeat (first | (with_reducible first | exact HB.out | apply below_alloc | apply pw_below_drewN | apply below_drew1 | refine below_set ?_ GE191.out | refine below_set ?_ GE206.out | refine below_set ?_ GE213.out | refine below_set ?_ GE221.out) | exact HB.out)))); have n7_ := Aside0.mk (Kd.R_lower (Kd.R_new' (Kd.R_new' (Kd.R_new' (Kd.R_new' (Kd.R_new' (Kd.R_new' ho1 (Kd.R_lt (by (with_reducible repeat (first | apply Kd.R_alloc | apply Kd.R_drewN | apply Kd.R_drew)); exact HO_207001.out))) (Kd.R_lt (by (with_reducible repeat (first | apply Kd.R_alloc | apply Kd.R_drewN | apply Kd.R_drew)); exact HO_207002.out))) (Kd.R_lt (by (with_reducible repeat (first | apply Kd.R_alloc | apply Kd.R_drewN | apply Kd.R_drew)); exact HO_214000.out))) (Kd.R_lt (by (with_reducible repeat (first | apply Kd.R_alloc | apply Kd.R_drewN | apply Kd.R_drew)); exact HO_214001.out))) (Kd.R_lt (by (with_reducible repeat (first | apply Kd.R_alloc | apply Kd.R_drewN | apply Kd.R_drew)); exact HO_222001.out))) (Kd.R_lt (by (with_reducible repeat (first | apply Kd.R_alloc | apply Kd.R_drewN | apply Kd.R_drew)); exact HO_222002.out))) (below_size (by repeat (first | (with_reducible first | exact HB.out | apply below_alloc | apply pw_below_drewN | apply below_drew1 | refine below_set ?_ GE191.out | refine below_set ?_ GE206.out | refine below_set ?_ GE213.out | refine below_set ?_ GE221.out) | exact HB.out)))); have n8_ := Aside0.mk (blk_below (g := gb191) (o := .cells #[.slice A0_0 l0_0.length c0_0, .slice A0_1 l0_1.length c0_1] 24 (0, 0)) (by (with_reducible repeat (first | refine blk_drewN ?_ _ | refine blk_drew ?_ | refine blk_alloc ?_ _)); exact BK191.out) hb); have n9_ := Aside0.mk (blk_below (g := gb206) (o := .cells #[.int .i64 t199, .slice Ao23 t200.length co23, .slice Ao24 t203.length co24] 46 (0, 0)) (by (with_reducible repeat (first | refine blk_drewN ?_ _ | refine blk_drew ?_ | refine blk_alloc ?_ _)); exact BK206.out) hb); have n10_ := Aside0.mk (blk_below (g := gb213) (o := .cells #[.slice Ao28 t231.length co28, .slice Ao32 t232.length co32] 27 (0, 0)) (by (with_reducible repeat (first | refine blk_drewN ?_ _ | refine blk_drew ?_ | refine blk_alloc ?_ _)); exact BK213.out) hb); have n11_ := Aside0.mk (blk_below (g := gb221) (o := .cells #[.int .i64 t214, .slice Ao41 t235.length co41, .slice Ao42 t236.length co42] 46 (0, 0)) (by (with_reducible repeat (first | refine blk_drewN ?_ _ | refine blk_drew ?_ | refine blk_alloc ?_ _)); exact BK221.out) hb); have n12_ := Aside0.mk (below_step (by repeat (first | (with_reducible first | exact HB.out | apply below_alloc | apply pw_below_drewN | apply below_drew1 | refine below_set ?_ GE191.out | refine below_set ?_ GE206.out | refine below_set ?_ GE213.out | refine below_set ?_ GE221.out) | exact HB.out)) hb); clear HO_207001; clear HO_207002; clear HO_214000; clear HO_214001; clear HO_222001; clear HO_222002; clear BK191; clear BK206; clear BK213; clear BK221; clear HB; have HO_207001 := n0_; have HO_207002 := n1_; have HO_214000 := n2_; have HO_214001 := n3_; have HO_222001 := n4_; have HO_222002 := n5_; have HO240 := n6_; have HO243 := n7_; have BK191 := n8_; have BK206 := n9_; have BK213 := n10_; have BK221 := n11_; have HB := n12_; clear n0_ n1_ n2_ n3_ n4_ n5_ n6_ n7_ n8_ n9_ n10_ n11_ n12_; (try clear hb); (try clear hb2); (try clear hk); (try clear hi); (try clear ho0); (try clear ho1); obtain ⟨Ao96, co96, eo96⟩ := Kd.R_slice HO240.out; subst eo96; obtain ⟨Ao97, co97, eo97⟩ := Kd.R_slice HO243.out; subst eo97) | ((with_reducible refine gate_callee (f := 42) rfl ?_); refine goesL_ (some 61) rfl rfl Try.func42 (by kernel_rfl) rfl #[.agg #[.slice Ao96 t238.length co96, .slice Ao97 t241.length co97], .int .i64 a1] rfl (by (try simp only [List.map_toArray, List.map_cons, List.map_nil]); first | done | rfl | (simp only [List.length_drop, List.length_take]; rfl)) ?_; (with_reducible refine (impl_CrashLog.calls kj84 (fun k_ => some k_ = (.slice Ao96 t238.length co96 : Value).ownBlock) _ _ t238 (fun k_ => some k_ = (.slice Ao97 t241.length co97 : Value).ownBlock) _ _ t241 a1 t244 t245 t248 _ ?side1 ?side2 A88.out).mono ?_); (case side1 => exact Kd.R_V (Kd.R_tight rfl (Kd.R_types (Kd.R_types (Kd.R_types (Kd.R_types (HO240.out) BK191.out (by decide)) BK206.out (by decide)) BK213.out (by decide)) BK221.out (by decide)))); (case side2 => exact Kd.R_V (Kd.R_tight rfl (Kd.R_types (Kd.R_types (Kd.R_types (Kd.R_types (HO243.out) BK191.out (by decide)) BK206.out (by decide)) BK213.out (by decide)) BK221.out (by decide)))); rintro e w98 ⟨v246, v249, rfl, ho0, ho1, hb⟩; refine ⟨_, rfl, ?_⟩; have n0_ := Aside0.mk (Kd.R_mono (Kd.R_told (Kd.R_told (Kd.R_old (by (with_reducible repeat (first | apply Kd.R_alloc | apply Kd.R_drewN | apply Kd.R_drew)); exact HO_207001.out) hb) (Kd.R_base ho0)) (Kd.R_base ho1)) (fun _ h_ => h_.1)); have n1_ := Aside0.mk (Kd.R_mono (Kd.R_told (Kd.R_told (Kd.R_old (by (with_reducible repeat (first | apply Kd.R_alloc | apply Kd.R_drewN | apply Kd.R_drew)); exact HO_207002.out) hb) (Kd.R_base ho0)) (Kd.R_base ho1)) (fun _ h_ => h_.1)); have n2_ := Aside0.mk (Kd.R_mono (Kd.R_told (Kd.R_told (Kd.R_old (by (with_reducible repeat (first | apply Kd.R_alloc | apply Kd.R_drewN | apply Kd.R_drew)); exact HO_214000.out) hb) (Kd.R_base ho0)) (Kd.R_base ho1)) (fun _ h_ => h_.1)); have n3_ := Aside0.mk (Kd.R_mono (Kd.R_told (Kd.R_told (Kd.R_old (by (with_reducible repeat (first | apply Kd.R_alloc | apply Kd.R_drewN | apply Kd.R_drew)); exact HO_214001.out) hb) (Kd.R_base ho0)) (Kd.R_base ho1)) (fun _ h_ => h_.1)); have n4_ := Aside0.mk (Kd.R_mono (Kd.R_told (Kd.R_told (Kd.R_old (by (with_reducible repeat (first | apply Kd.R_alloc | apply Kd.R_drewN | apply Kd.R_drew)); exact HO_222001.out) hb) (Kd.R_base ho0)) (Kd.R_base ho1)) (fun _ h_ => h_.1)); have n5_ := Aside0.mk (Kd.R_mono (Kd.R_told (Kd.R_told (Kd.R_old (by (with_reducible repeat (first | apply Kd.R_alloc | apply Kd.R_drewN | apply Kd.R_drew)); exact HO_222002.out) hb) (Kd.R_base ho0)) (Kd.R_base ho1)) (fun _ h_ => h_.1)); have n6_ := Aside0.mk (Kd.R_mono (Kd.R_told (Kd.R_told (Kd.R_old (by (with_reducible repeat (first | apply Kd.R_alloc | apply Kd.R_drewN | apply Kd.R_drew)); exact HO240.out) hb) (Kd.R_base ho0)) (Kd.R_base ho1)) (fun _ h_ => h_.1)); have n7_ := Aside0.mk (Kd.R_mono (Kd.R_told (Kd.R_told (Kd.R_old (by (with_reducible repeat (first | apply Kd.R_alloc | apply Kd.R_drewN | apply Kd.R_drew)); exact HO243.out) hb) (Kd.R_base ho0)) (Kd.R_base ho1)) (fun _ h_ => h_.1)); have n8_ := Aside0.mk (Kd.R_lower (Kd.R_new' (Kd.R_new' (Kd.R_new' (Kd.R_new' (Kd.R_new' (Kd.R_new' (Kd.R_new' (Kd.R_new' (Kd.R_mono (ok' := fun k_ => some k_ ≠ (v249 : Value).ownBlock) ho0 (fun _ hk_ => hk_.2)) (Kd.R_lt (by (with_reducible repeat (first | apply Kd.R_alloc | apply Kd.R_drewN | apply Kd.R_drew)); exact HO_207001.out))) (Kd.R_lt (by (with_reducible repeat (first | apply Kd.R_alloc | apply Kd.R_drewN | apply Kd.R_drew)); exact HO_207002.out))) (Kd.R_lt (by (with_reducible repeat (first | apply Kd.R_alloc | apply Kd.R_drewN | apply Kd.R_drew)); exact HO_214000.out))) (Kd.R_lt (by (with_reducible repeat (first | apply Kd.R_alloc | apply Kd.R_drewN | apply Kd.R_drew)); exact HO_214001.out))) (Kd.R_lt (by (with_reducible repeat (first | apply Kd.R_alloc | apply Kd.R_drewN | apply Kd.R_drew)); exact HO_222001.out))) (Kd.R_lt (by (with_reducible repeat (first | apply Kd.R_alloc | apply Kd.R_drewN | apply Kd.R_drew)); exact HO_222002.out))) (Kd.R_lt (by (with_reducible repeat (first | apply Kd.R_alloc | apply Kd.R_drewN | apply Kd.R_drew)); exact HO240.out))) (Kd.R_lt (by (with_reducible repeat (first | apply Kd.R_alloc | apply Kd.R_drewN | apply Kd.R_drew)); exact HO243.out))) (below_size (by repeat (first | (with_reducible first | exact HB.out | apply below_alloc | apply pw_below_drewN | apply below_drew1 | refine below_set ?_ GE191.out | refine below_set ?_ GE206.out | refine below_set ?_ GE213.out | refine below_set ?_ GE221.out) | exact HB.out)))); have n9_ := Aside0.mk (Kd.R_lower (Kd.R_new' (Kd.R_new' (Kd.R_new' (Kd.R_new' (Kd.R_new' (Kd.R_new' (Kd.R_new' (Kd.R_new' (Kd.R_mono (ok' := fun k_ => some k_ ≠ (v246 : Value).ownBlock) ho1 (fun _ hk_ => hk_.2)) (Kd.R_lt (by (with_reducible repeat (first | apply Kd.R_alloc | apply Kd.R_drewN | apply Kd.R_drew)); exact HO_207001.out))) (Kd.R_lt (by (with_reducible repeat (first | apply Kd.R_alloc | apply Kd.R_drewN | apply Kd.R_drew)); exact HO_207002.out))) (Kd.R_lt (by (with_reducible repeat (first | apply Kd.R_alloc | apply Kd.R_drewN | apply Kd.R_drew)); exact HO_214000.out))) (Kd.R_lt (by (with_reducible repeat (first | apply Kd.R_alloc | apply Kd.R_drewN | apply Kd.R_drew)); exact HO_214001.out))) (Kd.R_lt (by (with_reducible repeat (first | apply Kd.R_alloc | apply Kd.R_drewN | apply Kd.R_drew)); exact HO_222001.out))) (Kd.R_lt (by (with_reducible repeat (first | apply Kd.R_alloc | apply Kd.R_drewN | apply Kd.R_drew)); exact HO_222002.out))) (Kd.R_lt (by (with_reducible repeat (first | apply Kd.R_alloc | apply Kd.R_drewN | apply Kd.R_drew)); exact HO240.out))) (Kd.R_lt (by (with_reducible repeat (first | apply Kd.R_alloc | apply Kd.R_drewN | apply Kd.R_drew)); exact HO243.out))) (below_size (by repeat (first | (with_reducible first | exact HB.out | apply below_alloc | apply pw_below_drewN | apply below_drew1 | refine below_set ?_ GE191.out | refine below_set ?_ GE206.out | refine below_set ?_ GE213.out | refine below_set ?_ GE221.out) | exact HB.out)))); have n10_ := Aside0.mk (blk_below (g := gb191) (o := .cells #[.slice A0_0 l0_0.length c0_0, .slice A0_1 l0_1.length c0_1] 24 (0, 0)) (by (with_reducible repeat (first | refine blk_drewN ?_ _ | refine blk_drew ?_ | refine blk_alloc ?_ _)); exact BK191.out) hb); have n11_ := Aside0.mk (blk_below (g := gb206) (o := .cells #[.int .i64 t199, .slice Ao23 t200.length co23, .slice Ao24 t203.length co24] 46 (0, 0)) (by (with_reducible repeat (first | refine blk_drewN ?_ _ | refine blk_drew ?_ | refine blk_alloc ?_ _)); exact BK206.out) hb); have n12_ := Aside0.mk (blk_below (g := gb213) (o := .cells #[.slice Ao28 t231.length co28, .slice Ao32 t232.length co32] 27 (0, 0)) (by (with_reducible repeat (first | refine blk_drewN ?_ _ | refine blk_drew ?_ | refine blk_alloc ?_ _)); exact BK213.out) hb); have n13_ := Aside0.mk (blk_below (g := gb221) (o := .cells #[.int .i64 t214, .slice Ao41 t235.length co41, .slice Ao42 t236.length co42] 46 (0, 0)) (by (with_reducible repeat (first | refine blk_drewN ?_ _ | refine blk_drew ?_ | refine blk_alloc ?_ _)); exact BK221.out) hb); have n14_ := Aside0.mk (below_step (by repeat (first | (with_reducible first | exact HB.out | apply below_alloc | apply pw_below_drewN | apply below_drew1 | refine below_set ?_ GE191.out | refine below_set ?_ GE206.out | refine below_set ?_ GE213.out | refine below_set ?_ GE221.out) | exact HB.out)) hb); clear HO_207001; clear HO_207002; clear HO_214000; clear HO_214001; clear HO_222001; clear HO_222002; clear HO240; clear HO243; clear BK191; clear BK206; clear BK213; clear BK221; clear HB; have HO_207001 := n0_; have HO_207002 := n1_; have HO_214000 := n2_; have HO_214001 := n3_; have HO_222001 := n4_; have HO_222002 := n5_; have HO240 := n6_; have HO243 := n7_; have HO247 := n8_; have HO250 := n9_; have BK191 := n10_; have BK206 := n11_; have BK213 := n12_; have BK221 := n13_; have HB := n14_; clear n0_ n1_ n2_ n3_ n4_ n5_ n6_ n7_ n8_ n9_ n10_ n11_ n12_ n13_ n14_; (try clear hb); (try clear hb2); (try clear hk); (try clear hi); (try clear ho0); (try clear ho1)) | ((with_reducible refine gate_dst (N := 12) rfl ?_); refine box_event ?hg (N := 12) ?hd (cs := #[.int .i64 0, .slice none 0 0, .slice none 0 0]) (t := 46) ?hr ?_; (case hd => rfl); (case hg => rfl); (case hr => first | (go_simp; done) | (go_simp; rfl)); intro gb251 hg w99 hbox hb; have n0_ := Aside0.mk (Kd.R_below (by (with_reducible repeat (first | apply Kd.R_alloc | apply Kd.R_drewN | apply Kd.R_drew)); exact HO_207001.out) hb); have n1_ := Aside0.mk (Kd.R_below (by (with_reducible repeat (first | apply Kd.R_alloc | apply Kd.R_drewN | apply Kd.R_drew)); exact HO_207002.out) hb); have n2_ := Aside0.mk (Kd.R_below (by (with_reducible repeat (first | apply Kd.R_alloc | apply Kd.R_drewN | apply Kd.R_drew)); exact HO_214000.out) hb); have n3_ := Aside0.mk (Kd.R_below (by (with_reducible repeat (first | apply Kd.R_alloc | apply Kd.R_drewN | apply Kd.R_drew)); exact HO_214001.out) hb); have n4_ := Aside0.mk (Kd.R_below (by (with_reducible repeat (first | apply Kd.R_alloc | apply Kd.R_drewN | apply Kd.R_drew)); exact HO_222001.out) hb); have n5_ := Aside0.mk (Kd.R_below (by (with_reducible repeat (first | apply Kd.R_alloc | apply Kd.R_drewN | apply Kd.R_drew)); exact HO_222002.out) hb); have n6_ := Aside0.mk (Kd.R_below (by (with_reducible repeat (first | apply Kd.R_alloc | apply Kd.R_drewN | apply Kd.R_drew)); exact HO240.out) hb); have n7_ := Aside0.mk (Kd.R_below (by (with_reducible repeat (first | apply Kd.R_alloc | apply Kd.R_drewN | apply Kd.R_drew)); exact HO243.out) hb); have n8_ := Aside0.mk (Kd.R_below (by (with_reducible repeat (first | apply Kd.R_alloc | apply Kd.R_drewN | apply Kd.R_drew)); exact HO247.out) hb); have n9_ := Aside0.mk (Kd.R_below (by (with_reducible repeat (first | apply Kd.R_alloc | apply Kd.R_drewN | apply Kd.R_drew)); exact HO250.out) hb); have n10_ := Aside0.mk (blk_below (g := gb191) (o := .cells #[.slice A0_0 l0_0.length c0_0, .slice A0_1 l0_1.length c0_1] 24 (0, 0)) (by (with_reducible repeat (first | refine blk_drewN ?_ _ | refine blk_drew ?_ | refine blk_alloc ?_ _)); exact BK191.out) hb); have n11_ := Aside0.mk (blk_below (g := gb206) (o := .cells #[.int .i64 t199, .slice Ao23 t200.length co23, .slice Ao24 t203.length co24] 46 (0, 0)) (by (with_reducible repeat (first | refine blk_drewN ?_ _ | refine blk_drew ?_ | refine blk_alloc ?_ _)); exact BK206.out) hb); have n12_ := Aside0.mk (blk_below (g := gb213) (o := .cells #[.slice Ao28 t231.length co28, .slice Ao32 t232.length co32] 27 (0, 0)) (by (with_reducible repeat (first | refine blk_drewN ?_ _ | refine blk_drew ?_ | refine blk_alloc ?_ _)); exact BK213.out) hb); have n13_ := Aside0.mk (blk_below (g := gb221) (o := .cells #[.int .i64 t214, .slice Ao41 t235.length co41, .slice Ao42 t236.length co42] 46 (0, 0)) (by (with_reducible repeat (first | refine blk_drewN ?_ _ | refine blk_drew ?_ | refine blk_alloc ?_ _)); exact BK221.out) hb); have n14_ := Aside0.mk (below_step (by repeat (first | (with_reducible first | exact HB.out | apply below_alloc | apply pw_below_drewN | apply below_drew1 | refine below_set ?_ GE191.out | refine below_set ?_ GE206.out | refine below_set ?_ GE213.out | refine below_set ?_ GE221.out) | exact HB.out)) hb); have n15_ := Aside0.mk (hbox); have n16_ := Aside0.mk ((by rw [hg]; exact (below_size (by repeat (first | (with_reducible first | exact HB.out | apply below_alloc | apply pw_below_drewN | apply below_drew1 | refine below_set ?_ GE191.out | refine below_set ?_ GE206.out | refine below_set ?_ GE213.out | refine below_set ?_ GE221.out) | exact HB.out))) : w.heap.size ≤ gb251)); have n17_ := Aside0.mk ((by rw [hg]; exact (below_size (by repeat (first | (with_reducible first | exact HB.out | apply below_alloc | apply pw_below_drewN | apply below_drew1 | refine below_set ?_ GE191.out | refine below_set ?_ GE206.out | refine below_set ?_ GE213.out | refine below_set ?_ GE221.out) | exact HB.out))) : w.heap.size ≤ gb251)); have n18_ := Aside0.mk ((by rw [hg]; exact Nat.ne_of_lt (blk_lt (g := gb191) (o := .cells #[.slice A0_0 l0_0.length c0_0, .slice A0_1 l0_1.length c0_1] 24 (0, 0)) (by (with_reducible repeat (first | refine blk_drewN ?_ _ | refine blk_drew ?_ | refine blk_alloc ?_ _)); exact BK191.out)) : gb191 ≠ gb251)); have n19_ := Aside0.mk ((by rw [hg]; exact Nat.ne_of_gt (blk_lt (g := gb191) (o := .cells #[.slice A0_0 l0_0.length c0_0, .slice A0_1 l0_1.length c0_1] 24 (0, 0)) (by (with_reducible repeat (first | refine blk_drewN ?_ _ | refine blk_drew ?_ | refine blk_alloc ?_ _)); exact BK191.out)) : gb251 ≠ gb191)); have n20_ := Aside0.mk ((by rw [hg]; exact Nat.ne_of_lt (blk_lt (g := gb206) (o := .cells #[.int .i64 t199, .slice Ao23 t200.length co23, .slice Ao24 t203.length co24] 46 (0, 0)) (by (with_reducible repeat (first | refine blk_drewN ?_ _ | refine blk_drew ?_ | refine blk_alloc ?_ _)); exact BK206.out)) : gb206 ≠ gb251)); have n21_ := Aside0.mk ((by rw [hg]; exact Nat.ne_of_gt (blk_lt (g := gb206) (o := .cells #[.int .i64 t199, .slice Ao23 t200.length co23, .slice Ao24 t203.length co24] 46 (0, 0)) (by (with_reducible repeat (first | refine blk_drewN ?_ _ | refine blk_drew ?_ | refine blk_alloc ?_ _)); exact BK206.out)) : gb251 ≠ gb206)); have n22_ := Aside0.mk ((by rw [hg]; exact Nat.ne_of_lt (blk_lt (g := gb213) (o := .cells #[.slice Ao28 t231.length co28, .slice Ao32 t232.length co32] 27 (0, 0)) (by (with_reducible repeat (first | refine blk_drewN ?_ _ | refine blk_drew ?_ | refine blk_alloc ?_ _)); exact BK213.out)) : gb213 ≠ gb251)); have n23_ := Aside0.mk ((by rw [hg]; exact Nat.ne_of_gt (blk_lt (g := gb213) (o := .cells #[.slice Ao28 t231.length co28, .slice Ao32 t232.length co32] 27 (0, 0)) (by (with_reducible repeat (first | refine blk_drewN ?_ _ | refine blk_drew ?_ | refine blk_alloc ?_ _)); exact BK213.out)) : gb251 ≠ gb213)); have n24_ := Aside0.mk ((by rw [hg]; exact Nat.ne_of_lt (blk_lt (g := gb221) (o := .cells #[.int .i64 t214, .slice Ao41 t235.length co41, .slice Ao42 t236.length co42] 46 (0, 0)) (by (with_reducible repeat (first | refine blk_drewN ?_ _ | refine blk_drew ?_ | refine blk_alloc ?_ _)); exact BK221.out)) : gb221 ≠ gb251)); have n25_ := Aside0.mk ((by rw [hg]; exact Nat.ne_of_gt (blk_lt (g := gb221) (o := .cells #[.int .i64 t214, .slice Ao41 t235.length co41, .slice Ao42 t236.length co42] 46 (0, 0)) (by (with_reducible repeat (first | refine blk_drewN ?_ _ | refine blk_drew ?_ | refine blk_alloc ?_ _)); exact BK221.out)) : gb251 ≠ gb221)); clear HO_207001; clear HO_207002; clear HO_214000; clear HO_214001; clear HO_222001; clear HO_222002; clear HO240; clear HO243; clear HO247; clear HO250; clear BK191; clear BK206; clear BK213; clear BK221; clear HB; have HO_207001 := n0_; have HO_207002 := n1_; have HO_214000 := n2_; have HO_214001 := n3_; have HO_222001 := n4_; have HO_222002 := n5_; have HO240 := n6_; have HO243 := n7_; have HO247 := n8_; have HO250 := n9_; have BK191 := n10_; have BK206 := n11_; have BK213 := n12_; have BK221 := n13_; have HB := n14_; have BK251 := n15_; have GW251 := n16_; have GE251 := n17_; have NB191_251 := n18_; have NB251_191 := n19_; have NB206_251 := n20_; have NB251_206 := n21_; have NB213_251 := n22_; have NB251_213 := n23_; have NB221_251 := n24_; have NB251_221 := n25_; clear n0_ n1_ n2_ n3_ n4_ n5_ n6_ n7_ n8_ n9_ n10_ n11_ n12_ n13_ n14_ n15_ n16_ n17_ n18_ n19_ n20_ n21_ n22_ n23_ n24_ n25_; clear hb hbox hg; have hnb100 := NB251_191.out; have hnc100 := NB191_251.out; have hnb101 := NB251_206.out; have hnc101 := NB206_251.out; have hnb102 := NB251_213.out; have hnc102 := NB213_251.out; have hnb103 := NB251_221.out; have hnc103 := NB221_251.out; have hcz104_0 : w99.cell? ⟨gb251, 0, none⟩ = some (.int .i64 0) := (blk_cell BK251.out 0).trans rfl; have hcz104_1 : w99.cell? ⟨gb251, 1, none⟩ = some (.slice none 0 0) := (blk_cell BK251.out 1).trans rfl; have hcz104_2 : w99.cell? ⟨gb251, 2, none⟩ = some (.slice none 0 0) := (blk_cell BK251.out 2).trans rfl; have hfz104_0 := blk_frozen BK251.out 0; have hfz104_1 := blk_frozen BK251.out 1; have hfz104_2 := blk_frozen BK251.out 2; obtain ⟨Ao105, co105, eo105⟩ := Kd.R_slice HO247.out; subst eo105; obtain ⟨Ao106, co106, eo106⟩ := Kd.R_slice HO250.out; subst eo106; have hnb107 := NB206_213.out; have hnc107 := NB213_206.out; have hnb108 := NB206_221.out; have hnc108 := NB221_206.out; have hcz109_0 : w99.cell? ⟨gb206, 0, none⟩ = some (.int .i64 t199) := (blk_cell BK206.out 0).trans rfl; have hcz109_1 : w99.cell? ⟨gb206, 1, none⟩ = some (.slice Ao23 t200.length co23) := (blk_cell BK206.out 1).trans rfl; have hcz109_2 : w99.cell? ⟨gb206, 2, none⟩ = some (.slice Ao24 t203.length co24) := (blk_cell BK206.out 2).trans rfl; have hfz109_0 := blk_frozen BK206.out 0; have hfz109_1 := blk_frozen BK206.out 1; have hfz109_2 := blk_frozen BK206.out 2) | ((with_reducible refine gate_callee (f := 33) rfl ?_); refine goesL_ (some 64) rfl rfl Try.func33 (by kernel_rfl) rfl #[.agg #[.int .i64 t244, .slice Ao105 t245.length co105, .slice Ao106 t248.length co106], .agg #[.int .i64 t199, .slice Ao23 t200.length co23, .slice Ao24 t203.length co24]] rfl (by (try simp only [List.map_toArray, List.map_cons, List.map_nil]); first | done | rfl | (simp only [List.length_drop, List.length_take]; rfl)) ?_; (with_reducible refine (laws_eqLogResult.calls kj84 t244 _ _ t245 _ _ t248 t199 _ _ t200 _ _ t203 t252 _ ?side1 ?side2 ?side3 ?side4 ?side5 ?side6 ?side7 ?side8 A89.out).mono ?_); (case side1 => refine (Kd.R_reads' (e := 5) (base := w.heap.size) (ok := fun k_ => ((((((((some k_ ≠ (.slice Ao106 t248.length co106 : Value).ownBlock ∧ some k_ ≠ (.slice Ao23 t200.length co23 : Value).ownBlock) ∧ some k_ ≠ (.slice Ao24 t203.length co24 : Value).ownBlock) ∧ some k_ ≠ (.slice Ao28 t231.length co28 : Value).ownBlock) ∧ some k_ ≠ (.slice Ao32 t232.length co32 : Value).ownBlock) ∧ some k_ ≠ (.slice Ao41 t235.length co41 : Value).ownBlock) ∧ some k_ ≠ (.slice Ao42 t236.length co42 : Value).ownBlock) ∧ some k_ ≠ (.slice Ao96 t238.length co96 : Value).ownBlock) ∧ some k_ ≠ (.slice Ao97 t241.length co97 : Value).ownBlock)) (n := t245.length) (c := co105) ?_).2.2; exact (by (with_reducible repeat (first | apply Kd.R_alloc | apply Kd.R_drewN | apply Kd.R_drew)); exact (Kd.R_mono (Kd.R_far (p := ⟨gb251, 2, none⟩) (Kd.R_far (p := ⟨gb251, 1, none⟩) (Kd.R_far (p := ⟨gb251, 0, none⟩) (Kd.R_types HO247.out BK251.out (by decide)) (fun _ hk => hk.2) (.int .i64 t244)) (fun _ hk => hk.2) (.slice Ao105 t245.length co105)) (fun _ hk => hk.2) (.slice Ao106 t248.length co106)) (fun _ h_ => h_.1)))); (case side2 => exact (Kd.R_reads' HO247.out).2.1); (case side3 => refine (Kd.R_reads' (e := 5) (base := w.heap.size) (ok := fun k_ => ((((((((some k_ ≠ (.slice Ao105 t245.length co105 : Value).ownBlock ∧ some k_ ≠ (.slice Ao23 t200.length co23 : Value).ownBlock) ∧ some k_ ≠ (.slice Ao24 t203.length co24 : Value).ownBlock) ∧ some k_ ≠ (.slice Ao28 t231.length co28 : Value).ownBlock) ∧ some k_ ≠ (.slice Ao32 t232.length co32 : Value).ownBlock) ∧ some k_ ≠ (.slice Ao41 t235.length co41 : Value).ownBlock) ∧ some k_ ≠ (.slice Ao42 t236.length co42 : Value).ownBlock) ∧ some k_ ≠ (.slice Ao96 t238.length co96 : Value).ownBlock) ∧ some k_ ≠ (.slice Ao97 t241.length co97 : Value).ownBlock)) (n := t248.length) (c := co106) ?_).2.2; exact (by (with_reducible repeat (first | apply Kd.R_alloc | apply Kd.R_drewN | apply Kd.R_drew)); exact (Kd.R_mono (Kd.R_far (p := ⟨gb251, 2, none⟩) (Kd.R_far (p := ⟨gb251, 1, none⟩) (Kd.R_far (p := ⟨gb251, 0, none⟩) (Kd.R_types HO250.out BK251.out (by decide)) (fun _ hk => hk.2) (.int .i64 t244)) (fun _ hk => hk.2) (.slice Ao105 t245.length co105)) (fun _ hk => hk.2) (.slice Ao106 t248.length co106)) (fun _ h_ => h_.1)))); (case side4 => exact (Kd.R_reads' HO250.out).2.1); (case side5 => refine (Kd.R_reads' (e := 5) (base := w.heap.size) (ok := fun k_ => (((((some k_ ≠ (.slice Ao24 t203.length co24 : Value).ownBlock ∧ (some k_ ≠ (.slice Ao28 t231.length co28 : Value).ownBlock ∧ (some k_ ≠ (.slice Ao32 t232.length co32 : Value).ownBlock ∧ (some k_ ≠ (.slice Ao41 t235.length co41 : Value).ownBlock ∧ some k_ ≠ (.slice Ao42 t236.length co42 : Value).ownBlock)))) ∧ some k_ ≠ (.slice Ao96 t238.length co96 : Value).ownBlock) ∧ some k_ ≠ (.slice Ao97 t241.length co97 : Value).ownBlock) ∧ some k_ ≠ (.slice Ao105 t245.length co105 : Value).ownBlock) ∧ some k_ ≠ (.slice Ao106 t248.length co106 : Value).ownBlock)) (n := t200.length) (c := co23) ?_).2.2; exact (by (with_reducible repeat (first | apply Kd.R_alloc | apply Kd.R_drewN | apply Kd.R_drew)); exact (Kd.R_mono (Kd.R_far (p := ⟨gb251, 2, none⟩) (Kd.R_far (p := ⟨gb251, 1, none⟩) (Kd.R_far (p := ⟨gb251, 0, none⟩) (Kd.R_types HO_207001.out BK251.out (by decide)) (fun _ hk => hk.2) (.int .i64 t244)) (fun _ hk => hk.2) (.slice Ao105 t245.length co105)) (fun _ hk => hk.2) (.slice Ao106 t248.length co106)) (fun _ h_ => h_.1)))); (case side6 => exact (Kd.R_reads' HO_207001.out).2.1); (case side7 => refine (Kd.R_reads' (e := 5) (base := w.heap.size) (ok := fun k_ => (((((some k_ ≠ (.slice Ao23 t200.length co23 : Value).ownBlock ∧ (some k_ ≠ (.slice Ao28 t231.length co28 : Value).ownBlock ∧ (some k_ ≠ (.slice Ao32 t232.length co32 : Value).ownBlock ∧ (some k_ ≠ (.slice Ao41 t235.length co41 : Value).ownBlock ∧ some k_ ≠ (.slice Ao42 t236.length co42 : Value).ownBlock)))) ∧ some k_ ≠ (.slice Ao96 t238.length co96 : Value).ownBlock) ∧ some k_ ≠ (.slice Ao97 t241.length co97 : Value).ownBlock) ∧ some k_ ≠ (.slice Ao105 t245.length co105 : Value).ownBlock) ∧ some k_ ≠ (.slice Ao106 t248.length co106 : Value).ownBlock)) (n := t203.length) (c := co24) ?_).2.2; exact (by (with_reducible repeat (first | apply Kd.R_alloc | apply Kd.R_drewN | apply Kd.R_drew)); exact (Kd.R_mono (Kd.R_far (p := ⟨gb251, 2, none⟩) (Kd.R_far (p := ⟨gb251, 1, none⟩) (Kd.R_far (p := ⟨gb251, 0, none⟩) (Kd.R_types HO_207002.out BK251.out (by decide)) (fun _ hk => hk.2) (.int .i64 t244)) (fun _ hk => hk.2) (.slice Ao105 t245.length co105)) (fun _ hk => hk.2) (.slice Ao106 t248.length co106)) (fun _ h_ => h_.1)))); (case side8 => exact (Kd.R_reads' HO_207002.out).2.1); rintro e w110 ⟨rfl, hb⟩; refine ⟨_, rfl, ?_⟩; have n0_ := Aside0.mk (Kd.R_below (by (with_reducible repeat (first | apply Kd.R_alloc | apply Kd.R_drewN | apply Kd.R_drew)); exact (Kd.R_mono (Kd.R_far (p := ⟨gb251, 2, none⟩) (Kd.R_far (p := ⟨gb251, 1, none⟩) (Kd.R_far (p := ⟨gb251, 0, none⟩) (Kd.R_types HO_207001.out BK251.out (by decide)) (fun _ hk => hk.2) (.int .i64 t244)) (fun _ hk => hk.2) (.slice Ao105 t245.length co105)) (fun _ hk => hk.2) (.slice Ao106 t248.length co106)) (fun _ h_ => h_.1))) hb); have n1_ := Aside0.mk (Kd.R_below (by (with_reducible repeat (first | apply Kd.R_alloc | apply Kd.R_drewN | apply Kd.R_drew)); exact (Kd.R_mono (Kd.R_far (p := ⟨gb251, 2, none⟩) (Kd.R_far (p := ⟨gb251, 1, none⟩) (Kd.R_far (p := ⟨gb251, 0, none⟩) (Kd.R_types HO_207002.out BK251.out (by decide)) (fun _ hk => hk.2) (.int .i64 t244)) (fun _ hk => hk.2) (.slice Ao105 t245.length co105)) (fun _ hk => hk.2) (.slice Ao106 t248.length co106)) (fun _ h_ => h_.1))) hb); have n2_ := Aside0.mk (Kd.R_below (by (with_reducible repeat (first | apply Kd.R_alloc | apply Kd.R_drewN | apply Kd.R_drew)); exact (Kd.R_mono (Kd.R_far (p := ⟨gb251, 2, none⟩) (Kd.R_far (p := ⟨gb251, 1, none⟩) (Kd.R_far (p := ⟨gb251, 0, none⟩) (Kd.R_types HO_214000.out BK251.out (by decide)) (fun _ hk => hk.2) (.int .i64 t244)) (fun _ hk => hk.2) (.slice Ao105 t245.length co105)) (fun _ hk => hk.2) (.slice Ao106 t248.length co106)) (fun _ h_ => h_.1))) hb); have n3_ := Aside0.mk (Kd.R_below (by (with_reducible repeat (first | apply Kd.R_alloc | apply Kd.R_drewN | apply Kd.R_drew)); exact (Kd.R_mono (Kd.R_far (p := ⟨gb251, 2, none⟩) (Kd.R_far (p := ⟨gb251, 1, none⟩) (Kd.R_far (p := ⟨gb251, 0, none⟩) (Kd.R_types HO_214001.out BK251.out (by decide)) (fun _ hk => hk.2) (.int .i64 t244)) (fun _ hk => hk.2) (.slice Ao105 t245.length co105)) (fun _ hk => hk.2) (.slice Ao106 t248.length co106)) (fun _ h_ => h_.1))) hb); have n4_ := Aside0.mk (Kd.R_below (by (with_reducible repeat (first | apply Kd.R_alloc | apply Kd.R_drewN | apply Kd.R_drew)); exact (Kd.R_mono (Kd.R_far (p := ⟨gb251, 2, none⟩) (Kd.R_far (p := ⟨gb251, 1, none⟩) (Kd.R_far (p := ⟨gb251, 0, none⟩) (Kd.R_types HO_222001.out BK251.out (by decide)) (fun _ hk => hk.2) (.int .i64 t244)) (fun _ hk => hk.2) (.slice Ao105 t245.length co105)) (fun _ hk => hk.2) (.slice Ao106 t248.length co106)) (fun _ h_ => h_.1))) hb); have n5_ := Aside0.mk (Kd.R_below (by (with_reducible repeat (first | apply Kd.R_alloc | apply Kd.R_drewN | apply Kd.R_drew)); exact (Kd.R_mono (Kd.R_far (p := ⟨gb251, 2, none⟩) (Kd.R_far (p := ⟨gb251, 1, none⟩) (Kd.R_far (p := ⟨gb251, 0, none⟩) (Kd.R_types HO_222002.out BK251.out (by decide)) (fun _ hk => hk.2) (.int .i64 t244)) (fun _ hk => hk.2) (.slice Ao105 t245.length co105)) (fun _ hk => hk.2) (.slice Ao106 t248.length co106)) (fun _ h_ => h_.1))) hb); have n6_ := Aside0.mk (Kd.R_below (by (with_reducible repeat (first | apply Kd.R_alloc | apply Kd.R_drewN | apply Kd.R_drew)); exact (Kd.R_mono (Kd.R_far (p := ⟨gb251, 2, none⟩) (Kd.R_far (p := ⟨gb251, 1, none⟩) (Kd.R_far (p := ⟨gb251, 0, none⟩) (Kd.R_types HO240.out BK251.out (by decide)) (fun _ hk => hk.2) (.int .i64 t244)) (fun _ hk => hk.2) (.slice Ao105 t245.length co105)) (fun _ hk => hk.2) (.slice Ao106 t248.length co106)) (fun _ h_ => h_.1))) hb); have n7_ := Aside0.mk (Kd.R_below (by (with_reducible repeat (first | apply Kd.R_alloc | apply Kd.R_drewN | apply Kd.R_drew)); exact (Kd.R_mono (Kd.R_far (p := ⟨gb251, 2, none⟩) (Kd.R_far (p := ⟨gb251, 1, none⟩) (Kd.R_far (p := ⟨gb251, 0, none⟩) (Kd.R_types HO243.out BK251.out (by decide)) (fun _ hk => hk.2) (.int .i64 t244)) (fun _ hk => hk.2) (.slice Ao105 t245.length co105)) (fun _ hk => hk.2) (.slice Ao106 t248.length co106)) (fun _ h_ => h_.1))) hb); have n8_ := Aside0.mk (Kd.R_below (by (with_reducible repeat (first | apply Kd.R_alloc | apply Kd.R_drewN | apply Kd.R_drew)); exact (Kd.R_mono (Kd.R_far (p := ⟨gb251, 2, none⟩) (Kd.R_far (p := ⟨gb251, 1, none⟩) (Kd.R_far (p := ⟨gb251, 0, none⟩) (Kd.R_types HO247.out BK251.out (by decide)) (fun _ hk => hk.2) (.int .i64 t244)) (fun _ hk => hk.2) (.slice Ao105 t245.length co105)) (fun _ hk => hk.2) (.slice Ao106 t248.length co106)) (fun _ h_ => h_.1))) hb); have n9_ := Aside0.mk (Kd.R_below (by (with_reducible repeat (first | apply Kd.R_alloc | apply Kd.R_drewN | apply Kd.R_drew)); exact (Kd.R_mono (Kd.R_far (p := ⟨gb251, 2, none⟩) (Kd.R_far (p := ⟨gb251, 1, none⟩) (Kd.R_far (p := ⟨gb251, 0, none⟩) (Kd.R_types HO250.out BK251.out (by decide)) (fun _ hk => hk.2) (.int .i64 t244)) (fun _ hk => hk.2) (.slice Ao105 t245.length co105)) (fun _ hk => hk.2) (.slice Ao106 t248.length co106)) (fun _ h_ => h_.1))) hb); have n10_ := Aside0.mk (blk_below (g := gb191) (o := .cells #[.slice A0_0 l0_0.length c0_0, .slice A0_1 l0_1.length c0_1] 24 (0, 0)) (by (with_reducible repeat (first | refine blk_drewN ?_ _ | refine blk_drew ?_ | refine blk_alloc ?_ _)); refine blk_far ?_ NB191_251.out _; (with_reducible repeat (first | refine blk_drewN ?_ _ | refine blk_drew ?_ | refine blk_alloc ?_ _)); refine blk_far ?_ NB191_251.out _; (with_reducible repeat (first | refine blk_drewN ?_ _ | refine blk_drew ?_ | refine blk_alloc ?_ _)); refine blk_far ?_ NB191_251.out _; (with_reducible repeat (first | refine blk_drewN ?_ _ | refine blk_drew ?_ | refine blk_alloc ?_ _)); exact BK191.out) hb); have n11_ := Aside0.mk (blk_below (g := gb206) (o := .cells #[.int .i64 t199, .slice Ao23 t200.length co23, .slice Ao24 t203.length co24] 46 (0, 0)) (by (with_reducible repeat (first | refine blk_drewN ?_ _ | refine blk_drew ?_ | refine blk_alloc ?_ _)); refine blk_far ?_ NB206_251.out _; (with_reducible repeat (first | refine blk_drewN ?_ _ | refine blk_drew ?_ | refine blk_alloc ?_ _)); refine blk_far ?_ NB206_251.out _; (with_reducible repeat (first | refine blk_drewN ?_ _ | refine blk_drew ?_ | refine blk_alloc ?_ _)); refine blk_far ?_ NB206_251.out _; (with_reducible repeat (first | refine blk_drewN ?_ _ | refine blk_drew ?_ | refine blk_alloc ?_ _)); exact BK206.out) hb); have n12_ := Aside0.mk (blk_below (g := gb213) (o := .cells #[.slice Ao28 t231.length co28, .slice Ao32 t232.length co32] 27 (0, 0)) (by (with_reducible repeat (first | refine blk_drewN ?_ _ | refine blk_drew ?_ | refine blk_alloc ?_ _)); refine blk_far ?_ NB213_251.out _; (with_reducible repeat (first | refine blk_drewN ?_ _ | refine blk_drew ?_ | refine blk_alloc ?_ _)); refine blk_far ?_ NB213_251.out _; (with_reducible repeat (first | refine blk_drewN ?_ _ | refine blk_drew ?_ | refine blk_alloc ?_ _)); refine blk_far ?_ NB213_251.out _; (with_reducible repeat (first | refine blk_drewN ?_ _ | refine blk_drew ?_ | refine blk_alloc ?_ _)); exact BK213.out) hb); have n13_ := Aside0.mk (blk_below (g := gb221) (o := .cells #[.int .i64 t214, .slice Ao41 t235.length co41, .slice Ao42 t236.length co42] 46 (0, 0)) (by (with_reducible repeat (first | refine blk_drewN ?_ _ | refine blk_drew ?_ | refine blk_alloc ?_ _)); refine blk_far ?_ NB221_251.out _; (with_reducible repeat (first | refine blk_drewN ?_ _ | refine blk_drew ?_ | refine blk_alloc ?_ _)); refine blk_far ?_ NB221_251.out _; (with_reducible repeat (first | refine blk_drewN ?_ _ | refine blk_drew ?_ | refine blk_alloc ?_ _)); refine blk_far ?_ NB221_251.out _; (with_reducible repeat (first | refine blk_drewN ?_ _ | refine blk_drew ?_ | refine blk_alloc ?_ _)); exact BK221.out) hb); have n14_ := Aside0.mk (blk_below (g := gb251) (o := .cells #[.int .i64 t244, .slice Ao105 t245.length co105, .slice Ao106 t248.length co106] 46 (0, 0)) (by (with_reducible repeat (first | refine blk_drewN ?_ _ | refine blk_drew ?_ | refine blk_alloc ?_ _)); refine blk_put (cs := #[.int .i64 t244, .slice Ao105 t245.length co105, .slice none 0 0]) ?_ 2 _ rfl; (with_reducible repeat (first | refine blk_drewN ?_ _ | refine blk_drew ?_ | refine blk_alloc ?_ _)); refine blk_put (cs := #[.int .i64 t244, .slice none 0 0, .slice none 0 0]) ?_ 1 _ rfl; (with_reducible repeat (first | refine blk_drewN ?_ _ | refine blk_drew ?_ | refine blk_alloc ?_ _)); refine blk_put (cs := #[.int .i64 0, .slice none 0 0, .slice none 0 0]) ?_ 0 _ rfl; (with_reducible repeat (first | refine blk_drewN ?_ _ | refine blk_drew ?_ | refine blk_alloc ?_ _)); exact BK251.out) hb); have n15_ := Aside0.mk (below_step (by repeat (first | (with_reducible first | exact HB.out | apply below_alloc | apply pw_below_drewN | apply below_drew1 | refine below_set ?_ GE191.out | refine below_set ?_ GE206.out | refine below_set ?_ GE213.out | refine below_set ?_ GE221.out | refine below_set ?_ GE251.out) | exact HB.out)) hb); clear HO_207001; clear HO_207002; clear HO_214000; clear HO_214001; clear HO_222001; clear HO_222002; clear HO240; clear HO243; clear HO247; clear HO250; clear BK191; clear BK206; clear BK213; clear BK221; clear BK251; clear HB; have HO_207001 := n0_; have HO_207002 := n1_; have HO_214000 := n2_; have HO_214001 := n3_; have HO_222001 := n4_; have HO_222002 := n5_; have HO240 := n6_; have HO243 := n7_; have HO247 := n8_; have HO250 := n9_; have BK191 := n10_; have BK206 := n11_; have BK213 := n12_; have BK221 := n13_; have BK251 := n14_; have HB := n15_; clear n0_ n1_ n2_ n3_ n4_ n5_ n6_ n7_ n8_ n9_ n10_ n11_ n12_ n13_ n14_ n15_; (try clear hb); (try clear hb2); (try clear hk); (try clear hi)))
                              (try simp only [Act.put, List.setIfInBounds_toArray, List.set_cons_zero, List.set_cons_succ])
                              go_cut [] (fun wc => ∃ (kq : Nat), Aside0 (laws_FnExactCrashLog.j7 kq t234 t214 t235 t236 = some r) ∧ Aside0 (kq ≤ kj84) ∧ Aside0 (Kd.R (Kd.int .u8) 5 wc w.heap.size (fun k_ => some k_ ≠ ((.slice Ao24 t203.length co24) : Value).ownBlock ∧ some k_ ≠ ((.slice Ao28 t231.length co28) : Value).ownBlock ∧ some k_ ≠ ((.slice Ao32 t232.length co32) : Value).ownBlock ∧ some k_ ≠ ((.slice Ao41 t235.length co41) : Value).ownBlock ∧ some k_ ≠ ((.slice Ao42 t236.length co42) : Value).ownBlock ∧ some k_ ≠ ((.slice Ao105 t245.length co105) : Value).ownBlock ∧ some k_ ≠ ((.slice Ao106 t248.length co106) : Value).ownBlock) (.slice Ao23 t200.length co23) t200) ∧ Aside0 (Kd.R (Kd.int .u8) 5 wc w.heap.size (fun k_ => some k_ ≠ ((.slice Ao23 t200.length co23) : Value).ownBlock ∧ some k_ ≠ ((.slice Ao28 t231.length co28) : Value).ownBlock ∧ some k_ ≠ ((.slice Ao32 t232.length co32) : Value).ownBlock ∧ some k_ ≠ ((.slice Ao41 t235.length co41) : Value).ownBlock ∧ some k_ ≠ ((.slice Ao42 t236.length co42) : Value).ownBlock ∧ some k_ ≠ ((.slice Ao105 t245.length co105) : Value).ownBlock ∧ some k_ ≠ ((.slice Ao106 t248.length co106) : Value).ownBlock) (.slice Ao24 t203.length co24) t203) ∧ Aside0 (Kd.R (Kd.int .u8) 5 wc w.heap.size (fun k_ => some k_ ≠ ((.slice Ao23 t200.length co23) : Value).ownBlock ∧ some k_ ≠ ((.slice Ao24 t203.length co24) : Value).ownBlock ∧ some k_ ≠ ((.slice Ao32 t232.length co32) : Value).ownBlock ∧ some k_ ≠ ((.slice Ao41 t235.length co41) : Value).ownBlock ∧ some k_ ≠ ((.slice Ao42 t236.length co42) : Value).ownBlock ∧ some k_ ≠ ((.slice Ao105 t245.length co105) : Value).ownBlock ∧ some k_ ≠ ((.slice Ao106 t248.length co106) : Value).ownBlock) (.slice Ao28 t231.length co28) t231) ∧ Aside0 (Kd.R (Kd.int .u8) 5 wc w.heap.size (fun k_ => some k_ ≠ ((.slice Ao23 t200.length co23) : Value).ownBlock ∧ some k_ ≠ ((.slice Ao24 t203.length co24) : Value).ownBlock ∧ some k_ ≠ ((.slice Ao28 t231.length co28) : Value).ownBlock ∧ some k_ ≠ ((.slice Ao41 t235.length co41) : Value).ownBlock ∧ some k_ ≠ ((.slice Ao42 t236.length co42) : Value).ownBlock ∧ some k_ ≠ ((.slice Ao105 t245.length co105) : Value).ownBlock ∧ some k_ ≠ ((.slice Ao106 t248.length co106) : Value).ownBlock) (.slice Ao32 t232.length co32) t232) ∧ Aside0 (Kd.R (Kd.int .u8) 5 wc w.heap.size (fun k_ => some k_ ≠ ((.slice Ao23 t200.length co23) : Value).ownBlock ∧ some k_ ≠ ((.slice Ao24 t203.length co24) : Value).ownBlock ∧ some k_ ≠ ((.slice Ao28 t231.length co28) : Value).ownBlock ∧ some k_ ≠ ((.slice Ao32 t232.length co32) : Value).ownBlock ∧ some k_ ≠ ((.slice Ao42 t236.length co42) : Value).ownBlock ∧ some k_ ≠ ((.slice Ao105 t245.length co105) : Value).ownBlock ∧ some k_ ≠ ((.slice Ao106 t248.length co106) : Value).ownBlock) (.slice Ao41 t235.length co41) t235) ∧ Aside0 (Kd.R (Kd.int .u8) 5 wc w.heap.size (fun k_ => some k_ ≠ ((.slice Ao23 t200.length co23) : Value).ownBlock ∧ some k_ ≠ ((.slice Ao24 t203.length co24) : Value).ownBlock ∧ some k_ ≠ ((.slice Ao28 t231.length co28) : Value).ownBlock ∧ some k_ ≠ ((.slice Ao32 t232.length co32) : Value).ownBlock ∧ some k_ ≠ ((.slice Ao41 t235.length co41) : Value).ownBlock ∧ some k_ ≠ ((.slice Ao105 t245.length co105) : Value).ownBlock ∧ some k_ ≠ ((.slice Ao106 t248.length co106) : Value).ownBlock) (.slice Ao42 t236.length co42) t236) ∧ Aside0 (Kd.R (Kd.int .u8) 5 wc w.heap.size (fun k_ => some k_ ≠ ((.slice Ao23 t200.length co23) : Value).ownBlock ∧ some k_ ≠ ((.slice Ao24 t203.length co24) : Value).ownBlock ∧ some k_ ≠ ((.slice Ao28 t231.length co28) : Value).ownBlock ∧ some k_ ≠ ((.slice Ao32 t232.length co32) : Value).ownBlock ∧ some k_ ≠ ((.slice Ao41 t235.length co41) : Value).ownBlock ∧ some k_ ≠ ((.slice Ao42 t236.length co42) : Value).ownBlock ∧ some k_ ≠ ((.slice Ao106 t248.length co106) : Value).ownBlock) (.slice Ao105 t245.length co105) t245) ∧ Aside0 (Kd.R (Kd.int .u8) 5 wc w.heap.size (fun k_ => some k_ ≠ ((.slice Ao23 t200.length co23) : Value).ownBlock ∧ some k_ ≠ ((.slice Ao24 t203.length co24) : Value).ownBlock ∧ some k_ ≠ ((.slice Ao28 t231.length co28) : Value).ownBlock ∧ some k_ ≠ ((.slice Ao32 t232.length co32) : Value).ownBlock ∧ some k_ ≠ ((.slice Ao41 t235.length co41) : Value).ownBlock ∧ some k_ ≠ ((.slice Ao42 t236.length co42) : Value).ownBlock ∧ some k_ ≠ ((.slice Ao105 t245.length co105) : Value).ownBlock) (.slice Ao106 t248.length co106) t248) ∧ Aside0 (wc.heap[gb191]? = some (.cells #[(.slice A0_0 l0_0.length c0_0), (.slice A0_1 l0_1.length c0_1)] 24 (0, 0))) ∧ Aside0 (wc.heap[gb206]? = some (.cells #[.int .i64 t199, (.slice Ao23 t200.length co23), (.slice Ao24 t203.length co24)] 46 (0, 0))) ∧ Aside0 (wc.heap[gb213]? = some (.cells #[(.slice Ao28 t231.length co28), (.slice Ao32 t232.length co32)] 27 (0, 0))) ∧ Aside0 (wc.heap[gb221]? = some (.cells #[.int .i64 t214, (.slice Ao41 t235.length co41), (.slice Ao42 t236.length co42)] 46 (0, 0))) ∧ Aside0 (wc.heap[gb251]? = some (.cells #[.int .i64 t244, (.slice Ao105 t245.length co105), (.slice Ao106 t248.length co106)] 46 (0, 0))) ∧ Aside0 (Below w.heap.size w wc))
                              case first =>
                                have H := HC90.out
                                clear HC90
                                by_cases c111 : t252 = true
                                · subst c111
                                  have H1 : (laws_FnExactCrashLog.j7 kj84 t234 t214 t235 t236) = some r := by rw [if_pos rfl] at H; exact H
                                  clear H
                                  have H := H1
                                  clear H1
                                  have H' := Aside0.mk H
                                  clear H
                                  go_wp2
                                  go_meet
                                  case rel => exact ⟨_, H', ⟨by have := HJ3.out; have := HJ13.out; have := HJ47.out; have := HJ55.out; have := HJ71.out; have := HJ75.out; have := HJ84.out; first | omega | exact Nat.le_refl _⟩, ⟨by (try simp only [hl214000_55]); (try simp only [hl214001_55]); (try simp only [hl222001_75]); (try simp only [hl222002_75]); (with_reducible repeat (first | apply Kd.R_alloc | apply Kd.R_drewN | apply Kd.R_drew)); exact Kd.R_mono HO_207001.out (fun _ hk => ⟨hk.1.1.1.1.1, ⟨hk.1.1.1.1.2.1, ⟨hk.1.1.1.1.2.2.1, ⟨hk.1.1.1.1.2.2.2.1, ⟨hk.1.1.1.1.2.2.2.2, ⟨hk.1.2, hk.2⟩⟩⟩⟩⟩⟩)⟩, ⟨by (try simp only [hl214000_55]); (try simp only [hl214001_55]); (try simp only [hl222001_75]); (try simp only [hl222002_75]); (with_reducible repeat (first | apply Kd.R_alloc | apply Kd.R_drewN | apply Kd.R_drew)); exact Kd.R_mono HO_207002.out (fun _ hk => ⟨hk.1.1.1.1.1, ⟨hk.1.1.1.1.2.1, ⟨hk.1.1.1.1.2.2.1, ⟨hk.1.1.1.1.2.2.2.1, ⟨hk.1.1.1.1.2.2.2.2, ⟨hk.1.2, hk.2⟩⟩⟩⟩⟩⟩)⟩, ⟨by (try simp only [hl214000_55]); (try simp only [hl214001_55]); (try simp only [hl222001_75]); (try simp only [hl222002_75]); (with_reducible repeat (first | apply Kd.R_alloc | apply Kd.R_drewN | apply Kd.R_drew)); exact Kd.R_mono HO_214000.out (fun _ hk => ⟨hk.1.1.1.1.1, ⟨hk.1.1.1.1.2.1, ⟨hk.1.1.1.1.2.2.1, ⟨hk.1.1.1.1.2.2.2.1, ⟨hk.1.1.1.1.2.2.2.2, ⟨hk.1.2, hk.2⟩⟩⟩⟩⟩⟩)⟩, ⟨by (try simp only [hl214000_55]); (try simp only [hl214001_55]); (try simp only [hl222001_75]); (try simp only [hl222002_75]); (with_reducible repeat (first | apply Kd.R_alloc | apply Kd.R_drewN | apply Kd.R_drew)); exact Kd.R_mono HO_214001.out (fun _ hk => ⟨hk.1.1.1.1.1, ⟨hk.1.1.1.1.2.1, ⟨hk.1.1.1.1.2.2.1, ⟨hk.1.1.1.1.2.2.2.1, ⟨hk.1.1.1.1.2.2.2.2, ⟨hk.1.2, hk.2⟩⟩⟩⟩⟩⟩)⟩, ⟨by (try simp only [hl214000_55]); (try simp only [hl214001_55]); (try simp only [hl222001_75]); (try simp only [hl222002_75]); (with_reducible repeat (first | apply Kd.R_alloc | apply Kd.R_drewN | apply Kd.R_drew)); exact Kd.R_mono HO_222001.out (fun _ hk => ⟨hk.1.1.1.1.1, ⟨hk.1.1.1.1.2.1, ⟨hk.1.1.1.1.2.2.1, ⟨hk.1.1.1.1.2.2.2.1, ⟨hk.1.1.1.1.2.2.2.2, ⟨hk.1.2, hk.2⟩⟩⟩⟩⟩⟩)⟩, ⟨by (try simp only [hl214000_55]); (try simp only [hl214001_55]); (try simp only [hl222001_75]); (try simp only [hl222002_75]); (with_reducible repeat (first | apply Kd.R_alloc | apply Kd.R_drewN | apply Kd.R_drew)); exact Kd.R_mono HO_222002.out (fun _ hk => ⟨hk.1.1.1.1.1, ⟨hk.1.1.1.1.2.1, ⟨hk.1.1.1.1.2.2.1, ⟨hk.1.1.1.1.2.2.2.1, ⟨hk.1.1.1.1.2.2.2.2, ⟨hk.1.2, hk.2⟩⟩⟩⟩⟩⟩)⟩, ⟨by (try simp only [hl214000_55]); (try simp only [hl214001_55]); (try simp only [hl222001_75]); (try simp only [hl222002_75]); (with_reducible repeat (first | apply Kd.R_alloc | apply Kd.R_drewN | apply Kd.R_drew)); exact Kd.R_mono HO247.out (fun _ hk => ⟨hk.1.1.1.1.1.1.1.2, ⟨hk.1.1.1.1.1.1.2, ⟨hk.1.1.1.1.1.2, ⟨hk.1.1.1.1.2, ⟨hk.1.1.1.2, ⟨hk.1.1.2, hk.1.1.1.1.1.1.1.1⟩⟩⟩⟩⟩⟩)⟩, ⟨by (try simp only [hl214000_55]); (try simp only [hl214001_55]); (try simp only [hl222001_75]); (try simp only [hl222002_75]); (with_reducible repeat (first | apply Kd.R_alloc | apply Kd.R_drewN | apply Kd.R_drew)); exact Kd.R_mono HO250.out (fun _ hk => ⟨hk.1.1.1.1.1.1.1.2, ⟨hk.1.1.1.1.1.1.2, ⟨hk.1.1.1.1.1.2, ⟨hk.1.1.1.1.2, ⟨hk.1.1.1.2, ⟨hk.1.1.2, hk.1.1.1.1.1.1.1.1⟩⟩⟩⟩⟩⟩)⟩, ⟨by (try simp only [hl214000_55]); (try simp only [hl214001_55]); (try simp only [hl222001_75]); (try simp only [hl222002_75]); (with_reducible repeat (first | refine blk_drewN ?_ _ | refine blk_drew ?_ | refine blk_alloc ?_ _)); exact BK191.out⟩, ⟨by (try simp only [hl214000_55]); (try simp only [hl214001_55]); (try simp only [hl222001_75]); (try simp only [hl222002_75]); (with_reducible repeat (first | refine blk_drewN ?_ _ | refine blk_drew ?_ | refine blk_alloc ?_ _)); exact BK206.out⟩, ⟨by (try simp only [hl214000_55]); (try simp only [hl214001_55]); (try simp only [hl222001_75]); (try simp only [hl222002_75]); (with_reducible repeat (first | refine blk_drewN ?_ _ | refine blk_drew ?_ | refine blk_alloc ?_ _)); exact BK213.out⟩, ⟨by (try simp only [hl214000_55]); (try simp only [hl214001_55]); (try simp only [hl222001_75]); (try simp only [hl222002_75]); (with_reducible repeat (first | refine blk_drewN ?_ _ | refine blk_drew ?_ | refine blk_alloc ?_ _)); exact BK221.out⟩, ⟨by (try simp only [hl214000_55]); (try simp only [hl214001_55]); (try simp only [hl222001_75]); (try simp only [hl222002_75]); (with_reducible repeat (first | refine blk_drewN ?_ _ | refine blk_drew ?_ | refine blk_alloc ?_ _)); exact BK251.out⟩, ⟨by repeat (first | (with_reducible first | exact HB.out | apply below_alloc | apply pw_below_drewN | apply below_drew1 | refine below_set ?_ GE191.out | refine below_set ?_ GE206.out | refine below_set ?_ GE213.out | refine below_set ?_ GE221.out | refine below_set ?_ GE251.out) | exact HB.out)⟩⟩
                                · replace c111 := Bool.eq_false_iff.mpr c111
                                  subst c111
                                  have H1 : (some false) = some r := by rw [if_neg (show ¬ (false = true) by decide)] at H; exact H
                                  clear H
                                  have H := H1
                                  clear H1
                                  obtain rfl := Option.some.inj H
                                  go_wp2
                                  go_ret
                                  exact ⟨by first | rfl | (simp [errW_none, errW_some] <;> rfl) | (simp [*, errW_none, errW_some] <;> rfl), by repeat (first | (with_reducible first | exact HB.out | apply below_alloc | apply pw_below_drewN | apply below_drew1 | refine below_set ?_ GE191.out | refine below_set ?_ GE206.out | refine below_set ?_ GE213.out | refine below_set ?_ GE221.out | refine below_set ?_ GE251.out) | exact HB.out)⟩
                              case rest =>
                                clear HC90
                                try clear c1
                                try clear c2
                                try clear p2
                                try clear c3
                                try clear c4
                                try clear c5
                                try clear c6
                                try clear c7
                                try clear c8
                                try clear c8b0
                                try clear c9
                                try clear c10
                                try clear c11
                                try clear c14
                                try clear c16
                                try clear c18
                                try clear c21
                                try clear c29
                                try clear c30
                                try clear c33
                                try clear c34
                                try clear c35
                                try clear c36
                                try clear c37
                                try clear c38
                                try clear c39
                                try clear c41
                                try clear c42
                                try clear c45
                                try clear c54
                                try clear c57
                                try clear c58
                                try clear c59
                                try clear c62
                                try clear c62b0
                                try clear c64
                                try clear c65
                                try clear c66
                                try clear c68
                                try clear c69
                                try clear c73
                                try clear c77
                                try clear c78
                                try clear c79
                                try clear c84
                                try clear c84b0
                                try clear c86
                                try clear c86b0
                                try clear c86b1
                                try clear c91
                                try clear c92
                                try clear c93
                                try clear c100
                                try clear c101
                                try clear c102
                                try clear c103
                                try clear c107
                                try clear c108
                                try clear c111
                                try clear hcz104_0
                                try clear hcz104_1
                                try clear hcz104_2
                                try clear hcz109_0
                                try clear hcz109_1
                                try clear hcz109_2
                                try clear hcz15_0
                                try clear hcz15_1
                                try clear hcz22_0
                                try clear hcz22_1
                                try clear hcz22_2
                                try clear hcz25_0
                                try clear hcz25_1
                                try clear hcz31_0
                                try clear hcz31_1
                                try clear hcz34_0
                                try clear hcz34_1
                                try clear hcz40_0
                                try clear hcz40_1
                                try clear hcz40_2
                                try clear hcz43_0
                                try clear hcz43_1
                                try clear hcz43_2
                                try clear hcz60_0
                                try clear hcz60_1
                                try clear hcz67_0
                                try clear hcz67_1
                                try clear hcz67_2
                                try clear hcz6_0
                                try clear hcz6_1
                                try clear hcz70_0
                                try clear hcz70_1
                                try clear hcz70_2
                                try clear hcz80_0
                                try clear hcz80_1
                                try clear hcz80_2
                                try clear hcz82_0
                                try clear hcz82_1
                                try clear hcz82_2
                                try clear hcz94_0
                                try clear hcz94_1
                                try clear hfz104_0
                                try clear hfz104_1
                                try clear hfz104_2
                                try clear hfz109_0
                                try clear hfz109_1
                                try clear hfz109_2
                                try clear hfz15_0
                                try clear hfz15_1
                                try clear hfz22_0
                                try clear hfz22_1
                                try clear hfz22_2
                                try clear hfz25_0
                                try clear hfz25_1
                                try clear hfz31_0
                                try clear hfz31_1
                                try clear hfz34_0
                                try clear hfz34_1
                                try clear hfz40_0
                                try clear hfz40_1
                                try clear hfz40_2
                                try clear hfz43_0
                                try clear hfz43_1
                                try clear hfz43_2
                                try clear hfz60_0
                                try clear hfz60_1
                                try clear hfz67_0
                                try clear hfz67_1
                                try clear hfz67_2
                                try clear hfz6_0
                                try clear hfz6_1
                                try clear hfz70_0
                                try clear hfz70_1
                                try clear hfz70_2
                                try clear hfz80_0
                                try clear hfz80_1
                                try clear hfz80_2
                                try clear hfz82_0
                                try clear hfz82_1
                                try clear hfz82_2
                                try clear hfz94_0
                                try clear hfz94_1
                                try clear p2
                                obtain ⟨kq, HA, HJ89, HO_207001, HO_207002, HO_214000, HO_214001, HO_222001, HO_222002, HO_252001, HO_252002, BK191, BK206, BK213, BK221, BK251, HB⟩ := hcut
                                cases kq with
                                | zero => exact absurd HA.out (by simp [laws_FnExactCrashLog.j7])
                                | succ kj89 =>
                                  have H := HA.out
                                  clear HA
                                  simp only [laws_FnExactCrashLog.j7] at H
                                  replace H := Option.bind_eq_some_iff.mp H
                                  obtain ⟨t253, A1120, H⟩ := H
                                  replace H : (if t253 < 0 then (some false) else (if t253 = t234 then (some true) else (some false))) = some r := H
                                  have A112 := Aside0.mk A1120
                                  clear A1120
                                  by_cases c113 : t253 < 0
                                  · rw [if_pos c113] at H
                                    have c113b0 : decide (t253 < 0) = true := decide_eq_true c113
                                    clear c113
                                    obtain rfl := Option.some.inj H
                                    have hnb114 := NB221_191.out
                                    have hnc114 := NB191_221.out
                                    have hnb115 := NB221_206.out
                                    have hnc115 := NB206_221.out
                                    have hnb116 := NB221_213.out
                                    have hnc116 := NB213_221.out
                                    have hnb117 := NB221_251.out
                                    have hnc117 := NB251_221.out
                                    have hcz118_0 : wc.cell? ⟨gb221, 0, none⟩ = some (.int .i64 t214) := (blk_cell BK221.out 0).trans rfl
                                    have hcz118_1 : wc.cell? ⟨gb221, 1, none⟩ = some (.slice Ao41 t235.length co41) := (blk_cell BK221.out 1).trans rfl
                                    have hcz118_2 : wc.cell? ⟨gb221, 2, none⟩ = some (.slice Ao42 t236.length co42) := (blk_cell BK221.out 2).trans rfl
                                    have hfz118_0 := blk_frozen BK221.out 0
                                    have hfz118_1 := blk_frozen BK221.out 1
                                    have hfz118_2 := blk_frozen BK221.out 2
                                    go_wp2_with (first | ((with_reducible refine gate_callee (f := 36) rfl ?_); refine goesL_ (some 68) rfl rfl Try.func36 (by kernel_rfl) rfl #[.agg #[.int .i64 t214, .slice Ao41 t235.length co41, .slice Ao42 t236.length co42], .int .i64 1] rfl (by (try simp only [List.map_toArray, List.map_cons, List.map_nil]); first | done | rfl | (simp only [List.length_drop, List.length_take]; rfl)) ?_; (with_reducible refine (laws_heldLogResult.calls kj89 t214 _ _ t235 _ _ t236 1 t253 _ ?side1 ?side2 ?side3 ?side4 A112.out).mono ?_); (case side1 => repeat (first | exact (Kd.R_reads' HO_222001.out).2.2 | (with_reducible refine Kd.C_alloc ?_ _) | (with_reducible refine Kd.C_drewN ?_ _) | (with_reducible refine Kd.C_drew ?_))); (case side2 => exact (Kd.R_reads' HO_222001.out).2.1); (case side3 => repeat (first | exact (Kd.R_reads' HO_222002.out).2.2 | (with_reducible refine Kd.C_alloc ?_ _) | (with_reducible refine Kd.C_drewN ?_ _) | (with_reducible refine Kd.C_drew ?_))); (case side4 => exact (Kd.R_reads' HO_222002.out).2.1); rintro e w119 ⟨rfl, hb⟩; refine ⟨_, rfl, ?_⟩; have n0_ := Aside0.mk (Kd.R_below (by (with_reducible repeat (first | apply Kd.R_alloc | apply Kd.R_drewN | apply Kd.R_drew)); exact HO_207001.out) hb); have n1_ := Aside0.mk (Kd.R_below (by (with_reducible repeat (first | apply Kd.R_alloc | apply Kd.R_drewN | apply Kd.R_drew)); exact HO_207002.out) hb); have n2_ := Aside0.mk (Kd.R_below (by (with_reducible repeat (first | apply Kd.R_alloc | apply Kd.R_drewN | apply Kd.R_drew)); exact HO_214000.out) hb); have n3_ := Aside0.mk (Kd.R_below (by (with_reducible repeat (first | apply Kd.R_alloc | apply Kd.R_drewN | apply Kd.R_drew)); exact HO_214001.out) hb); have n4_ := Aside0.mk (Kd.R_below (by (with_reducible repeat (first | apply Kd.R_alloc | apply Kd.R_drewN | apply Kd.R_drew)); exact HO_222001.out) hb); have n5_ := Aside0.mk (Kd.R_below (by (with_reducible repeat (first | apply Kd.R_alloc | apply Kd.R_drewN | apply Kd.R_drew)); exact HO_222002.out) hb); have n6_ := Aside0.mk (Kd.R_below (by (with_reducible repeat (first | apply Kd.R_alloc | apply Kd.R_drewN | apply Kd.R_drew)); exact HO_252001.out) hb); have n7_ := Aside0.mk (Kd.R_below (by (with_reducible repeat (first | apply Kd.R_alloc | apply Kd.R_drewN | apply Kd.R_drew)); exact HO_252002.out) hb); have n8_ := Aside0.mk (blk_below (g := gb191) (o := .cells #[.slice A0_0 l0_0.length c0_0, .slice A0_1 l0_1.length c0_1] 24 (0, 0)) (by (with_reducible repeat (first | refine blk_drewN ?_ _ | refine blk_drew ?_ | refine blk_alloc ?_ _)); exact BK191.out) hb); have n9_ := Aside0.mk (blk_below (g := gb206) (o := .cells #[.int .i64 t199, .slice Ao23 t200.length co23, .slice Ao24 t203.length co24] 46 (0, 0)) (by (with_reducible repeat (first | refine blk_drewN ?_ _ | refine blk_drew ?_ | refine blk_alloc ?_ _)); exact BK206.out) hb); have n10_ := Aside0.mk (blk_below (g := gb213) (o := .cells #[.slice Ao28 t231.length co28, .slice Ao32 t232.length co32] 27 (0, 0)) (by (with_reducible repeat (first | refine blk_drewN ?_ _ | refine blk_drew ?_ | refine blk_alloc ?_ _)); exact BK213.out) hb); have n11_ := Aside0.mk (blk_below (g := gb221) (o := .cells #[.int .i64 t214, .slice Ao41 t235.length co41, .slice Ao42 t236.length co42] 46 (0, 0)) (by (with_reducible repeat (first | refine blk_drewN ?_ _ | refine blk_drew ?_ | refine blk_alloc ?_ _)); exact BK221.out) hb); have n12_ := Aside0.mk (blk_below (g := gb251) (o := .cells #[.int .i64 t244, .slice Ao105 t245.length co105, .slice Ao106 t248.length co106] 46 (0, 0)) (by (with_reducible repeat (first | refine blk_drewN ?_ _ | refine blk_drew ?_ | refine blk_alloc ?_ _)); exact BK251.out) hb); have n13_ := Aside0.mk (below_step (by repeat (first | (with_reducible first | exact HB.out | apply below_alloc | apply pw_below_drewN | apply below_drew1 | refine below_set ?_ GE191.out | refine below_set ?_ GE206.out | refine below_set ?_ GE213.out | refine below_set ?_ GE221.out | refine below_set ?_ GE251.out) | exact HB.out)) hb); clear HO_207001; clear HO_207002; clear HO_214000; clear HO_214001; clear HO_222001; clear HO_222002; clear HO_252001; clear HO_252002; clear BK191; clear BK206; clear BK213; clear BK221; clear BK251; clear HB; have HO_207001 := n0_; have HO_207002 := n1_; have HO_214000 := n2_; have HO_214001 := n3_; have HO_222001 := n4_; have HO_222002 := n5_; have HO_252001 := n6_; have HO_252002 := n7_; have BK191 := n8_; have BK206 := n9_; have BK213 := n10_; have BK221 := n11_; have BK251 := n12_; have HB := n13_; clear n0_ n1_ n2_ n3_ n4_ n5_ n6_ n7_ n8_ n9_ n10_ n11_ n12_ n13_; (try clear hb); (try clear hb2); (try clear hk); (try clear hi)))
                                    go_ret
                                    exact ⟨by first | rfl | (simp [errW_none, errW_some] <;> rfl) | (simp [*, errW_none, errW_some] <;> rfl), by repeat (first | (with_reducible first | exact HB.out | apply below_alloc | apply pw_below_drewN | apply below_drew1 | refine below_set ?_ GE191.out | refine below_set ?_ GE206.out | refine below_set ?_ GE213.out | refine below_set ?_ GE221.out | refine below_set ?_ GE251.out) | exact HB.out)⟩
                                  · rw [if_neg c113] at H
                                    have c113b0 : decide (t253 < 0) = false := decide_eq_false c113
                                    clear c113
                                    by_cases c120 : t253 = t234
                                    · rw [if_pos c120] at H
                                      have c120b0 : (t253 == t234) = true := beq_iff_eq.mpr c120
                                      have c120b1 : (t253 != t234) = false := bne_eq_false_iff_eq.mpr c120
                                      clear c120
                                      obtain rfl := Option.some.inj H
                                      have hnb121 := NB221_191.out
                                      have hnc121 := NB191_221.out
                                      have hnb122 := NB221_206.out
                                      have hnc122 := NB206_221.out
                                      have hnb123 := NB221_213.out
                                      have hnc123 := NB213_221.out
                                      have hnb124 := NB221_251.out
                                      have hnc124 := NB251_221.out
                                      have hcz125_0 : wc.cell? ⟨gb221, 0, none⟩ = some (.int .i64 t214) := (blk_cell BK221.out 0).trans rfl
                                      have hcz125_1 : wc.cell? ⟨gb221, 1, none⟩ = some (.slice Ao41 t235.length co41) := (blk_cell BK221.out 1).trans rfl
                                      have hcz125_2 : wc.cell? ⟨gb221, 2, none⟩ = some (.slice Ao42 t236.length co42) := (blk_cell BK221.out 2).trans rfl
                                      have hfz125_0 := blk_frozen BK221.out 0
                                      have hfz125_1 := blk_frozen BK221.out 1
                                      have hfz125_2 := blk_frozen BK221.out 2
                                      go_wp2_with (first | ((with_reducible refine gate_callee (f := 36) rfl ?_); refine goesL_ (some 68) rfl rfl Try.func36 (by kernel_rfl) rfl #[.agg #[.int .i64 t214, .slice Ao41 t235.length co41, .slice Ao42 t236.length co42], .int .i64 1] rfl (by (try simp only [List.map_toArray, List.map_cons, List.map_nil]); first | done | rfl | (simp only [List.length_drop, List.length_take]; rfl)) ?_; (with_reducible refine (laws_heldLogResult.calls kj89 t214 _ _ t235 _ _ t236 1 t253 _ ?side1 ?side2 ?side3 ?side4 A112.out).mono ?_); (case side1 => repeat (first | exact (Kd.R_reads' HO_222001.out).2.2 | (with_reducible refine Kd.C_alloc ?_ _) | (with_reducible refine Kd.C_drewN ?_ _) | (with_reducible refine Kd.C_drew ?_))); (case side2 => exact (Kd.R_reads' HO_222001.out).2.1); (case side3 => repeat (first | exact (Kd.R_reads' HO_222002.out).2.2 | (with_reducible refine Kd.C_alloc ?_ _) | (with_reducible refine Kd.C_drewN ?_ _) | (with_reducible refine Kd.C_drew ?_))); (case side4 => exact (Kd.R_reads' HO_222002.out).2.1); rintro e w126 ⟨rfl, hb⟩; refine ⟨_, rfl, ?_⟩; have n0_ := Aside0.mk (Kd.R_below (by (with_reducible repeat (first | apply Kd.R_alloc | apply Kd.R_drewN | apply Kd.R_drew)); exact HO_207001.out) hb); have n1_ := Aside0.mk (Kd.R_below (by (with_reducible repeat (first | apply Kd.R_alloc | apply Kd.R_drewN | apply Kd.R_drew)); exact HO_207002.out) hb); have n2_ := Aside0.mk (Kd.R_below (by (with_reducible repeat (first | apply Kd.R_alloc | apply Kd.R_drewN | apply Kd.R_drew)); exact HO_214000.out) hb); have n3_ := Aside0.mk (Kd.R_below (by (with_reducible repeat (first | apply Kd.R_alloc | apply Kd.R_drewN | apply Kd.R_drew)); exact HO_214001.out) hb); have n4_ := Aside0.mk (Kd.R_below (by (with_reducible repeat (first | apply Kd.R_alloc | apply Kd.R_drewN | apply Kd.R_drew)); exact HO_222001.out) hb); have n5_ := Aside0.mk (Kd.R_below (by (with_reducible repeat (first | apply Kd.R_alloc | apply Kd.R_drewN | apply Kd.R_drew)); exact HO_222002.out) hb); have n6_ := Aside0.mk (Kd.R_below (by (with_reducible repeat (first | apply Kd.R_alloc | apply Kd.R_drewN | apply Kd.R_drew)); exact HO_252001.out) hb); have n7_ := Aside0.mk (Kd.R_below (by (with_reducible repeat (first | apply Kd.R_alloc | apply Kd.R_drewN | apply Kd.R_drew)); exact HO_252002.out) hb); have n8_ := Aside0.mk (blk_below (g := gb191) (o := .cells #[.slice A0_0 l0_0.length c0_0, .slice A0_1 l0_1.length c0_1] 24 (0, 0)) (by (with_reducible repeat (first | refine blk_drewN ?_ _ | refine blk_drew ?_ | refine blk_alloc ?_ _)); exact BK191.out) hb); have n9_ := Aside0.mk (blk_below (g := gb206) (o := .cells #[.int .i64 t199, .slice Ao23 t200.length co23, .slice Ao24 t203.length co24] 46 (0, 0)) (by (with_reducible repeat (first | refine blk_drewN ?_ _ | refine blk_drew ?_ | refine blk_alloc ?_ _)); exact BK206.out) hb); have n10_ := Aside0.mk (blk_below (g := gb213) (o := .cells #[.slice Ao28 t231.length co28, .slice Ao32 t232.length co32] 27 (0, 0)) (by (with_reducible repeat (first | refine blk_drewN ?_ _ | refine blk_drew ?_ | refine blk_alloc ?_ _)); exact BK213.out) hb); have n11_ := Aside0.mk (blk_below (g := gb221) (o := .cells #[.int .i64 t214, .slice Ao41 t235.length co41, .slice Ao42 t236.length co42] 46 (0, 0)) (by (with_reducible repeat (first | refine blk_drewN ?_ _ | refine blk_drew ?_ | refine blk_alloc ?_ _)); exact BK221.out) hb); have n12_ := Aside0.mk (blk_below (g := gb251) (o := .cells #[.int .i64 t244, .slice Ao105 t245.length co105, .slice Ao106 t248.length co106] 46 (0, 0)) (by (with_reducible repeat (first | refine blk_drewN ?_ _ | refine blk_drew ?_ | refine blk_alloc ?_ _)); exact BK251.out) hb); have n13_ := Aside0.mk (below_step (by repeat (first | (with_reducible first | exact HB.out | apply below_alloc | apply pw_below_drewN | apply below_drew1 | refine below_set ?_ GE191.out | refine below_set ?_ GE206.out | refine below_set ?_ GE213.out | refine below_set ?_ GE221.out | refine below_set ?_ GE251.out) | exact HB.out)) hb); clear HO_207001; clear HO_207002; clear HO_214000; clear HO_214001; clear HO_222001; clear HO_222002; clear HO_252001; clear HO_252002; clear BK191; clear BK206; clear BK213; clear BK221; clear BK251; clear HB; have HO_207001 := n0_; have HO_207002 := n1_; have HO_214000 := n2_; have HO_214001 := n3_; have HO_222001 := n4_; have HO_222002 := n5_; have HO_252001 := n6_; have HO_252002 := n7_; have BK191 := n8_; have BK206 := n9_; have BK213 := n10_; have BK221 := n11_; have BK251 := n12_; have HB := n13_; clear n0_ n1_ n2_ n3_ n4_ n5_ n6_ n7_ n8_ n9_ n10_ n11_ n12_ n13_; (try clear hb); (try clear hb2); (try clear hk); (try clear hi)))
                                      go_ret
                                      exact ⟨by first | rfl | (simp [errW_none, errW_some] <;> rfl) | (simp [*, errW_none, errW_some] <;> rfl), by repeat (first | (with_reducible first | exact HB.out | apply below_alloc | apply pw_below_drewN | apply below_drew1 | refine below_set ?_ GE191.out | refine below_set ?_ GE206.out | refine below_set ?_ GE213.out | refine below_set ?_ GE221.out | refine below_set ?_ GE251.out) | exact HB.out)⟩
                                    · rw [if_neg c120] at H
                                      have c120b0 : (t253 == t234) = false := beq_eq_false_iff_ne.mpr c120
                                      have c120b1 : (t253 != t234) = true := bne_iff_ne.mpr c120
                                      obtain rfl := Option.some.inj H
                                      have hnb127 := NB221_191.out
                                      have hnc127 := NB191_221.out
                                      have hnb128 := NB221_206.out
                                      have hnc128 := NB206_221.out
                                      have hnb129 := NB221_213.out
                                      have hnc129 := NB213_221.out
                                      have hnb130 := NB221_251.out
                                      have hnc130 := NB251_221.out
                                      have hcz131_0 : wc.cell? ⟨gb221, 0, none⟩ = some (.int .i64 t214) := (blk_cell BK221.out 0).trans rfl
                                      have hcz131_1 : wc.cell? ⟨gb221, 1, none⟩ = some (.slice Ao41 t235.length co41) := (blk_cell BK221.out 1).trans rfl
                                      have hcz131_2 : wc.cell? ⟨gb221, 2, none⟩ = some (.slice Ao42 t236.length co42) := (blk_cell BK221.out 2).trans rfl
                                      have hfz131_0 := blk_frozen BK221.out 0
                                      have hfz131_1 := blk_frozen BK221.out 1
                                      have hfz131_2 := blk_frozen BK221.out 2
                                      go_wp2_with (first | ((with_reducible refine gate_callee (f := 36) rfl ?_); refine goesL_ (some 68) rfl rfl Try.func36 (by kernel_rfl) rfl #[.agg #[.int .i64 t214, .slice Ao41 t235.length co41, .slice Ao42 t236.length co42], .int .i64 1] rfl (by (try simp only [List.map_toArray, List.map_cons, List.map_nil]); first | done | rfl | (simp only [List.length_drop, List.length_take]; rfl)) ?_; (with_reducible refine (laws_heldLogResult.calls kj89 t214 _ _ t235 _ _ t236 1 t253 _ ?side1 ?side2 ?side3 ?side4 A112.out).mono ?_); (case side1 => repeat (first | exact (Kd.R_reads' HO_222001.out).2.2 | (with_reducible refine Kd.C_alloc ?_ _) | (with_reducible refine Kd.C_drewN ?_ _) | (with_reducible refine Kd.C_drew ?_))); (case side2 => exact (Kd.R_reads' HO_222001.out).2.1); (case side3 => repeat (first | exact (Kd.R_reads' HO_222002.out).2.2 | (with_reducible refine Kd.C_alloc ?_ _) | (with_reducible refine Kd.C_drewN ?_ _) | (with_reducible refine Kd.C_drew ?_))); (case side4 => exact (Kd.R_reads' HO_222002.out).2.1); rintro e w132 ⟨rfl, hb⟩; refine ⟨_, rfl, ?_⟩; have n0_ := Aside0.mk (Kd.R_below (by (with_reducible repeat (first | apply Kd.R_alloc | apply Kd.R_drewN | apply Kd.R_drew)); exact HO_207001.out) hb); have n1_ := Aside0.mk (Kd.R_below (by (with_reducible repeat (first | apply Kd.R_alloc | apply Kd.R_drewN | apply Kd.R_drew)); exact HO_207002.out) hb); have n2_ := Aside0.mk (Kd.R_below (by (with_reducible repeat (first | apply Kd.R_alloc | apply Kd.R_drewN | apply Kd.R_drew)); exact HO_214000.out) hb); have n3_ := Aside0.mk (Kd.R_below (by (with_reducible repeat (first | apply Kd.R_alloc | apply Kd.R_drewN | apply Kd.R_drew)); exact HO_214001.out) hb); have n4_ := Aside0.mk (Kd.R_below (by (with_reducible repeat (first | apply Kd.R_alloc | apply Kd.R_drewN | apply Kd.R_drew)); exact HO_222001.out) hb); have n5_ := Aside0.mk (Kd.R_below (by (with_reducible repeat (first | apply Kd.R_alloc | apply Kd.R_drewN | apply Kd.R_drew)); exact HO_222002.out) hb); have n6_ := Aside0.mk (Kd.R_below (by (with_reducible repeat (first | apply Kd.R_alloc | apply Kd.R_drewN | apply Kd.R_drew)); exact HO_252001.out) hb); have n7_ := Aside0.mk (Kd.R_below (by (with_reducible repeat (first | apply Kd.R_alloc | apply Kd.R_drewN | apply Kd.R_drew)); exact HO_252002.out) hb); have n8_ := Aside0.mk (blk_below (g := gb191) (o := .cells #[.slice A0_0 l0_0.length c0_0, .slice A0_1 l0_1.length c0_1] 24 (0, 0)) (by (with_reducible repeat (first | refine blk_drewN ?_ _ | refine blk_drew ?_ | refine blk_alloc ?_ _)); exact BK191.out) hb); have n9_ := Aside0.mk (blk_below (g := gb206) (o := .cells #[.int .i64 t199, .slice Ao23 t200.length co23, .slice Ao24 t203.length co24] 46 (0, 0)) (by (with_reducible repeat (first | refine blk_drewN ?_ _ | refine blk_drew ?_ | refine blk_alloc ?_ _)); exact BK206.out) hb); have n10_ := Aside0.mk (blk_below (g := gb213) (o := .cells #[.slice Ao28 t231.length co28, .slice Ao32 t232.length co32] 27 (0, 0)) (by (with_reducible repeat (first | refine blk_drewN ?_ _ | refine blk_drew ?_ | refine blk_alloc ?_ _)); exact BK213.out) hb); have n11_ := Aside0.mk (blk_below (g := gb221) (o := .cells #[.int .i64 t214, .slice Ao41 t235.length co41, .slice Ao42 t236.length co42] 46 (0, 0)) (by (with_reducible repeat (first | refine blk_drewN ?_ _ | refine blk_drew ?_ | refine blk_alloc ?_ _)); exact BK221.out) hb); have n12_ := Aside0.mk (blk_below (g := gb251) (o := .cells #[.int .i64 t244, .slice Ao105 t245.length co105, .slice Ao106 t248.length co106] 46 (0, 0)) (by (with_reducible repeat (first | refine blk_drewN ?_ _ | refine blk_drew ?_ | refine blk_alloc ?_ _)); exact BK251.out) hb); have n13_ := Aside0.mk (below_step (by repeat (first | (with_reducible first | exact HB.out | apply below_alloc | apply pw_below_drewN | apply below_drew1 | refine below_set ?_ GE191.out | refine below_set ?_ GE206.out | refine below_set ?_ GE213.out | refine below_set ?_ GE221.out | refine below_set ?_ GE251.out) | exact HB.out)) hb); clear HO_207001; clear HO_207002; clear HO_214000; clear HO_214001; clear HO_222001; clear HO_222002; clear HO_252001; clear HO_252002; clear BK191; clear BK206; clear BK213; clear BK221; clear BK251; clear HB; have HO_207001 := n0_; have HO_207002 := n1_; have HO_214000 := n2_; have HO_214001 := n3_; have HO_222001 := n4_; have HO_222002 := n5_; have HO_252001 := n6_; have HO_252002 := n7_; have BK191 := n8_; have BK206 := n9_; have BK213 := n10_; have BK221 := n11_; have BK251 := n12_; have HB := n13_; clear n0_ n1_ n2_ n3_ n4_ n5_ n6_ n7_ n8_ n9_ n10_ n11_ n12_ n13_; (try clear hb); (try clear hb2); (try clear hk); (try clear hi)))
                                      go_ret
                                      exact ⟨by first | rfl | (simp [errW_none, errW_some] <;> rfl) | (simp [*, errW_none, errW_some] <;> rfl), by repeat (first | (with_reducible first | exact HB.out | apply below_alloc | apply pw_below_drewN | apply below_drew1 | refine below_set ?_ GE191.out | refine below_set ?_ GE206.out | refine below_set ?_ GE213.out | refine below_set ?_ GE221.out | refine below_set ?_ GE251.out) | exact HB.out)⟩

end Go.Proofs.Ytcdpiejcdeedoaa.PFnExactCrashLog
