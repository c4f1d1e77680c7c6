/- The functions that a law reaches, each as a plain Lean function with the proof that the machine comes to its answer: written by program (the kit's print, turned by wip/gen). No conditions. -/
import Derived.Test.YtcdpiejcdeedoaaPFnExactSyncLogx0
import Derived.Test.YtcdpiejcdeedoaaPFnExactSyncLogx1
import Derived.Test.YtcdpiejcdeedoaaPFnExactSyncLogx2
namespace Go.Proofs.Ytcdpiejcdeedoaa.PFnExactSyncLog
open Go.RowKit Go.Proofs.YtcdpiejcdeedoaaW.PrintWords Go.Proofs.YtcdpiejcdeedoaaW.PrintLast Go.Proofs.YtcdpiejcdeedoaaW.PrintMore
attribute [local go_sem] max2_int min2_int max_two min_two max_three min_three max_four min_four   -- for this text's walks alone
set_option linter.unusedVariables false
set_option linter.unusedSimpArgs false

/-! ### laws_FnExactSyncLog: function 6 -/
mutual
def laws_FnExactSyncLog.j0 : Nat → List Int → List Int → Option (Bool)
  | 0, _, _ => none
  | k + 1, x183000, x183001 => (laws_toLog.f k x183000 x183001).bind fun bt184 => ((spec_SyncLog.f bt184.1 bt184.2).bind fun bt190 => ((laws_toLog.f k x183000 x183001).bind fun bt198 => ((impl_SyncLog.f k bt198.1 bt198.2).bind fun bt205 => ((laws_eqLogResult.f k bt205.1 bt205.2.1 bt205.2.2 bt190.1 bt190.2.1 bt190.2.2).bind fun t213 => (if t213 = true then (laws_FnExactSyncLog.j1 k x183000 x183001 bt190.1 bt190.2.1 bt190.2.2 bt198.1 bt198.2 bt205.1 bt205.2.1 bt205.2.2) else (some false))))))
def laws_FnExactSyncLog.j1 : Nat → List Int → List Int → Int → List Int → List Int → List Int → List Int → Int → List Int → List Int → Option (Bool)
  | 0, _, _, _, _, _, _, _, _, _, _ => none
  | k + 1, x183000, x183001, x198000, x198001, x198002, x205000, x205001, x213000, x213001, x213002 => (laws_toLog.f k x183000 x183001).bind fun bt214 => ((laws_eqLog.f k x205000 x205001 bt214.1 bt214.2).bind fun t220 => (if t220 = true then (laws_FnExactSyncLog.j2 k x183000 x183001 x198000 x198001 x198002 x205000 x205001 x213000 x213001 x213002) else (some false)))
def laws_FnExactSyncLog.j2 : Nat → List Int → List Int → Int → List Int → List Int → List Int → List Int → Int → List Int → List Int → Option (Bool)
  | 0, _, _, _, _, _, _, _, _, _, _ => none
  | k + 1, x183000, x183001, x198000, x198001, x198002, x205000, x205001, x213000, x213001, x213002 => (laws_markLog.f k x205000 x205001 1).bind fun bt221 => (if bt221.1 < 0 then (laws_FnExactSyncLog.j3 k true x183000 x183001 x198000 x198001 x198002 x213000 x213001 x213002) else ((laws_eqLogResult.f k x213000 x213001 x213002 x198000 x198001 x198002).bind fun t224 => (laws_FnExactSyncLog.j3 k (!t224) x183000 x183001 x198000 x198001 x198002 x213000 x213001 x213002)))
def laws_FnExactSyncLog.j3 : Nat → Bool → List Int → List Int → Int → List Int → List Int → Int → List Int → List Int → Option (Bool)
  | 0, _, _, _, _, _, _, _, _, _ => none
  | k + 1, x42, x183000, x183001, x198000, x198001, x198002, x213000, x213001, x213002 => if x42 = true then (some false) else (laws_FnExactSyncLog.j4 k x183000 x183001 x198000 x198001 x198002 x213000 x213001 x213002)
def laws_FnExactSyncLog.j4 : Nat → List Int → List Int → Int → List Int → List Int → Int → List Int → List Int → Option (Bool)
  | 0, _, _, _, _, _, _, _, _ => none
  | k + 1, x183000, x183001, x198000, x198001, x198002, x213000, x213001, x213002 => (laws_markLogResult.f k x213000 x213001 x213002 1).bind fun bt225 => ((laws_heldLogResult.f k x213000 bt225.2.1 bt225.2.2 1).bind fun t228 => (if t228 < 0 then (some false) else (laws_FnExactSyncLog.j5 k bt225.1 t228 x183000 x183001 x198000 x198001 x198002 x213000 bt225.2.1 bt225.2.2)))
def laws_FnExactSyncLog.j5 : Nat → Int → Int → List Int → List Int → Int → List Int → List Int → Int → List Int → List Int → Option (Bool)
  | 0, _, _, _, _, _, _, _, _, _, _ => none
  | k + 1, x8, x9, x183000, x183001, x198000, x198001, x198002, x213000, x213001, x213002 => if x9 = x8 then (laws_FnExactSyncLog.j6 k x8 x183000 x183001 x198000 x198001 x198002 x213000 x213001 x213002) else (some false)
def laws_FnExactSyncLog.j6 : Nat → Int → List Int → List Int → Int → List Int → List Int → Int → List Int → List Int → Option (Bool)
  | 0, _, _, _, _, _, _, _, _, _ => none
  | k + 1, x8, x183000, x183001, x198000, x198001, x198002, x213000, x213001, x213002 => (laws_toLog.f k x183000 x183001).bind fun bt229 => ((impl_SyncLog.f k bt229.1 bt229.2).bind fun bt235 => ((laws_eqLogResult.f k bt235.1 bt235.2.1 bt235.2.2 x198000 x198001 x198002).bind fun t243 => (if t243 = true then (laws_FnExactSyncLog.j7 k x8 x213000 x213001 x213002) else (some false))))
def laws_FnExactSyncLog.j7 : Nat → Int → Int → List Int → List Int → Option (Bool)
  | 0, _, _, _, _ => none
  | k + 1, x8, x213000, x213001, x213002 => (laws_heldLogResult.f k x213000 x213001 x213002 1).bind fun t244 => (if t244 < 0 then (some false) else (if t244 = x8 then (some true) else (some false)))
end
def laws_FnExactSyncLog.f (k : Nat) (l0_0 : List Int) (l0_1 : List Int) : Option (Bool) := (laws_szLog.f l0_0 l0_1 1048576).bind fun t183 => (if t183 < 0 then (some true) else (laws_FnExactSyncLog.j0 k l0_0 l0_1))
theorem laws_FnExactSyncLog.mono_l : ∀ k, (∀ y0 y1, LeO (laws_FnExactSyncLog.j0 k y0 y1) (laws_FnExactSyncLog.j0 (k + 1) y0 y1)) ∧ (∀ y0 y1 y2 y3 y4 y5 y6 y7 y8 y9, LeO (laws_FnExactSyncLog.j1 k y0 y1 y2 y3 y4 y5 y6 y7 y8 y9) (laws_FnExactSyncLog.j1 (k + 1) y0 y1 y2 y3 y4 y5 y6 y7 y8 y9)) ∧ (∀ y0 y1 y2 y3 y4 y5 y6 y7 y8 y9, LeO (laws_FnExactSyncLog.j2 k y0 y1 y2 y3 y4 y5 y6 y7 y8 y9) (laws_FnExactSyncLog.j2 (k + 1) y0 y1 y2 y3 y4 y5 y6 y7 y8 y9)) ∧ (∀ y0 y1 y2 y3 y4 y5 y6 y7 y8, LeO (laws_FnExactSyncLog.j3 k y0 y1 y2 y3 y4 y5 y6 y7 y8) (laws_FnExactSyncLog.j3 (k + 1) y0 y1 y2 y3 y4 y5 y6 y7 y8)) ∧ (∀ y0 y1 y2 y3 y4 y5 y6 y7, LeO (laws_FnExactSyncLog.j4 k y0 y1 y2 y3 y4 y5 y6 y7) (laws_FnExactSyncLog.j4 (k + 1) y0 y1 y2 y3 y4 y5 y6 y7)) ∧ (∀ y0 y1 y2 y3 y4 y5 y6 y7 y8 y9, LeO (laws_FnExactSyncLog.j5 k y0 y1 y2 y3 y4 y5 y6 y7 y8 y9) (laws_FnExactSyncLog.j5 (k + 1) y0 y1 y2 y3 y4 y5 y6 y7 y8 y9)) ∧ (∀ y0 y1 y2 y3 y4 y5 y6 y7 y8, LeO (laws_FnExactSyncLog.j6 k y0 y1 y2 y3 y4 y5 y6 y7 y8) (laws_FnExactSyncLog.j6 (k + 1) y0 y1 y2 y3 y4 y5 y6 y7 y8)) ∧ (∀ y0 y1 y2 y3, LeO (laws_FnExactSyncLog.j7 k y0 y1 y2 y3) (laws_FnExactSyncLog.j7 (k + 1) y0 y1 y2 y3))
  | 0 => ⟨fun _ _ r h => by simp [laws_FnExactSyncLog.j0] at h, fun _ _ _ _ _ _ _ _ _ _ r h => by simp [laws_FnExactSyncLog.j1] at h, fun _ _ _ _ _ _ _ _ _ _ r h => by simp [laws_FnExactSyncLog.j2] at h, fun _ _ _ _ _ _ _ _ _ r h => by simp [laws_FnExactSyncLog.j3] at h, fun _ _ _ _ _ _ _ _ r h => by simp [laws_FnExactSyncLog.j4] at h, fun _ _ _ _ _ _ _ _ _ _ r h => by simp [laws_FnExactSyncLog.j5] at h, fun _ _ _ _ _ _ _ _ _ r h => by simp [laws_FnExactSyncLog.j6] at h, fun _ _ _ _ r h => by simp [laws_FnExactSyncLog.j7] at h⟩
  | k + 1 => by
    obtain ⟨ih0, ih1, ih2, ih3, ih4, ih5, ih6, ih7⟩ := laws_FnExactSyncLog.mono_l k
    refine ⟨?_, ?_, ?_, ?_, ?_, ?_, ?_, ?_⟩
    · intro y0 y1
      unfold laws_FnExactSyncLog.j0
      repeat' first
      | (with_reducible exact ih0 _ _)
      | (with_reducible exact ih1 _ _ _ _ _ _ _ _ _ _)
      | (with_reducible exact ih2 _ _ _ _ _ _ _ _ _ _)
      | (with_reducible exact ih3 _ _ _ _ _ _ _ _ _)
      | (with_reducible exact ih4 _ _ _ _ _ _ _ _)
      | (with_reducible exact ih5 _ _ _ _ _ _ _ _ _ _)
      | (with_reducible exact ih6 _ _ _ _ _ _ _ _ _)
      | (with_reducible exact ih7 _ _ _ _)
      | (with_reducible exact impl_SyncLog.mono _ _ _)
      | (with_reducible exact laws_eqLog.mono _ _ _ _ _)
      | (with_reducible exact laws_eqLogResult.mono _ _ _ _ _ _ _)
      | (with_reducible exact laws_heldLogResult.mono _ _ _ _ _)
      | (with_reducible exact laws_markLog.mono _ _ _ _)
      | (with_reducible exact laws_markLogResult.mono _ _ _ _ _)
      | (with_reducible exact laws_toLog.mono _ _ _)
      | (with_reducible exact LeO.refl _)
      | (with_reducible exact LeO.none _)
      | (with_reducible refine LeO.ite ?_ ?_)
      | (with_reducible refine LeO.bind ?_ (fun _ => ?_))
      | exact ih0 _ _
      | exact ih1 _ _ _ _ _ _ _ _ _ _
      | exact ih2 _ _ _ _ _ _ _ _ _ _
      | exact ih3 _ _ _ _ _ _ _ _ _
      | exact ih4 _ _ _ _ _ _ _ _
      | exact ih5 _ _ _ _ _ _ _ _ _ _
      | exact ih6 _ _ _ _ _ _ _ _ _
      | exact ih7 _ _ _ _
      | exact impl_SyncLog.mono _ _ _
      | exact laws_eqLog.mono _ _ _ _ _
      | exact laws_eqLogResult.mono _ _ _ _ _ _ _
      | exact laws_heldLogResult.mono _ _ _ _ _
      | exact laws_markLog.mono _ _ _ _
      | exact laws_markLogResult.mono _ _ _ _ _
      | exact laws_toLog.mono _ _ _
      | exact LeO.none _
      | refine LeO.ite ?_ ?_
      | refine LeO.bind ?_ (fun _ => ?_)
    · intro y0 y1 y2 y3 y4 y5 y6 y7 y8 y9
      unfold laws_FnExactSyncLog.j1
      repeat' first
      | (with_reducible exact ih0 _ _)
      | (with_reducible exact ih1 _ _ _ _ _ _ _ _ _ _)
      | (with_reducible exact ih2 _ _ _ _ _ _ _ _ _ _)
      | (with_reducible exact ih3 _ _ _ _ _ _ _ _ _)
      | (with_reducible exact ih4 _ _ _ _ _ _ _ _)
      | (with_reducible exact ih5 _ _ _ _ _ _ _ _ _ _)
      | (with_reducible exact ih6 _ _ _ _ _ _ _ _ _)
      | (with_reducible exact ih7 _ _ _ _)
      | (with_reducible exact impl_SyncLog.mono _ _ _)
      | (with_reducible exact laws_eqLog.mono _ _ _ _ _)
      | (with_reducible exact laws_eqLogResult.mono _ _ _ _ _ _ _)
      | (with_reducible exact laws_heldLogResult.mono _ _ _ _ _)
      | (with_reducible exact laws_markLog.mono _ _ _ _)
      | (with_reducible exact laws_markLogResult.mono _ _ _ _ _)
      | (with_reducible exact laws_toLog.mono _ _ _)
      | (with_reducible exact LeO.refl _)
      | (with_reducible exact LeO.none _)
      | (with_reducible refine LeO.ite ?_ ?_)
      | (with_reducible refine LeO.bind ?_ (fun _ => ?_))
      | exact ih0 _ _
      | exact ih1 _ _ _ _ _ _ _ _ _ _
      | exact ih2 _ _ _ _ _ _ _ _ _ _
      | exact ih3 _ _ _ _ _ _ _ _ _
      | exact ih4 _ _ _ _ _ _ _ _
      | exact ih5 _ _ _ _ _ _ _ _ _ _
      | exact ih6 _ _ _ _ _ _ _ _ _
      | exact ih7 _ _ _ _
      | exact impl_SyncLog.mono _ _ _
      | exact laws_eqLog.mono _ _ _ _ _
      | exact laws_eqLogResult.mono _ _ _ _ _ _ _
      | exact laws_heldLogResult.mono _ _ _ _ _
      | exact laws_markLog.mono _ _ _ _
      | exact laws_markLogResult.mono _ _ _ _ _
      | exact laws_toLog.mono _ _ _
      | exact LeO.none _
      | refine LeO.ite ?_ ?_
      | refine LeO.bind ?_ (fun _ => ?_)
    · intro y0 y1 y2 y3 y4 y5 y6 y7 y8 y9
      unfold laws_FnExactSyncLog.j2
      repeat' first
      | (with_reducible exact ih0 _ _)
      | (with_reducible exact ih1 _ _ _ _ _ _ _ _ _ _)
      | (with_reducible exact ih2 _ _ _ _ _ _ _ _ _ _)
      | (with_reducible exact ih3 _ _ _ _ _ _ _ _ _)
      | (with_reducible exact ih4 _ _ _ _ _ _ _ _)
      | (with_reducible exact ih5 _ _ _ _ _ _ _ _ _ _)
      | (with_reducible exact ih6 _ _ _ _ _ _ _ _ _)
      | (with_reducible exact ih7 _ _ _ _)
      | (with_reducible exact impl_SyncLog.mono _ _ _)
      | (with_reducible exact laws_eqLog.mono _ _ _ _ _)
      | (with_reducible exact laws_eqLogResult.mono _ _ _ _ _ _ _)
      | (with_reducible exact laws_heldLogResult.mono _ _ _ _ _)
      | (with_reducible exact laws_markLog.mono _ _ _ _)
      | (with_reducible exact laws_markLogResult.mono _ _ _ _ _)
      | (with_reducible exact laws_toLog.mono _ _ _)
      | (with_reducible exact LeO.refl _)
      | (with_reducible exact LeO.none _)
      | (with_reducible refine LeO.ite ?_ ?_)
      | (with_reducible refine LeO.bind ?_ (fun _ => ?_))
      | exact ih0 _ _
      | exact ih1 _ _ _ _ _ _ _ _ _ _
      | exact ih2 _ _ _ _ _ _ _ _ _ _
      | exact ih3 _ _ _ _ _ _ _ _ _
      | exact ih4 _ _ _ _ _ _ _ _
      | exact ih5 _ _ _ _ _ _ _ _ _ _
      | exact ih6 _ _ _ _ _ _ _ _ _
      | exact ih7 _ _ _ _
      | exact impl_SyncLog.mono _ _ _
      | exact laws_eqLog.mono _ _ _ _ _
      | exact laws_eqLogResult.mono _ _ _ _ _ _ _
      | exact laws_heldLogResult.mono _ _ _ _ _
      | exact laws_markLog.mono _ _ _ _
      | exact laws_markLogResult.mono _ _ _ _ _
      | exact laws_toLog.mono _ _ _
      | exact LeO.none _
      | refine LeO.ite ?_ ?_
      | refine LeO.bind ?_ (fun _ => ?_)
    · intro y0 y1 y2 y3 y4 y5 y6 y7 y8
      unfold laws_FnExactSyncLog.j3
      repeat' first
      | (with_reducible exact ih0 _ _)
      | (with_reducible exact ih1 _ _ _ _ _ _ _ _ _ _)
      | (with_reducible exact ih2 _ _ _ _ _ _ _ _ _ _)
      | (with_reducible exact ih3 _ _ _ _ _ _ _ _ _)
      | (with_reducible exact ih4 _ _ _ _ _ _ _ _)
      | (with_reducible exact ih5 _ _ _ _ _ _ _ _ _ _)
      | (with_reducible exact ih6 _ _ _ _ _ _ _ _ _)
      | (with_reducible exact ih7 _ _ _ _)
      | (with_reducible exact impl_SyncLog.mono _ _ _)
      | (with_reducible exact laws_eqLog.mono _ _ _ _ _)
      | (with_reducible exact laws_eqLogResult.mono _ _ _ _ _ _ _)
      | (with_reducible exact laws_heldLogResult.mono _ _ _ _ _)
      | (with_reducible exact laws_markLog.mono _ _ _ _)
      | (with_reducible exact laws_markLogResult.mono _ _ _ _ _)
      | (with_reducible exact laws_toLog.mono _ _ _)
      | (with_reducible exact LeO.refl _)
      | (with_reducible exact LeO.none _)
      | (with_reducible refine LeO.ite ?_ ?_)
      | (with_reducible refine LeO.bind ?_ (fun _ => ?_))
      | exact ih0 _ _
      | exact ih1 _ _ _ _ _ _ _ _ _ _
      | exact ih2 _ _ _ _ _ _ _ _ _ _
      | exact ih3 _ _ _ _ _ _ _ _ _
      | exact ih4 _ _ _ _ _ _ _ _
      | exact ih5 _ _ _ _ _ _ _ _ _ _
      | exact ih6 _ _ _ _ _ _ _ _ _
      | exact ih7 _ _ _ _
      | exact impl_SyncLog.mono _ _ _
      | exact laws_eqLog.mono _ _ _ _ _
      | exact laws_eqLogResult.mono _ _ _ _ _ _ _
      | exact laws_heldLogResult.mono _ _ _ _ _
      | exact laws_markLog.mono _ _ _ _
      | exact laws_markLogResult.mono _ _ _ _ _
      | exact laws_toLog.mono _ _ _
      | exact LeO.none _
      | refine LeO.ite ?_ ?_
      | refine LeO.bind ?_ (fun _ => ?_)
    · intro y0 y1 y2 y3 y4 y5 y6 y7
      unfold laws_FnExactSyncLog.j4
      repeat' first
      | (with_reducible exact ih0 _ _)
      | (with_reducible exact ih1 _ _ _ _ _ _ _ _ _ _)
      | (with_reducible exact ih2 _ _ _ _ _ _ _ _ _ _)
      | (with_reducible exact ih3 _ _ _ _ _ _ _ _ _)
      | (with_reducible exact ih4 _ _ _ _ _ _ _ _)
      | (with_reducible exact ih5 _ _ _ _ _ _ _ _ _ _)
      | (with_reducible exact ih6 _ _ _ _ _ _ _ _ _)
      | (with_reducible exact ih7 _ _ _ _)
      | (with_reducible exact impl_SyncLog.mono _ _ _)
      | (with_reducible exact laws_eqLog.mono _ _ _ _ _)
      | (with_reducible exact laws_eqLogResult.mono _ _ _ _ _ _ _)
      | (with_reducible exact laws_heldLogResult.mono _ _ _ _ _)
      | (with_reducible exact laws_markLog.mono _ _ _ _)
      | (with_reducible exact laws_markLogResult.mono _ _ _ _ _)
      | (with_reducible exact laws_toLog.mono _ _ _)
      | (with_reducible exact LeO.refl _)
      | (with_reducible exact LeO.none _)
      | (with_reducible refine LeO.ite ?_ ?_)
      | (with_reducible refine LeO.bind ?_ (fun _ => ?_))
      | exact ih0 _ _
      | exact ih1 _ _ _ _ _ _ _ _ _ _
      | exact ih2 _ _ _ _ _ _ _ _ _ _
      | exact ih3 _ _ _ _ _ _ _ _ _
      | exact ih4 _ _ _ _ _ _ _ _
      | exact ih5 _ _ _ _ _ _ _ _ _ _
      | exact ih6 _ _ _ _ _ _ _ _ _
      | exact ih7 _ _ _ _
      | exact impl_SyncLog.mono _ _ _
      | exact laws_eqLog.mono _ _ _ _ _
      | exact laws_eqLogResult.mono _ _ _ _ _ _ _
      | exact laws_heldLogResult.mono _ _ _ _ _
      | exact laws_markLog.mono _ _ _ _
      | exact laws_markLogResult.mono _ _ _ _ _
      | exact laws_toLog.mono _ _ _
      | exact LeO.none _
      | refine LeO.ite ?_ ?_
      | refine LeO.bind ?_ (fun _ => ?_)
    · intro y0 y1 y2 y3 y4 y5 y6 y7 y8 y9
      unfold laws_FnExactSyncLog.j5
      repeat' first
      | (with_reducible exact ih0 _ _)
      | (with_reducible exact ih1 _ _ _ _ _ _ _ _ _ _)
      | (with_reducible exact ih2 _ _ _ _ _ _ _ _ _ _)
      | (with_reducible exact ih3 _ _ _ _ _ _ _ _ _)
      | (with_reducible exact ih4 _ _ _ _ _ _ _ _)
      | (with_reducible exact ih5 _ _ _ _ _ _ _ _ _ _)
      | (with_reducible exact ih6 _ _ _ _ _ _ _ _ _)
      | (with_reducible exact ih7 _ _ _ _)
      | (with_reducible exact impl_SyncLog.mono _ _ _)
      | (with_reducible exact laws_eqLog.mono _ _ _ _ _)
      | (with_reducible exact laws_eqLogResult.mono _ _ _ _ _ _ _)
      | (with_reducible exact laws_heldLogResult.mono _ _ _ _ _)
      | (with_reducible exact laws_markLog.mono _ _ _ _)
      | (with_reducible exact laws_markLogResult.mono _ _ _ _ _)
      | (with_reducible exact laws_toLog.mono _ _ _)
      | (with_reducible exact LeO.refl _)
      | (with_reducible exact LeO.none _)
      | (with_reducible refine LeO.ite ?_ ?_)
      | (with_reducible refine LeO.bind ?_ (fun _ => ?_))
      | exact ih0 _ _
      | exact ih1 _ _ _ _ _ _ _ _ _ _
      | exact ih2 _ _ _ _ _ _ _ _ _ _
      | exact ih3 _ _ _ _ _ _ _ _ _
      | exact ih4 _ _ _ _ _ _ _ _
      | exact ih5 _ _ _ _ _ _ _ _ _ _
      | exact ih6 _ _ _ _ _ _ _ _ _
      | exact ih7 _ _ _ _
      | exact impl_SyncLog.mono _ _ _
      | exact laws_eqLog.mono _ _ _ _ _
      | exact laws_eqLogResult.mono _ _ _ _ _ _ _
      | exact laws_heldLogResult.mono _ _ _ _ _
      | exact laws_markLog.mono _ _ _ _
      | exact laws_markLogResult.mono _ _ _ _ _
      | exact laws_toLog.mono _ _ _
      | exact LeO.none _
      | refine LeO.ite ?_ ?_
      | refine LeO.bind ?_ (fun _ => ?_)
    · intro y0 y1 y2 y3 y4 y5 y6 y7 y8
      unfold laws_FnExactSyncLog.j6
      repeat' first
      | (with_reducible exact ih0 _ _)
      | (with_reducible exact ih1 _ _ _ _ _ _ _ _ _ _)
      | (with_reducible exact ih2 _ _ _ _ _ _ _ _ _ _)
      | (with_reducible exact ih3 _ _ _ _ _ _ _ _ _)
      | (with_reducible exact ih4 _ _ _ _ _ _ _ _)
      | (with_reducible exact ih5 _ _ _ _ _ _ _ _ _ _)
      | (with_reducible exact ih6 _ _ _ _ _ _ _ _ _)
      | (with_reducible exact ih7 _ _ _ _)
      | (with_reducible exact impl_SyncLog.mono _ _ _)
      | (with_reducible exact laws_eqLog.mono _ _ _ _ _)
      | (with_reducible exact laws_eqLogResult.mono _ _ _ _ _ _ _)
      | (with_reducible exact laws_heldLogResult.mono _ _ _ _ _)
      | (with_reducible exact laws_markLog.mono _ _ _ _)
      | (with_reducible exact laws_markLogResult.mono _ _ _ _ _)
      | (with_reducible exact laws_toLog.mono _ _ _)
      | (with_reducible exact LeO.refl _)
      | (with_reducible exact LeO.none _)
      | (with_reducible refine LeO.ite ?_ ?_)
      | (with_reducible refine LeO.bind ?_ (fun _ => ?_))
      | exact ih0 _ _
      | exact ih1 _ _ _ _ _ _ _ _ _ _
      | exact ih2 _ _ _ _ _ _ _ _ _ _
      | exact ih3 _ _ _ _ _ _ _ _ _
      | exact ih4 _ _ _ _ _ _ _ _
      | exact ih5 _ _ _ _ _ _ _ _ _ _
      | exact ih6 _ _ _ _ _ _ _ _ _
      | exact ih7 _ _ _ _
      | exact impl_SyncLog.mono _ _ _
      | exact laws_eqLog.mono _ _ _ _ _
      | exact laws_eqLogResult.mono _ _ _ _ _ _ _
      | exact laws_heldLogResult.mono _ _ _ _ _
      | exact laws_markLog.mono _ _ _ _
      | exact laws_markLogResult.mono _ _ _ _ _
      | exact laws_toLog.mono _ _ _
      | exact LeO.none _
      | refine LeO.ite ?_ ?_
      | refine LeO.bind ?_ (fun _ => ?_)
    · intro y0 y1 y2 y3
      unfold laws_FnExactSyncLog.j7
      repeat' first
      | (with_reducible exact ih0 _ _)
      | (with_reducible exact ih1 _ _ _ _ _ _ _ _ _ _)
      | (with_reducible exact ih2 _ _ _ _ _ _ _ _ _ _)
      | (with_reducible exact ih3 _ _ _ _ _ _ _ _ _)
      | (with_reducible exact ih4 _ _ _ _ _ _ _ _)
      | (with_reducible exact ih5 _ _ _ _ _ _ _ _ _ _)
      | (with_reducible exact ih6 _ _ _ _ _ _ _ _ _)
      | (with_reducible exact ih7 _ _ _ _)
      | (with_reducible exact impl_SyncLog.mono _ _ _)
      | (with_reducible exact laws_eqLog.mono _ _ _ _ _)
      | (with_reducible exact laws_eqLogResult.mono _ _ _ _ _ _ _)
      | (with_reducible exact laws_heldLogResult.mono _ _ _ _ _)
      | (with_reducible exact laws_markLog.mono _ _ _ _)
      | (with_reducible exact laws_markLogResult.mono _ _ _ _ _)
      | (with_reducible exact laws_toLog.mono _ _ _)
      | (with_reducible exact LeO.refl _)
      | (with_reducible exact LeO.none _)
      | (with_reducible refine LeO.ite ?_ ?_)
      | (with_reducible refine LeO.bind ?_ (fun _ => ?_))
      | exact ih0 _ _
      | exact ih1 _ _ _ _ _ _ _ _ _ _
      | exact ih2 _ _ _ _ _ _ _ _ _ _
      | exact ih3 _ _ _ _ _ _ _ _ _
      | exact ih4 _ _ _ _ _ _ _ _
      | exact ih5 _ _ _ _ _ _ _ _ _ _
      | exact ih6 _ _ _ _ _ _ _ _ _
      | exact ih7 _ _ _ _
      | exact impl_SyncLog.mono _ _ _
      | exact laws_eqLog.mono _ _ _ _ _
      | exact laws_eqLogResult.mono _ _ _ _ _ _ _
      | exact laws_heldLogResult.mono _ _ _ _ _
      | exact laws_markLog.mono _ _ _ _
      | exact laws_markLogResult.mono _ _ _ _ _
      | exact laws_toLog.mono _ _ _
      | exact LeO.none _
      | refine LeO.ite ?_ ?_
      | refine LeO.bind ?_ (fun _ => ?_)
theorem laws_FnExactSyncLog.mono : ∀ a0 a1 k, LeO (laws_FnExactSyncLog.f k a0 a1) (laws_FnExactSyncLog.f (k + 1) a0 a1) := by
  intro a0 a1 k
  obtain ⟨ih0, ih1, ih2, ih3, ih4, ih5, ih6, ih7⟩ := laws_FnExactSyncLog.mono_l k
  unfold laws_FnExactSyncLog.f
  repeat' first
      | (with_reducible exact ih0 _ _)
      | (with_reducible exact ih1 _ _ _ _ _ _ _ _ _ _)
      | (with_reducible exact ih2 _ _ _ _ _ _ _ _ _ _)
      | (with_reducible exact ih3 _ _ _ _ _ _ _ _ _)
      | (with_reducible exact ih4 _ _ _ _ _ _ _ _)
      | (with_reducible exact ih5 _ _ _ _ _ _ _ _ _ _)
      | (with_reducible exact ih6 _ _ _ _ _ _ _ _ _)
      | (with_reducible exact ih7 _ _ _ _)
      | (with_reducible exact impl_SyncLog.mono _ _ _)
      | (with_reducible exact laws_eqLog.mono _ _ _ _ _)
      | (with_reducible exact laws_eqLogResult.mono _ _ _ _ _ _ _)
      | (with_reducible exact laws_heldLogResult.mono _ _ _ _ _)
      | (with_reducible exact laws_markLog.mono _ _ _ _)
      | (with_reducible exact laws_markLogResult.mono _ _ _ _ _)
      | (with_reducible exact laws_toLog.mono _ _ _)
      | (with_reducible exact LeO.refl _)
      | (with_reducible exact LeO.none _)
      | (with_reducible refine LeO.ite ?_ ?_)
      | (with_reducible refine LeO.bind ?_ (fun _ => ?_))
      | exact ih0 _ _
      | exact ih1 _ _ _ _ _ _ _ _ _ _
      | exact ih2 _ _ _ _ _ _ _ _ _ _
      | exact ih3 _ _ _ _ _ _ _ _ _
      | exact ih4 _ _ _ _ _ _ _ _
      | exact ih5 _ _ _ _ _ _ _ _ _ _
      | exact ih6 _ _ _ _ _ _ _ _ _
      | exact ih7 _ _ _ _
      | exact impl_SyncLog.mono _ _ _
      | exact laws_eqLog.mono _ _ _ _ _
      | exact laws_eqLogResult.mono _ _ _ _ _ _ _
      | exact laws_heldLogResult.mono _ _ _ _ _
      | exact laws_markLog.mono _ _ _ _
      | exact laws_markLogResult.mono _ _ _ _ _
      | exact laws_toLog.mono _ _ _
      | exact LeO.none _
      | refine LeO.ite ?_ ?_
      | refine LeO.bind ?_ (fun _ => ?_)
set_option maxHeartbeats 8000000 in
set_option maxRecDepth 100000 in
theorem laws_FnExactSyncLog.calls (k : Nat) (A0_0 : Option Addr) (c0_0 : Nat) (l0_0 : List Int) (A0_1 : Option Addr) (c0_1 : Nat) (l0_1 : List Int) (r : Bool) (w : World) (hr0_0 : Kd.C (Kd.int .u8) w A0_0 l0_0.length l0_0) (hc0_0 : l0_0.length ≤ c0_0) (hr0_1 : Kd.C (Kd.int .u8) w A0_1 l0_1.length l0_1) (hc0_1 : l0_1.length ≤ c0_1) (h : laws_FnExactSyncLog.f k l0_0 l0_1 = some r) :
    Calls Try.prog 6 #[.agg #[.slice A0_0 l0_0.length c0_0, .slice A0_1 l0_1.length c0_1]] w fun e w' => e = .returned (.bool r) ∧ Below w.heap.size w w' := by
  have hu24 := Try.underlying24
  have hu46 := Try.underlying46
  have hu27 := Try.underlying27
  have HR0_0 := Aside0.mk hr0_0
  have HC0_0 := Aside0.mk hc0_0
  clear hr0_0 hc0_0
  have HR0_1 := Aside0.mk hr0_1
  have HC0_1 := Aside0.mk hc0_1
  clear hr0_1 hc0_1
  have HB := Aside0.mk (Below.refl w.heap.size w)
  have H : ((laws_szLog.f l0_0 l0_1 1048576).bind fun t183 => (if t183 < 0 then (some true) else (laws_FnExactSyncLog.j0 k l0_0 l0_1))) = some r := h
  clear h
  replace H := Option.bind_eq_some_iff.mp H
  obtain ⟨t183, A20, H⟩ := H
  replace H : (if t183 < 0 then (some true) else (laws_FnExactSyncLog.j0 k l0_0 l0_1)) = some r := H
  have A2 := Aside0.mk A20
  clear A20
  have HC3 := Aside0.mk H
  clear H
  go_enter Try.func6, Try.ntmps6
  go_upto_if 15 with (first | ((with_reducible refine gate_dst (N := 1) rfl ?_); refine box_event ?hg (N := 1) ?hd (cs := #[.slice A0_0 l0_0.length c0_0, .slice A0_1 l0_1.length c0_1]) (t := 24) ?hr ?_; (case hd => rfl); (case hg => rfl); (case hr => first | (go_simp; done) | (go_simp; rfl)); intro gb182 hg w4 hbox hb; have n0_ := Aside0.mk (below_step (by repeat (first | (with_reducible first | exact HB.out | apply below_alloc | apply pw_below_drewN | apply below_drew1) | exact HB.out)) hb); have n1_ := Aside0.mk (hbox); have n2_ := Aside0.mk ((by rw [hg]; exact (below_size (by repeat (first | (with_reducible first | exact HB.out | apply below_alloc | apply pw_below_drewN | apply below_drew1) | exact HB.out))) : w.heap.size ≤ gb182)); have n3_ := Aside0.mk ((by rw [hg]; exact (below_size (by repeat (first | (with_reducible first | exact HB.out | apply below_alloc | apply pw_below_drewN | apply below_drew1) | exact HB.out))) : w.heap.size ≤ gb182)); clear HB; have HB := n0_; have BK182 := n1_; have GW182 := n2_; have GE182 := n3_; clear n0_ n1_ n2_ n3_; clear hb hbox hg; have hcz5_0 : w4.cell? ⟨gb182, 0, none⟩ = some (.slice A0_0 l0_0.length c0_0) := (blk_cell BK182.out 0).trans rfl; have hcz5_1 : w4.cell? ⟨gb182, 1, none⟩ = some (.slice A0_1 l0_1.length c0_1) := (blk_cell BK182.out 1).trans rfl; have hfz5_0 := blk_frozen BK182.out 0; have hfz5_1 := blk_frozen BK182.out 1) | ((with_reducible refine gate_callee (f := 14) rfl ?_); refine goesL_ (some 13) rfl rfl Try.func14 (by kernel_rfl) rfl #[.agg #[.slice A0_0 l0_0.length c0_0, .slice A0_1 l0_1.length c0_1], .int .i64 1048576] rfl (by (try simp only [List.map_toArray, List.map_cons, List.map_nil]); first | done | rfl | (simp only [List.length_drop, List.length_take]; rfl)) ?_; (with_reducible refine (laws_szLog.calls _ _ l0_0 _ _ l0_1 1048576 t183 _ ?side1 ?side2 ?side3 ?side4 A2.out).mono ?_); (case side1 => repeat (first | exact (Kd.C_below HR0_0.out HB.out) | (with_reducible refine Kd.C_alloc ?_ _) | (with_reducible refine Kd.C_drewN ?_ _) | (with_reducible refine Kd.C_drew ?_))); (case side2 => exact HC0_0.out); (case side3 => repeat (first | exact (Kd.C_below HR0_1.out HB.out) | (with_reducible refine Kd.C_alloc ?_ _) | (with_reducible refine Kd.C_drewN ?_ _) | (with_reducible refine Kd.C_drew ?_))); (case side4 => exact HC0_1.out); rintro e w6 ⟨rfl, hb⟩; refine ⟨_, rfl, ?_⟩; have n0_ := Aside0.mk (blk_below (g := gb182) (o := .cells #[.slice A0_0 l0_0.length c0_0, .slice A0_1 l0_1.length c0_1] 24 (0, 0)) (by (with_reducible repeat (first | refine blk_drewN ?_ _ | refine blk_drew ?_ | refine blk_alloc ?_ _)); exact BK182.out) hb); have n1_ := Aside0.mk (below_step (by repeat (first | (with_reducible first | exact HB.out | apply below_alloc | apply pw_below_drewN | apply below_drew1 | refine below_set ?_ GE182.out) | exact HB.out)) hb); clear BK182; clear HB; have BK182 := n0_; have HB := n1_; clear n0_ n1_; (try clear hb); (try clear hb2); (try clear hk); (try clear hi)))
  (try simp only [Act.put, List.setIfInBounds_toArray, List.set_cons_zero, List.set_cons_succ])
  go_cut [] (fun wc => ∃ (kq : Nat), Aside0 (laws_FnExactSyncLog.j0 kq l0_0 l0_1 = some r) ∧ Aside0 (kq ≤ k) ∧ Aside0 (wc.heap[gb182]? = some (.cells #[(.slice A0_0 l0_0.length c0_0), (.slice A0_1 l0_1.length c0_1)] 24 (0, 0))) ∧ Aside0 (Below w.heap.size w wc))
  case first =>
    have H := HC3.out
    clear HC3
    by_cases c7 : t183 < 0
    · rw [if_pos c7] at H
      have c7b0 : decide (t183 < 0) = true := decide_eq_true c7
      clear c7
      (first | rw [c7b0] | (simp only [i64_w, i32_w]; rw [c7b0]) | skip)
      obtain rfl := Option.some.inj H
      go_wp2
      go_ret
      exact ⟨by first | rfl | (simp [errW_none, errW_some] <;> rfl) | (simp [*, errW_none, errW_some] <;> rfl), by repeat (first | (with_reducible first | exact HB.out | apply below_alloc | apply pw_below_drewN | apply below_drew1 | refine below_set ?_ GE182.out) | exact HB.out)⟩
    · rw [if_neg c7] at H
      have c7b0 : decide (t183 < 0) = false := decide_eq_false c7
      clear c7
      (first | rw [c7b0] | (simp only [i64_w, i32_w]; rw [c7b0]) | skip)
      have H' := Aside0.mk H
      clear H
      go_wp2
      go_meet
      case rel => exact ⟨_, H', ⟨by first | omega | exact Nat.le_refl _⟩, ⟨by (with_reducible repeat (first | refine blk_drewN ?_ _ | refine blk_drew ?_ | refine blk_alloc ?_ _)); exact BK182.out⟩, ⟨by repeat (first | (with_reducible first | exact HB.out | apply below_alloc | apply pw_below_drewN | apply below_drew1 | refine below_set ?_ GE182.out) | exact HB.out)⟩⟩
  case rest =>
    clear HC3
    try clear c1
    try clear p2
    try clear c6
    try clear c7
    try clear c7b0
    try clear hcz5_0
    try clear hcz5_1
    try clear hfz5_0
    try clear hfz5_1
    obtain ⟨kq, HA, HJ2, BK182, HB⟩ := hcut
    cases kq with
    | zero => exact absurd HA.out (by simp [laws_FnExactSyncLog.j0])
    | succ kj2 =>
      have H := HA.out
      clear HA
      simp only [laws_FnExactSyncLog.j0] at H
      replace H := Option.bind_eq_some_iff.mp H
      obtain ⟨⟨t184, t187⟩, A80, H⟩ := H
      replace H : ((spec_SyncLog.f t184 t187).bind fun bt190 => ((laws_toLog.f kj2 l0_0 l0_1).bind fun bt198 => ((impl_SyncLog.f kj2 bt198.1 bt198.2).bind fun bt205 => ((laws_eqLogResult.f kj2 bt205.1 bt205.2.1 bt205.2.2 bt190.1 bt190.2.1 bt190.2.2).bind fun t213 => (if t213 = true then (laws_FnExactSyncLog.j1 kj2 l0_0 l0_1 bt190.1 bt190.2.1 bt190.2.2 bt198.1 bt198.2 bt205.1 bt205.2.1 bt205.2.2) else (some false)))))) = some r := H
      have A8 := Aside0.mk A80
      clear A80
      replace H := Option.bind_eq_some_iff.mp H
      obtain ⟨⟨t190, t191, t194⟩, A90, H⟩ := H
      replace H : ((laws_toLog.f kj2 l0_0 l0_1).bind fun bt198 => ((impl_SyncLog.f kj2 bt198.1 bt198.2).bind fun bt205 => ((laws_eqLogResult.f kj2 bt205.1 bt205.2.1 bt205.2.2 t190 t191 t194).bind fun t213 => (if t213 = true then (laws_FnExactSyncLog.j1 kj2 l0_0 l0_1 t190 t191 t194 bt198.1 bt198.2 bt205.1 bt205.2.1 bt205.2.2) else (some false))))) = some r := H
      have A9 := Aside0.mk A90
      clear A90
      replace H := Option.bind_eq_some_iff.mp H
      obtain ⟨⟨t198, t201⟩, A100, H⟩ := H
      replace H : ((impl_SyncLog.f kj2 t198 t201).bind fun bt205 => ((laws_eqLogResult.f kj2 bt205.1 bt205.2.1 bt205.2.2 t190 t191 t194).bind fun t213 => (if t213 = true then (laws_FnExactSyncLog.j1 kj2 l0_0 l0_1 t190 t191 t194 t198 t201 bt205.1 bt205.2.1 bt205.2.2) else (some false)))) = some r := H
      have A10 := Aside0.mk A100
      clear A100
      replace H := Option.bind_eq_some_iff.mp H
      obtain ⟨⟨t205, t206, t209⟩, A110, H⟩ := H
      replace H : ((laws_eqLogResult.f kj2 t205 t206 t209 t190 t191 t194).bind fun t213 => (if t213 = true then (laws_FnExactSyncLog.j1 kj2 l0_0 l0_1 t190 t191 t194 t198 t201 t205 t206 t209) else (some false))) = some r := H
      have A11 := Aside0.mk A110
      clear A110
      replace H := Option.bind_eq_some_iff.mp H
      obtain ⟨t213, A120, H⟩ := H
      replace H : (if t213 = true then (laws_FnExactSyncLog.j1 kj2 l0_0 l0_1 t190 t191 t194 t198 t201 t205 t206 t209) else (some false)) = some r := H
      have A12 := Aside0.mk A120
      clear A120
      have HC13 := Aside0.mk H
      clear H
      have hcz14_0 : wc.cell? ⟨gb182, 0, none⟩ = some (.slice A0_0 l0_0.length c0_0) := (blk_cell BK182.out 0).trans rfl
      have hcz14_1 : wc.cell? ⟨gb182, 1, none⟩ = some (.slice A0_1 l0_1.length c0_1) := (blk_cell BK182.out 1).trans rfl
      have hfz14_0 := blk_frozen BK182.out 0
      have hfz14_1 := blk_frozen BK182.out 1
      go_upto_if 26 with (first | ((with_reducible refine gate_callee (f := 16) rfl ?_); refine goesL_ (some 17) rfl rfl Try.func16 (by kernel_rfl) rfl #[.agg #[.slice A0_0 l0_0.length c0_0, .slice A0_1 l0_1.length c0_1]] rfl (by (try simp only [List.map_toArray, List.map_cons, List.map_nil]); first | done | rfl | (simp only [List.length_drop, List.length_take]; rfl)) ?_; (with_reducible refine (laws_toLog.calls kj2 _ _ l0_0 _ _ l0_1 t184 t187 _ ?side1 ?side2 ?side3 ?side4 A8.out).mono ?_); (case side1 => repeat (first | exact (Kd.C_below HR0_0.out HB.out) | (with_reducible refine Kd.C_alloc ?_ _) | (with_reducible refine Kd.C_drewN ?_ _) | (with_reducible refine Kd.C_drew ?_))); (case side2 => exact HC0_0.out); (case side3 => repeat (first | exact (Kd.C_below HR0_1.out HB.out) | (with_reducible refine Kd.C_alloc ?_ _) | (with_reducible refine Kd.C_drewN ?_ _) | (with_reducible refine Kd.C_drew ?_))); (case side4 => exact HC0_1.out); rintro e w15 ⟨v185, v188, rfl, ho0, ho1, hb⟩; refine ⟨_, rfl, ?_⟩; have n0_ := Aside0.mk (Kd.R_lower ho0 (below_size (by repeat (first | (with_reducible first | exact HB.out | apply below_alloc | apply pw_below_drewN | apply below_drew1 | refine below_set ?_ GE182.out) | exact HB.out)))); have n1_ := Aside0.mk (Kd.R_lower ho1 (below_size (by repeat (first | (with_reducible first | exact HB.out | apply below_alloc | apply pw_below_drewN | apply below_drew1 | refine below_set ?_ GE182.out) | exact HB.out)))); have n2_ := Aside0.mk (blk_below (g := gb182) (o := .cells #[.slice A0_0 l0_0.length c0_0, .slice A0_1 l0_1.length c0_1] 24 (0, 0)) (by (with_reducible repeat (first | refine blk_drewN ?_ _ | refine blk_drew ?_ | refine blk_alloc ?_ _)); exact BK182.out) hb); have n3_ := Aside0.mk (below_step (by repeat (first | (with_reducible first | exact HB.out | apply below_alloc | apply pw_below_drewN | apply below_drew1 | refine below_set ?_ GE182.out) | exact HB.out)) hb); clear BK182; clear HB; have HO186 := n0_; have HO189 := n1_; have BK182 := n2_; have HB := n3_; clear n0_ n1_ n2_ n3_; (try clear hb); (try clear hb2); (try clear hk); (try clear hi); (try clear ho0); (try clear ho1); obtain ⟨Ao16, co16, eo16⟩ := Kd.R_slice HO186.out; subst eo16; obtain ⟨Ao17, co17, eo17⟩ := Kd.R_slice HO189.out; subst eo17) | ((with_reducible refine gate_callee (f := 31) rfl ?_); refine goesL_ (some 18) rfl rfl Try.func31 (by kernel_rfl) rfl #[.agg #[.slice Ao16 t184.length co16, .slice Ao17 t187.length co17]] rfl (by (try simp only [List.map_toArray, List.map_cons, List.map_nil]); first | done | rfl | (simp only [List.length_drop, List.length_take]; rfl)) ?_; (with_reducible refine (spec_SyncLog.calls _ _ t184 _ _ t187 t190 t191 t194 _ ?side1 ?side2 ?side3 ?side4 A9.out).mono ?_); (case side1 => repeat (first | exact (Kd.R_reads' HO186.out).2.2 | (with_reducible refine Kd.C_alloc ?_ _) | (with_reducible refine Kd.C_drewN ?_ _) | (with_reducible refine Kd.C_drew ?_))); (case side2 => exact (Kd.R_reads' HO186.out).2.1); (case side3 => repeat (first | exact (Kd.R_reads' HO189.out).2.2 | (with_reducible refine Kd.C_alloc ?_ _) | (with_reducible refine Kd.C_drewN ?_ _) | (with_reducible refine Kd.C_drew ?_))); (case side4 => exact (Kd.R_reads' HO189.out).2.1); rintro e w18 ⟨v192, v195, rfl, ho0, ho1, hb⟩; refine ⟨_, rfl, ?_⟩; have n0_ := Aside0.mk (Kd.R_mono (Kd.R_told (Kd.R_told (Kd.R_old (by (with_reducible repeat (first | apply Kd.R_alloc | apply Kd.R_drewN | apply Kd.R_drew)); exact HO186.out) hb) (Kd.R_base ho0)) (Kd.R_base ho1)) (fun _ h_ => h_.1)); have n1_ := Aside0.mk (Kd.R_mono (Kd.R_told (Kd.R_told (Kd.R_old (by (with_reducible repeat (first | apply Kd.R_alloc | apply Kd.R_drewN | apply Kd.R_drew)); exact HO189.out) hb) (Kd.R_base ho0)) (Kd.R_base ho1)) (fun _ h_ => h_.1)); have n2_ := Aside0.mk (Kd.R_lower (Kd.R_new' (Kd.R_new' ho0 (Kd.R_lt (by (with_reducible repeat (first | apply Kd.R_alloc | apply Kd.R_drewN | apply Kd.R_drew)); exact HO186.out))) (Kd.R_lt (by (with_reducible repeat (first | apply Kd.R_alloc | apply Kd.R_drewN | apply Kd.R_drew)); exact HO189.out))) (below_size (by repeat (first | (with_reducible first | exact HB.out | apply below_alloc | apply pw_below_drewN | apply below_drew1 | refine below_set ?_ GE182.out) | exact HB.out)))); have n3_ := Aside0.mk (Kd.R_lower (Kd.R_new' (Kd.R_new' ho1 (Kd.R_lt (by (with_reducible repeat (first | apply Kd.R_alloc | apply Kd.R_drewN | apply Kd.R_drew)); exact HO186.out))) (Kd.R_lt (by (with_reducible repeat (first | apply Kd.R_alloc | apply Kd.R_drewN | apply Kd.R_drew)); exact HO189.out))) (below_size (by repeat (first | (with_reducible first | exact HB.out | apply below_alloc | apply pw_below_drewN | apply below_drew1 | refine below_set ?_ GE182.out) | exact HB.out)))); have n4_ := Aside0.mk (blk_below (g := gb182) (o := .cells #[.slice A0_0 l0_0.length c0_0, .slice A0_1 l0_1.length c0_1] 24 (0, 0)) (by (with_reducible repeat (first | refine blk_drewN ?_ _ | refine blk_drew ?_ | refine blk_alloc ?_ _)); exact BK182.out) hb); have n5_ := Aside0.mk (below_step (by repeat (first | (with_reducible first | exact HB.out | apply below_alloc | apply pw_below_drewN | apply below_drew1 | refine below_set ?_ GE182.out) | exact HB.out)) hb); clear HO186; clear HO189; clear BK182; clear HB; have HO186 := n0_; have HO189 := n1_; have HO193 := n2_; have HO196 := n3_; have BK182 := n4_; have HB := n5_; clear n0_ n1_ n2_ n3_ n4_ n5_; (try clear hb); (try clear hb2); (try clear hk); (try clear hi); (try clear ho0); (try clear ho1)) | ((with_reducible refine gate_dst (N := 4) rfl ?_); refine box_event ?hg (N := 4) ?hd (cs := #[.int .i64 0, .slice none 0 0, .slice none 0 0]) (t := 46) ?hr ?_; (case hd => rfl); (case hg => rfl); (case hr => first | (go_simp; done) | (go_simp; rfl)); intro gb197 hg w19 hbox hb; have n0_ := Aside0.mk (Kd.R_below (by (with_reducible repeat (first | apply Kd.R_alloc | apply Kd.R_drewN | apply Kd.R_drew)); exact HO186.out) hb); have n1_ := Aside0.mk (Kd.R_below (by (with_reducible repeat (first | apply Kd.R_alloc | apply Kd.R_drewN | apply Kd.R_drew)); exact HO189.out) hb); have n2_ := Aside0.mk (Kd.R_below (by (with_reducible repeat (first | apply Kd.R_alloc | apply Kd.R_drewN | apply Kd.R_drew)); exact HO193.out) hb); have n3_ := Aside0.mk (Kd.R_below (by (with_reducible repeat (first | apply Kd.R_alloc | apply Kd.R_drewN | apply Kd.R_drew)); exact HO196.out) hb); have n4_ := Aside0.mk (blk_below (g := gb182) (o := .cells #[.slice A0_0 l0_0.length c0_0, .slice A0_1 l0_1.length c0_1] 24 (0, 0)) (by (with_reducible repeat (first | refine blk_drewN ?_ _ | refine blk_drew ?_ | refine blk_alloc ?_ _)); exact BK182.out) hb); have n5_ := Aside0.mk (below_step (by repeat (first | (with_reducible first | exact HB.out | apply below_alloc | apply pw_below_drewN | apply below_drew1 | refine below_set ?_ GE182.out) | exact HB.out)) hb); have n6_ := Aside0.mk (hbox); have n7_ := Aside0.mk ((by rw [hg]; exact (below_size (by repeat (first | (with_reducible first | exact HB.out | apply below_alloc | apply pw_below_drewN | apply below_drew1 | refine below_set ?_ GE182.out) | exact HB.out))) : w.heap.size ≤ gb197)); have n8_ := Aside0.mk ((by rw [hg]; exact (below_size (by repeat (first | (with_reducible first | exact HB.out | apply below_alloc | apply pw_below_drewN | apply below_drew1 | refine below_set ?_ GE182.out) | exact HB.out))) : w.heap.size ≤ gb197)); have n9_ := Aside0.mk ((by rw [hg]; exact Nat.ne_of_lt (blk_lt (g := gb182) (o := .cells #[.slice A0_0 l0_0.length c0_0, .slice A0_1 l0_1.length c0_1] 24 (0, 0)) (by (with_reducible repeat (first | refine blk_drewN ?_ _ | refine blk_drew ?_ | refine blk_alloc ?_ _)); exact BK182.out)) : gb182 ≠ gb197)); have n10_ := Aside0.mk ((by rw [hg]; exact Nat.ne_of_gt (blk_lt (g := gb182) (o := .cells #[.slice A0_0 l0_0.length c0_0, .slice A0_1 l0_1.length c0_1] 24 (0, 0)) (by (with_reducible repeat (first | refine blk_drewN ?_ _ | refine blk_drew ?_ | refine blk_alloc ?_ _)); exact BK182.out)) : gb197 ≠ gb182)); clear HO186; clear HO189; clear HO193; clear HO196; clear BK182; clear HB; have HO186 := n0_; have HO189 := n1_; have HO193 := n2_; have HO196 := n3_; have BK182 := n4_; have HB := n5_; have BK197 := n6_; have GW197 := n7_; have GE197 := n8_; have NB182_197 := n9_; have NB197_182 := n10_; clear n0_ n1_ n2_ n3_ n4_ n5_ n6_ n7_ n8_ n9_ n10_; clear hb hbox hg; have hnb20 := NB197_182.out; have hnc20 := NB182_197.out; have hcz21_0 : w19.cell? ⟨gb197, 0, none⟩ = some (.int .i64 0) := (blk_cell BK197.out 0).trans rfl; have hcz21_1 : w19.cell? ⟨gb197, 1, none⟩ = some (.slice none 0 0) := (blk_cell BK197.out 1).trans rfl; have hcz21_2 : w19.cell? ⟨gb197, 2, none⟩ = some (.slice none 0 0) := (blk_cell BK197.out 2).trans rfl; have hfz21_0 := blk_frozen BK197.out 0; have hfz21_1 := blk_frozen BK197.out 1; have hfz21_2 := blk_frozen BK197.out 2; obtain ⟨Ao22, co22, eo22⟩ := Kd.R_slice HO193.out; subst eo22; obtain ⟨Ao23, co23, eo23⟩ := Kd.R_slice HO196.out; subst eo23; have hcz24_0 : w19.cell? ⟨gb182, 0, none⟩ = some (.slice A0_0 l0_0.length c0_0) := (blk_cell BK182.out 0).trans rfl; have hcz24_1 : w19.cell? ⟨gb182, 1, none⟩ = some (.slice A0_1 l0_1.length c0_1) := (blk_cell BK182.out 1).trans rfl; have hfz24_0 := blk_frozen BK182.out 0; have hfz24_1 := blk_frozen BK182.out 1) | ((with_reducible refine gate_callee (f := 16) rfl ?_); refine goesL_ (some 20) rfl rfl Try.func16 (by kernel_rfl) rfl #[.agg #[.slice A0_0 l0_0.length c0_0, .slice A0_1 l0_1.length c0_1]] rfl (by (try simp only [List.map_toArray, List.map_cons, List.map_nil]); first | done | rfl | (simp only [List.length_drop, List.length_take]; rfl)) ?_; (with_reducible refine (laws_toLog.calls kj2 _ _ l0_0 _ _ l0_1 t198 t201 _ ?side1 ?side2 ?side3 ?side4 A10.out).mono ?_); (case side1 => exact Kd.C_below HR0_0.out (by repeat (first | (with_reducible first | exact HB.out | apply below_alloc | apply pw_below_drewN | apply below_drew1 | refine below_set ?_ GE182.out | refine below_set ?_ GE197.out) | exact HB.out))); (case side2 => exact HC0_0.out); (case side3 => exact Kd.C_below HR0_1.out (by repeat (first | (with_reducible first | exact HB.out | apply below_alloc | apply pw_below_drewN | apply below_drew1 | refine below_set ?_ GE182.out | refine below_set ?_ GE197.out) | exact HB.out))); (case side4 => exact HC0_1.out); rintro e w25 ⟨v199, v202, rfl, ho0, ho1, hb⟩; refine ⟨_, rfl, ?_⟩; have n0_ := Aside0.mk (Kd.R_mono (Kd.R_told (Kd.R_told (Kd.R_old (by (with_reducible repeat (first | apply Kd.R_alloc | apply Kd.R_drewN | apply Kd.R_drew)); exact (Kd.R_mono (Kd.R_far (p := ⟨gb197, 2, none⟩) (Kd.R_far (p := ⟨gb197, 1, none⟩) (Kd.R_far (p := ⟨gb197, 0, none⟩) (Kd.R_types HO186.out BK197.out (by decide)) (fun _ hk => hk.2) (.int .i64 t190)) (fun _ hk => hk.2) (.slice Ao22 t191.length co22)) (fun _ hk => hk.2) (.slice Ao23 t194.length co23)) (fun _ h_ => h_.1))) hb) (Kd.R_base ho0)) (Kd.R_base ho1)) (fun _ h_ => h_.1)); have n1_ := Aside0.mk (Kd.R_mono (Kd.R_told (Kd.R_told (Kd.R_old (by (with_reducible repeat (first | apply Kd.R_alloc | apply Kd.R_drewN | apply Kd.R_drew)); exact (Kd.R_mono (Kd.R_far (p := ⟨gb197, 2, none⟩) (Kd.R_far (p := ⟨gb197, 1, none⟩) (Kd.R_far (p := ⟨gb197, 0, none⟩) (Kd.R_types HO189.out BK197.out (by decide)) (fun _ hk => hk.2) (.int .i64 t190)) (fun _ hk => hk.2) (.slice Ao22 t191.length co22)) (fun _ hk => hk.2) (.slice Ao23 t194.length co23)) (fun _ h_ => h_.1))) hb) (Kd.R_base ho0)) (Kd.R_base ho1)) (fun _ h_ => h_.1)); have n2_ := Aside0.mk (Kd.R_mono (Kd.R_told (Kd.R_told (Kd.R_old (by (with_reducible repeat (first | apply Kd.R_alloc | apply Kd.R_drewN | apply Kd.R_drew)); exact (Kd.R_mono (Kd.R_far (p := ⟨gb197, 2, none⟩) (Kd.R_far (p := ⟨gb197, 1, none⟩) (Kd.R_far (p := ⟨gb197, 0, none⟩) (Kd.R_types HO193.out BK197.out (by decide)) (fun _ hk => hk.2) (.int .i64 t190)) (fun _ hk => hk.2) (.slice Ao22 t191.length co22)) (fun _ hk => hk.2) (.slice Ao23 t194.length co23)) (fun _ h_ => h_.1))) hb) (Kd.R_base ho0)) (Kd.R_base ho1)) (fun _ h_ => h_.1)); have n3_ := Aside0.mk (Kd.R_mono (Kd.R_told (Kd.R_told (Kd.R_old (by (with_reducible repeat (first | apply Kd.R_alloc | apply Kd.R_drewN | apply Kd.R_drew)); exact (Kd.R_mono (Kd.R_far (p := ⟨gb197, 2, none⟩) (Kd.R_far (p := ⟨gb197, 1, none⟩) (Kd.R_far (p := ⟨gb197, 0, none⟩) (Kd.R_types HO196.out BK197.out (by decide)) (fun _ hk => hk.2) (.int .i64 t190)) (fun _ hk => hk.2) (.slice Ao22 t191.length co22)) (fun _ hk => hk.2) (.slice Ao23 t194.length co23)) (fun _ h_ => h_.1))) hb) (Kd.R_base ho0)) (Kd.R_base ho1)) (fun _ h_ => h_.1)); have n4_ := Aside0.mk (Kd.R_lower (Kd.R_new' (Kd.R_new' (Kd.R_new' (Kd.R_new' ho0 (Kd.R_lt (by (with_reducible repeat (first | apply Kd.R_alloc | apply Kd.R_drewN | apply Kd.R_drew)); exact (Kd.R_mono (Kd.R_far (p := ⟨gb197, 2, none⟩) (Kd.R_far (p := ⟨gb197, 1, none⟩) (Kd.R_far (p := ⟨gb197, 0, none⟩) (Kd.R_types HO186.out BK197.out (by decide)) (fun _ hk => hk.2) (.int .i64 t190)) (fun _ hk => hk.2) (.slice Ao22 t191.length co22)) (fun _ hk => hk.2) (.slice Ao23 t194.length co23)) (fun _ h_ => h_.1))))) (Kd.R_lt (by (with_reducible repeat (first | apply Kd.R_alloc | apply Kd.R_drewN | apply Kd.R_drew)); exact (Kd.R_mono (Kd.R_far (p := ⟨gb197, 2, none⟩) (Kd.R_far (p := ⟨gb197, 1, none⟩) (Kd.R_far (p := ⟨gb197, 0, none⟩) (Kd.R_types HO189.out BK197.out (by decide)) (fun _ hk => hk.2) (.int .i64 t190)) (fun _ hk => hk.2) (.slice Ao22 t191.length co22)) (fun _ hk => hk.2) (.slice Ao23 t194.length co23)) (fun _ h_ => h_.1))))) (Kd.R_lt (by (with_reducible repeat (first | apply Kd.R_alloc | apply Kd.R_drewN | apply Kd.R_drew)); exact (Kd.R_mono (Kd.R_far (p := ⟨gb197, 2, none⟩) (Kd.R_far (p := ⟨gb197, 1, none⟩) (Kd.R_far (p := ⟨gb197, 0, none⟩) (Kd.R_types HO193.out BK197.out (by decide)) (fun _ hk => hk.2) (.int .i64 t190)) (fun _ hk => hk.2) (.slice Ao22 t191.length co22)) (fun _ hk => hk.2) (.slice Ao23 t194.length co23)) (fun _ h_ => h_.1))))) (Kd.R_lt (by (with_reducible repeat (first | apply Kd.R_alloc | apply Kd.R_drewN | apply Kd.R_drew)); exact (Kd.R_mono (Kd.R_far (p := ⟨gb197, 2, none⟩) (Kd.R_far (p := ⟨gb197, 1, none⟩) (Kd.R_far (p := ⟨gb197, 0, none⟩) (Kd.R_types HO196.out BK197.out (by decide)) (fun _ hk => hk.2) (.int .i64 t190)) (fun _ hk => hk.2) (.slice Ao22 t191.length co22)) (fun _ hk => hk.2) (.slice Ao23 t194.length co23)) (fun _ h_ => h_.1))))) (below_size (by repeat (first | (with_reducible first | exact HB.out | apply below_alloc | apply pw_below_drewN | apply below_drew1 | refine below_set ?_ GE182.out | refine below_set ?_ GE197.out) | exact HB.out)))); have n5_ := Aside0.mk (Kd.R_lower (Kd.R_new' (Kd.R_new' (Kd.R_new' (Kd.R_new' ho1 (Kd.R_lt (by (with_reducible repeat (first | apply Kd.R_alloc | apply Kd.R_drewN | apply Kd.R_drew)); exact (Kd.R_mono (Kd.R_far (p := ⟨gb197, 2, none⟩) (Kd.R_far (p := ⟨gb197, 1, none⟩) (Kd.R_far (p := ⟨gb197, 0, none⟩) (Kd.R_types HO186.out BK197.out (by decide)) (fun _ hk => hk.2) (.int .i64 t190)) (fun _ hk => hk.2) (.slice Ao22 t191.length co22)) (fun _ hk => hk.2) (.slice Ao23 t194.length co23)) (fun _ h_ => h_.1))))) (Kd.R_lt (by (with_reducible repeat (first | apply Kd.R_alloc | apply Kd.R_drewN | apply Kd.R_drew)); exact (Kd.R_mono (Kd.R_far (p := ⟨gb197, 2, none⟩) (Kd.R_far (p := ⟨gb197, 1, none⟩) (Kd.R_far (p := ⟨gb197, 0, none⟩) (Kd.R_types HO189.out BK197.out (by decide)) (fun _ hk => hk.2) (.int .i64 t190)) (fun _ hk => hk.2) (.slice Ao22 t191.length co22)) (fun _ hk => hk.2) (.slice Ao23 t194.length co23)) (fun _ h_ => h_.1))))) (Kd.R_lt (by (with_reducible repeat (first | apply Kd.R_alloc | apply Kd.R_drewN | apply Kd.R_drew)); exact (Kd.R_mono (Kd.R_far (p := ⟨gb197, 2, none⟩) (Kd.R_far (p := ⟨gb197, 1, none⟩) (Kd.R_far (p := ⟨gb197, 0, none⟩) (Kd.R_types HO193.out BK197.out (by decide)) (fun _ hk => hk.2) (.int .i64 t190)) (fun _ hk => hk.2) (.slice Ao22 t191.length co22)) (fun _ hk => hk.2) (.slice Ao23 t194.length co23)) (fun _ h_ => h_.1))))) (Kd.R_lt (by (with_reducible repeat (first | apply Kd.R_alloc | apply Kd.R_drewN | apply Kd.R_drew)); exact (Kd.R_mono (Kd.R_far (p := ⟨gb197, 2, none⟩) (Kd.R_far (p := ⟨gb197, 1, none⟩) (Kd.R_far (p := ⟨gb197, 0, none⟩) (Kd.R_types HO196.out BK197.out (by decide)) (fun _ hk => hk.2) (.int .i64 t190)) (fun _ hk => hk.2) (.slice Ao22 t191.length co22)) (fun _ hk => hk.2) (.slice Ao23 t194.length co23)) (fun _ h_ => h_.1))))) (below_size (by repeat (first | (with_reducible first | exact HB.out | apply below_alloc | apply pw_below_drewN | apply below_drew1 | refine below_set ?_ GE182.out | refine below_set ?_ GE197.out) | exact HB.out)))); have n6_ := Aside0.mk (blk_below (g := gb182) (o := .cells #[.slice A0_0 l0_0.length c0_0, .slice A0_1 l0_1.length c0_1] 24 (0, 0)) (by (with_reducible repeat (first | refine blk_drewN ?_ _ | refine blk_drew ?_ | refine blk_alloc ?_ _)); refine blk_far ?_ NB182_197.out _; (with_reducible repeat (first | refine blk_drewN ?_ _ | refine blk_drew ?_ | refine blk_alloc ?_ _)); refine blk_far ?_ NB182_197.out _; (with_reducible repeat (first | refine blk_drewN ?_ _ | refine blk_drew ?_ | refine blk_alloc ?_ _)); refine blk_far ?_ NB182_197.out _; (with_reducible repeat (first | refine blk_drewN ?_ _ | refine blk_drew ?_ | refine blk_alloc ?_ _)); exact BK182.out) hb); have n7_ := Aside0.mk (blk_below (g := gb197) (o := .cells #[.int .i64 t190, .slice Ao22 t191.length co22, .slice Ao23 t194.length co23] 46 (0, 0)) (by (with_reducible repeat (first | refine blk_drewN ?_ _ | refine blk_drew ?_ | refine blk_alloc ?_ _)); refine blk_put (cs := #[.int .i64 t190, .slice Ao22 t191.length co22, .slice none 0 0]) ?_ 2 _ rfl; (with_reducible repeat (first | refine blk_drewN ?_ _ | refine blk_drew ?_ | refine blk_alloc ?_ _)); refine blk_put (cs := #[.int .i64 t190, .slice none 0 0, .slice none 0 0]) ?_ 1 _ rfl; (with_reducible repeat (first | refine blk_drewN ?_ _ | refine blk_drew ?_ | refine blk_alloc ?_ _)); refine blk_put (cs := #[.int .i64 0, .slice none 0 0, .slice none 0 0]) ?_ 0 _ rfl; (with_reducible repeat (first | refine blk_drewN ?_ _ | refine blk_drew ?_ | refine blk_alloc ?_ _)); exact BK197.out) hb); have n8_ := Aside0.mk (below_step (by repeat (first | (with_reducible first | exact HB.out | apply below_alloc | apply pw_below_drewN | apply below_drew1 | refine below_set ?_ GE182.out | refine below_set ?_ GE197.out) | exact HB.out)) hb); clear HO186; clear HO189; clear HO193; clear HO196; clear BK182; clear BK197; clear HB; have HO186 := n0_; have HO189 := n1_; have HO193 := n2_; have HO196 := n3_; have HO200 := n4_; have HO203 := n5_; have BK182 := n6_; have BK197 := n7_; have HB := n8_; clear n0_ n1_ n2_ n3_ n4_ n5_ n6_ n7_ n8_; (try clear hb); (try clear hb2); (try clear hk); (try clear hi); (try clear ho0); (try clear ho1)) | ((with_reducible refine gate_dst (N := 5) rfl ?_); refine box_event ?hg (N := 5) ?hd (cs := #[.slice none 0 0, .slice none 0 0]) (t := 27) ?hr ?_; (case hd => rfl); (case hg => rfl); (case hr => first | (go_simp; done) | (go_simp; rfl)); intro gb204 hg w26 hbox hb; have n0_ := Aside0.mk (Kd.R_below (by (with_reducible repeat (first | apply Kd.R_alloc | apply Kd.R_drewN | apply Kd.R_drew)); exact HO186.out) hb); have n1_ := Aside0.mk (Kd.R_below (by (with_reducible repeat (first | apply Kd.R_alloc | apply Kd.R_drewN | apply Kd.R_drew)); exact HO189.out) hb); have n2_ := Aside0.mk (Kd.R_below (by (with_reducible repeat (first | apply Kd.R_alloc | apply Kd.R_drewN | apply Kd.R_drew)); exact HO193.out) hb); have n3_ := Aside0.mk (Kd.R_below (by (with_reducible repeat (first | apply Kd.R_alloc | apply Kd.R_drewN | apply Kd.R_drew)); exact HO196.out) hb); have n4_ := Aside0.mk (Kd.R_below (by (with_reducible repeat (first | apply Kd.R_alloc | apply Kd.R_drewN | apply Kd.R_drew)); exact HO200.out) hb); have n5_ := Aside0.mk (Kd.R_below (by (with_reducible repeat (first | apply Kd.R_alloc | apply Kd.R_drewN | apply Kd.R_drew)); exact HO203.out) hb); have n6_ := Aside0.mk (blk_below (g := gb182) (o := .cells #[.slice A0_0 l0_0.length c0_0, .slice A0_1 l0_1.length c0_1] 24 (0, 0)) (by (with_reducible repeat (first | refine blk_drewN ?_ _ | refine blk_drew ?_ | refine blk_alloc ?_ _)); exact BK182.out) hb); have n7_ := Aside0.mk (blk_below (g := gb197) (o := .cells #[.int .i64 t190, .slice Ao22 t191.length co22, .slice Ao23 t194.length co23] 46 (0, 0)) (by (with_reducible repeat (first | refine blk_drewN ?_ _ | refine blk_drew ?_ | refine blk_alloc ?_ _)); exact BK197.out) hb); have n8_ := Aside0.mk (below_step (by repeat (first | (with_reducible first | exact HB.out | apply below_alloc | apply pw_below_drewN | apply below_drew1 | refine below_set ?_ GE182.out | refine below_set ?_ GE197.out) | exact HB.out)) hb); have n9_ := Aside0.mk (hbox); have n10_ := Aside0.mk ((by rw [hg]; exact (below_size (by repeat (first | (with_reducible first | exact HB.out | apply below_alloc | apply pw_below_drewN | apply below_drew1 | refine below_set ?_ GE182.out | refine below_set ?_ GE197.out) | exact HB.out))) : w.heap.size ≤ gb204)); have n11_ := Aside0.mk ((by rw [hg]; exact (below_size (by repeat (first | (with_reducible first | exact HB.out | apply below_alloc | apply pw_below_drewN | apply below_drew1 | refine below_set ?_ GE182.out | refine below_set ?_ GE197.out) | exact HB.out))) : w.heap.size ≤ gb204)); have n12_ := Aside0.mk ((by rw [hg]; exact Nat.ne_of_lt (blk_lt (g := gb182) (o := .cells #[.slice A0_0 l0_0.length c0_0, .slice A0_1 l0_1.length c0_1] 24 (0, 0)) (by (with_reducible repeat (first | refine blk_drewN ?_ _ | refine blk_drew ?_ | refine blk_alloc ?_ _)); exact BK182.out)) : gb182 ≠ gb204)); have n13_ := Aside0.mk ((by rw [hg]; exact Nat.ne_of_gt (blk_lt (g := gb182) (o := .cells #[.slice A0_0 l0_0.length c0_0, .slice A0_1 l0_1.length c0_1] 24 (0, 0)) (by (with_reducible repeat (first | refine blk_drewN ?_ _ | refine blk_drew ?_ | refine blk_alloc ?_ _)); exact BK182.out)) : gb204 ≠ gb182)); have n14_ := Aside0.mk ((by rw [hg]; exact Nat.ne_of_lt (blk_lt (g := gb197) (o := .cells #[.int .i64 t190, .slice Ao22 t191.length co22, .slice Ao23 t194.length co23] 46 (0, 0)) (by (with_reducible repeat (first | refine blk_drewN ?_ _ | refine blk_drew ?_ | refine blk_alloc ?_ _)); exact BK197.out)) : gb197 ≠ gb204)); have n15_ := Aside0.mk ((by rw [hg]; exact Nat.ne_of_gt (blk_lt (g := gb197) (o := .cells #[.int .i64 t190, .slice Ao22 t191.length co22, .slice Ao23 t194.length co23] 46 (0, 0)) (by (with_reducible repeat (first | refine blk_drewN ?_ _ | refine blk_drew ?_ | refine blk_alloc ?_ _)); exact BK197.out)) : gb204 ≠ gb197)); clear HO186; clear HO189; clear HO193; clear HO196; clear HO200; clear HO203; clear BK182; clear BK197; clear HB; have HO186 := n0_; have HO189 := n1_; have HO193 := n2_; have HO196 := n3_; have HO200 := n4_; have HO203 := n5_; have BK182 := n6_; have BK197 := n7_; have HB := n8_; have BK204 := n9_; have GW204 := n10_; have GE204 := n11_; have NB182_204 := n12_; have NB204_182 := n13_; have NB197_204 := n14_; have NB204_197 := n15_; clear n0_ n1_ n2_ n3_ n4_ n5_ n6_ n7_ n8_ n9_ n10_ n11_ n12_ n13_ n14_ n15_; clear hb hbox hg; obtain ⟨Ao27, co27, eo27⟩ := Kd.R_slice HO200.out; subst eo27; have hnb28 := NB204_182.out; have hnc28 := NB182_204.out; have hnb29 := NB204_197.out; have hnc29 := NB197_204.out; have hcz30_0 : w26.cell? ⟨gb204, 0, none⟩ = some (.slice none 0 0) := (blk_cell BK204.out 0).trans rfl; have hcz30_1 : w26.cell? ⟨gb204, 1, none⟩ = some (.slice none 0 0) := (blk_cell BK204.out 1).trans rfl; have hfz30_0 := blk_frozen BK204.out 0; have hfz30_1 := blk_frozen BK204.out 1; obtain ⟨Ao31, co31, eo31⟩ := Kd.R_slice HO203.out; subst eo31) | ((with_reducible refine gate_store (t := 27) (p := 5) rfl ?_); refine store_event (t := 27) (p := 5) (v := ?vo_w32) (w1 := ((w26.setCell ⟨gb204, 0, none⟩ (.slice Ao27 t198.length co27)).setCell ⟨gb204, 1, none⟩ (.slice Ao31 t201.length co31))) ?hg ?ho ?hn ?hr ?_; (case ho => rfl); (case hg => rfl); (case hn => rfl); (case hr => first | (go_simp; done) | (go_simp; rfl)); intro w32 hw; have n0_ : Aside0 (Kd.R (Kd.int .u8) 5 w32 w.heap.size (fun k_ => some k_ ≠ (.slice Ao17 t187.length co17 : Value).ownBlock ∧ some k_ ≠ (.slice Ao22 t191.length co22 : Value).ownBlock ∧ some k_ ≠ (.slice Ao23 t194.length co23 : Value).ownBlock ∧ some k_ ≠ (.slice Ao27 t198.length co27 : Value).ownBlock ∧ some k_ ≠ (.slice Ao31 t201.length co31 : Value).ownBlock) (.slice Ao16 t184.length co16) t184) := ⟨(by rw [hw]; exact (by (with_reducible repeat (first | apply Kd.R_alloc | apply Kd.R_drewN | apply Kd.R_drew)); exact Kd.R_mono (Kd.R_far (p := ⟨gb204, 1, none⟩) (Kd.R_far (p := ⟨gb204, 0, none⟩) (Kd.R_types HO186.out BK204.out (by decide)) (fun _ hk => hk.2) (.slice Ao27 t198.length co27)) (fun _ hk => hk.2) (.slice Ao31 t201.length co31)) (fun _ hk => ⟨hk.1.1.1.1.1, ⟨hk.1.1.1.1.2, ⟨hk.1.1.1.2, ⟨hk.1.1.2, hk.1.2⟩⟩⟩⟩)))⟩; have n1_ : Aside0 (Kd.R (Kd.int .u8) 5 w32 w.heap.size (fun k_ => some k_ ≠ (.slice Ao16 t184.length co16 : Value).ownBlock ∧ some k_ ≠ (.slice Ao22 t191.length co22 : Value).ownBlock ∧ some k_ ≠ (.slice Ao23 t194.length co23 : Value).ownBlock ∧ some k_ ≠ (.slice Ao27 t198.length co27 : Value).ownBlock ∧ some k_ ≠ (.slice Ao31 t201.length co31 : Value).ownBlock) (.slice Ao17 t187.length co17) t187) := ⟨(by rw [hw]; exact (by (with_reducible repeat (first | apply Kd.R_alloc | apply Kd.R_drewN | apply Kd.R_drew)); exact Kd.R_mono (Kd.R_far (p := ⟨gb204, 1, none⟩) (Kd.R_far (p := ⟨gb204, 0, none⟩) (Kd.R_types HO189.out BK204.out (by decide)) (fun _ hk => hk.2) (.slice Ao27 t198.length co27)) (fun _ hk => hk.2) (.slice Ao31 t201.length co31)) (fun _ hk => ⟨hk.1.1.1.1.1, ⟨hk.1.1.1.1.2, ⟨hk.1.1.1.2, ⟨hk.1.1.2, hk.1.2⟩⟩⟩⟩)))⟩; have n2_ : Aside0 (Kd.R (Kd.int .u8) 5 w32 w.heap.size (fun k_ => some k_ ≠ (.slice Ao16 t184.length co16 : Value).ownBlock ∧ some k_ ≠ (.slice Ao17 t187.length co17 : Value).ownBlock ∧ some k_ ≠ (.slice Ao23 t194.length co23 : Value).ownBlock ∧ some k_ ≠ (.slice Ao27 t198.length co27 : Value).ownBlock ∧ some k_ ≠ (.slice Ao31 t201.length co31 : Value).ownBlock) (.slice Ao22 t191.length co22) t191) := ⟨(by rw [hw]; exact (by (with_reducible repeat (first | apply Kd.R_alloc | apply Kd.R_drewN | apply Kd.R_drew)); exact Kd.R_mono (Kd.R_far (p := ⟨gb204, 1, none⟩) (Kd.R_far (p := ⟨gb204, 0, none⟩) (Kd.R_types HO193.out BK204.out (by decide)) (fun _ hk => hk.2) (.slice Ao27 t198.length co27)) (fun _ hk => hk.2) (.slice Ao31 t201.length co31)) (fun _ hk => ⟨hk.1.1.1.1.2, ⟨hk.1.1.1.2, ⟨hk.1.1.1.1.1, ⟨hk.1.1.2, hk.1.2⟩⟩⟩⟩)))⟩; have n3_ : Aside0 (Kd.R (Kd.int .u8) 5 w32 w.heap.size (fun k_ => some k_ ≠ (.slice Ao16 t184.length co16 : Value).ownBlock ∧ some k_ ≠ (.slice Ao17 t187.length co17 : Value).ownBlock ∧ some k_ ≠ (.slice Ao22 t191.length co22 : Value).ownBlock ∧ some k_ ≠ (.slice Ao27 t198.length co27 : Value).ownBlock ∧ some k_ ≠ (.slice Ao31 t201.length co31 : Value).ownBlock) (.slice Ao23 t194.length co23) t194) := ⟨(by rw [hw]; exact (by (with_reducible repeat (first | apply Kd.R_alloc | apply Kd.R_drewN | apply Kd.R_drew)); exact Kd.R_mono (Kd.R_far (p := ⟨gb204, 1, none⟩) (Kd.R_far (p := ⟨gb204, 0, none⟩) (Kd.R_types HO196.out BK204.out (by decide)) (fun _ hk => hk.2) (.slice Ao27 t198.length co27)) (fun _ hk => hk.2) (.slice Ao31 t201.length co31)) (fun _ hk => ⟨hk.1.1.1.1.2, ⟨hk.1.1.1.2, ⟨hk.1.1.1.1.1, ⟨hk.1.1.2, hk.1.2⟩⟩⟩⟩)))⟩; have n4_ : Aside0 (Kd.R (Kd.int .u8) 5 w32 w.heap.size (fun k_ => some k_ ≠ (.slice Ao16 t184.length co16 : Value).ownBlock ∧ some k_ ≠ (.slice Ao17 t187.length co17 : Value).ownBlock ∧ some k_ ≠ (.slice Ao22 t191.length co22 : Value).ownBlock ∧ some k_ ≠ (.slice Ao23 t194.length co23 : Value).ownBlock ∧ some k_ ≠ (.slice Ao31 t201.length co31 : Value).ownBlock) (.slice Ao27 t198.length co27) t198) := ⟨(by rw [hw]; exact (by (with_reducible repeat (first | apply Kd.R_alloc | apply Kd.R_drewN | apply Kd.R_drew)); exact Kd.R_mono (Kd.R_far (p := ⟨gb204, 1, none⟩) (Kd.R_far (p := ⟨gb204, 0, none⟩) (Kd.R_types HO200.out BK204.out (by decide)) (fun _ hk => hk.2) (.slice Ao27 t198.length co27)) (fun _ hk => hk.2) (.slice Ao31 t201.length co31)) (fun _ hk => ⟨hk.1.1.1.1.2, ⟨hk.1.1.1.2, ⟨hk.1.1.2, ⟨hk.1.2, hk.1.1.1.1.1⟩⟩⟩⟩)))⟩; have n5_ : Aside0 (Kd.R (Kd.int .u8) 5 w32 w.heap.size (fun k_ => some k_ ≠ (.slice Ao16 t184.length co16 : Value).ownBlock ∧ some k_ ≠ (.slice Ao17 t187.length co17 : Value).ownBlock ∧ some k_ ≠ (.slice Ao22 t191.length co22 : Value).ownBlock ∧ some k_ ≠ (.slice Ao23 t194.length co23 : Value).ownBlock ∧ some k_ ≠ (.slice Ao27 t198.length co27 : Value).ownBlock) (.slice Ao31 t201.length co31) t201) := ⟨(by rw [hw]; exact (by (with_reducible repeat (first | apply Kd.R_alloc | apply Kd.R_drewN | apply Kd.R_drew)); exact Kd.R_mono (Kd.R_far (p := ⟨gb204, 1, none⟩) (Kd.R_far (p := ⟨gb204, 0, none⟩) (Kd.R_types HO203.out BK204.out (by decide)) (fun _ hk => hk.2) (.slice Ao27 t198.length co27)) (fun _ hk => hk.2) (.slice Ao31 t201.length co31)) (fun _ hk => ⟨hk.1.1.1.1.2, ⟨hk.1.1.1.2, ⟨hk.1.1.2, ⟨hk.1.2, hk.1.1.1.1.1⟩⟩⟩⟩)))⟩; have n6_ : Aside0 (w32.heap[gb182]? = some (.cells #[.slice A0_0 l0_0.length c0_0, .slice A0_1 l0_1.length c0_1] 24 (0, 0))) := ⟨(by rw [hw]; exact (by (with_reducible repeat (first | refine blk_drewN ?_ _ | refine blk_drew ?_ | refine blk_alloc ?_ _)); refine blk_far ?_ NB182_204.out _; (with_reducible repeat (first | refine blk_drewN ?_ _ | refine blk_drew ?_ | refine blk_alloc ?_ _)); refine blk_far ?_ NB182_204.out _; (with_reducible repeat (first | refine blk_drewN ?_ _ | refine blk_drew ?_ | refine blk_alloc ?_ _)); exact BK182.out))⟩; have n7_ : Aside0 (w32.heap[gb197]? = some (.cells #[.int .i64 t190, .slice Ao22 t191.length co22, .slice Ao23 t194.length co23] 46 (0, 0))) := ⟨(by rw [hw]; exact (by (with_reducible repeat (first | refine blk_drewN ?_ _ | refine blk_drew ?_ | refine blk_alloc ?_ _)); refine blk_far ?_ NB197_204.out _; (with_reducible repeat (first | refine blk_drewN ?_ _ | refine blk_drew ?_ | refine blk_alloc ?_ _)); refine blk_far ?_ NB197_204.out _; (with_reducible repeat (first | refine blk_drewN ?_ _ | refine blk_drew ?_ | refine blk_alloc ?_ _)); exact BK197.out))⟩; have n8_ : Aside0 (w32.heap[gb204]? = some (.cells #[.slice Ao27 t198.length co27, .slice Ao31 t201.length co31] 27 (0, 0))) := ⟨(by rw [hw]; exact (by (with_reducible repeat (first | refine blk_drewN ?_ _ | refine blk_drew ?_ | refine blk_alloc ?_ _)); refine blk_put (cs := #[.slice Ao27 t198.length co27, .slice none 0 0]) ?_ 1 _ rfl; (with_reducible repeat (first | refine blk_drewN ?_ _ | refine blk_drew ?_ | refine blk_alloc ?_ _)); refine blk_put (cs := #[.slice none 0 0, .slice none 0 0]) ?_ 0 _ rfl; (with_reducible repeat (first | refine blk_drewN ?_ _ | refine blk_drew ?_ | refine blk_alloc ?_ _)); exact BK204.out))⟩; have n9_ : Aside0 (Below w.heap.size w w32) := ⟨(by rw [hw]; exact (by repeat (first | (with_reducible first | exact HB.out | apply below_alloc | apply pw_below_drewN | apply below_drew1 | refine below_set ?_ GE182.out | refine below_set ?_ GE197.out | refine below_set ?_ GE204.out) | exact HB.out)))⟩; clear hw; clear HO186; clear HO189; clear HO193; clear HO196; clear HO200; clear HO203; clear BK182; clear BK197; clear BK204; clear HB; have HO186 := n0_; have HO189 := n1_; have HO193 := n2_; have HO196 := n3_; have HO200 := n4_; have HO203 := n5_; have BK182 := n6_; have BK197 := n7_; have BK204 := n8_; have HB := n9_; clear n0_ n1_ n2_ n3_ n4_ n5_ n6_ n7_ n8_ n9_; have hcz33_0 : w32.cell? ⟨gb204, 0, none⟩ = some (.slice Ao27 t198.length co27) := (blk_cell BK204.out 0).trans rfl; have hcz33_1 : w32.cell? ⟨gb204, 1, none⟩ = some (.slice Ao31 t201.length co31) := (blk_cell BK204.out 1).trans rfl; have hfz33_0 := blk_frozen BK204.out 0; have hfz33_1 := blk_frozen BK204.out 1) | ((with_reducible refine gate_callee (f := 32) rfl ?_); refine goesL_ (some 22) rfl rfl Try.func32 (by kernel_rfl) rfl #[.agg #[.slice Ao27 t198.length co27, .slice Ao31 t201.length co31]] rfl (by (try simp only [List.map_toArray, List.map_cons, List.map_nil]); first | done | rfl | (simp only [List.length_drop, List.length_take]; rfl)) ?_; (with_reducible refine (impl_SyncLog.calls kj2 (fun k_ => some k_ = (.slice Ao27 t198.length co27 : Value).ownBlock) _ _ t198 (fun k_ => some k_ = (.slice Ao31 t201.length co31 : Value).ownBlock) _ _ t201 t205 t206 t209 _ ?side1 ?side2 A11.out).mono ?_); (case side1 => exact Kd.R_V (Kd.R_tight rfl (Kd.R_types (Kd.R_types (Kd.R_types (HO200.out) BK182.out (by decide)) BK197.out (by decide)) BK204.out (by decide)))); (case side2 => exact Kd.R_V (Kd.R_tight rfl (Kd.R_types (Kd.R_types (Kd.R_types (HO203.out) BK182.out (by decide)) BK197.out (by decide)) BK204.out (by decide)))); rintro e w34 ⟨v207, v210, rfl, ho0, ho1, hb⟩; refine ⟨_, rfl, ?_⟩; have n0_ := Aside0.mk (Kd.R_mono (Kd.R_told (Kd.R_told (Kd.R_old (by (with_reducible repeat (first | apply Kd.R_alloc | apply Kd.R_drewN | apply Kd.R_drew)); exact HO186.out) hb) (Kd.R_base ho0)) (Kd.R_base ho1)) (fun _ h_ => h_.1)); have n1_ := Aside0.mk (Kd.R_mono (Kd.R_told (Kd.R_told (Kd.R_old (by (with_reducible repeat (first | apply Kd.R_alloc | apply Kd.R_drewN | apply Kd.R_drew)); exact HO189.out) hb) (Kd.R_base ho0)) (Kd.R_base ho1)) (fun _ h_ => h_.1)); have n2_ := Aside0.mk (Kd.R_mono (Kd.R_told (Kd.R_told (Kd.R_old (by (with_reducible repeat (first | apply Kd.R_alloc | apply Kd.R_drewN | apply Kd.R_drew)); exact HO193.out) hb) (Kd.R_base ho0)) (Kd.R_base ho1)) (fun _ h_ => h_.1)); have n3_ := Aside0.mk (Kd.R_mono (Kd.R_told (Kd.R_told (Kd.R_old (by (with_reducible repeat (first | apply Kd.R_alloc | apply Kd.R_drewN | apply Kd.R_drew)); exact HO196.out) hb) (Kd.R_base ho0)) (Kd.R_base ho1)) (fun _ h_ => h_.1)); have n4_ := Aside0.mk (Kd.R_mono (Kd.R_told (Kd.R_told (Kd.R_old (by (with_reducible repeat (first | apply Kd.R_alloc | apply Kd.R_drewN | apply Kd.R_drew)); exact HO200.out) hb) (Kd.R_base ho0)) (Kd.R_base ho1)) (fun _ h_ => h_.1)); have n5_ := Aside0.mk (Kd.R_mono (Kd.R_told (Kd.R_told (Kd.R_old (by (with_reducible repeat (first | apply Kd.R_alloc | apply Kd.R_drewN | apply Kd.R_drew)); exact HO203.out) hb) (Kd.R_base ho0)) (Kd.R_base ho1)) (fun _ h_ => h_.1)); have n6_ := Aside0.mk (Kd.R_lower (Kd.R_new' (Kd.R_new' (Kd.R_new' (Kd.R_new' (Kd.R_new' (Kd.R_new' (Kd.R_mono (ok' := fun k_ => some k_ ≠ (v210 : Value).ownBlock) ho0 (fun _ hk_ => hk_.2)) (Kd.R_lt (by (with_reducible repeat (first | apply Kd.R_alloc | apply Kd.R_drewN | apply Kd.R_drew)); exact HO186.out))) (Kd.R_lt (by (with_reducible repeat (first | apply Kd.R_alloc | apply Kd.R_drewN | apply Kd.R_drew)); exact HO189.out))) (Kd.R_lt (by (with_reducible repeat (first | apply Kd.R_alloc | apply Kd.R_drewN | apply Kd.R_drew)); exact HO193.out))) (Kd.R_lt (by (with_reducible repeat (first | apply Kd.R_alloc | apply Kd.R_drewN | apply Kd.R_drew)); exact HO196.out))) (Kd.R_lt (by (with_reducible repeat (first | apply Kd.R_alloc | apply Kd.R_drewN | apply Kd.R_drew)); exact HO200.out))) (Kd.R_lt (by (with_reducible repeat (first | apply Kd.R_alloc | apply Kd.R_drewN | apply Kd.R_drew)); exact HO203.out))) (below_size (by repeat (first | (with_reducible first | exact HB.out | apply below_alloc | apply pw_below_drewN | apply below_drew1 | refine below_set ?_ GE182.out | refine below_set ?_ GE197.out | refine below_set ?_ GE204.out) | exact HB.out)))); have n7_ := Aside0.mk (Kd.R_lower (Kd.R_new' (Kd.R_new' (Kd.R_new' (Kd.R_new' (Kd.R_new' (Kd.R_new' (Kd.R_mono (ok' := fun k_ => some k_ ≠ (v207 : Value).ownBlock) ho1 (fun _ hk_ => hk_.2)) (Kd.R_lt (by (with_reducible repeat (first | apply Kd.R_alloc | apply Kd.R_drewN | apply Kd.R_drew)); exact HO186.out))) (Kd.R_lt (by (with_reducible repeat (first | apply Kd.R_alloc | apply Kd.R_drewN | apply Kd.R_drew)); exact HO189.out))) (Kd.R_lt (by (with_reducible repeat (first | apply Kd.R_alloc | apply Kd.R_drewN | apply Kd.R_drew)); exact HO193.out))) (Kd.R_lt (by (with_reducible repeat (first | apply Kd.R_alloc | apply Kd.R_drewN | apply Kd.R_drew)); exact HO196.out))) (Kd.R_lt (by (with_reducible repeat (first | apply Kd.R_alloc | apply Kd.R_drewN | apply Kd.R_drew)); exact HO200.out))) (Kd.R_lt (by (with_reducible repeat (first | apply Kd.R_alloc | apply Kd.R_drewN | apply Kd.R_drew)); exact HO203.out))) (below_size (by repeat (first | (with_reducible first | exact HB.out | apply below_alloc | apply pw_below_drewN | apply below_drew1 | refine below_set ?_ GE182.out | refine below_set ?_ GE197.out | refine below_set ?_ GE204.out) | exact HB.out)))); have n8_ := Aside0.mk (blk_below (g := gb182) (o := .cells #[.slice A0_0 l0_0.length c0_0, .slice A0_1 l0_1.length c0_1] 24 (0, 0)) (by (with_reducible repeat (first | refine blk_drewN ?_ _ | refine blk_drew ?_ | refine blk_alloc ?_ _)); exact BK182.out) hb); have n9_ := Aside0.mk (blk_below (g := gb197) (o := .cells #[.int .i64 t190, .slice Ao22 t191.length co22, .slice Ao23 t194.length co23] 46 (0, 0)) (by (with_reducible repeat (first | refine blk_drewN ?_ _ | refine blk_drew ?_ | refine blk_alloc ?_ _)); exact BK197.out) hb); have n10_ := Aside0.mk (blk_below (g := gb204) (o := .cells #[.slice Ao27 t198.length co27, .slice Ao31 t201.length co31] 27 (0, 0)) (by (with_reducible repeat (first | refine blk_drewN ?_ _ | refine blk_drew ?_ | refine blk_alloc ?_ _)); exact BK204.out) hb); have n11_ := Aside0.mk (below_step (by repeat (first | (with_reducible first | exact HB.out | apply below_alloc | apply pw_below_drewN | apply below_drew1 | refine below_set ?_ GE182.out | refine below_set ?_ GE197.out | refine below_set ?_ GE204.out) | exact HB.out)) hb); clear HO186; clear HO189; clear HO193; clear HO196; clear HO200; clear HO203; clear BK182; clear BK197; clear BK204; clear HB; have HO186 := n0_; have HO189 := n1_; have HO193 := n2_; have HO196 := n3_; have HO200 := n4_; have HO203 := n5_; have HO208 := n6_; have HO211 := n7_; have BK182 := n8_; have BK197 := n9_; have BK204 := n10_; have HB := n11_; clear n0_ n1_ n2_ n3_ n4_ n5_ n6_ n7_ n8_ n9_ n10_ n11_; (try clear hb); (try clear hb2); (try clear hk); (try clear hi); (try clear ho0); (try clear ho1)) | ((with_reducible refine gate_dst (N := 6) rfl ?_); refine box_event ?hg (N := 6) ?hd (cs := #[.int .i64 0, .slice none 0 0, .slice none 0 0]) (t := 46) ?hr ?_; (case hd => rfl); (case hg => rfl); (case hr => first | (go_simp; done) | (go_simp; rfl)); intro gb212 hg w35 hbox hb; have n0_ := Aside0.mk (Kd.R_below (by (with_reducible repeat (first | apply Kd.R_alloc | apply Kd.R_drewN | apply Kd.R_drew)); exact HO186.out) hb); have n1_ := Aside0.mk (Kd.R_below (by (with_reducible repeat (first | apply Kd.R_alloc | apply Kd.R_drewN | apply Kd.R_drew)); exact HO189.out) hb); have n2_ := Aside0.mk (Kd.R_below (by (with_reducible repeat (first | apply Kd.R_alloc | apply Kd.R_drewN | apply Kd.R_drew)); exact HO193.out) hb); have n3_ := Aside0.mk (Kd.R_below (by (with_reducible repeat (first | apply Kd.R_alloc | apply Kd.R_drewN | apply Kd.R_drew)); exact HO196.out) hb); have n4_ := Aside0.mk (Kd.R_below (by (with_reducible repeat (first | apply Kd.R_alloc | apply Kd.R_drewN | apply Kd.R_drew)); exact HO200.out) hb); have n5_ := Aside0.mk (Kd.R_below (by (with_reducible repeat (first | apply Kd.R_alloc | apply Kd.R_drewN | apply Kd.R_drew)); exact HO203.out) hb); have n6_ := Aside0.mk (Kd.R_below (by (with_reducible repeat (first | apply Kd.R_alloc | apply Kd.R_drewN | apply Kd.R_drew)); exact HO208.out) hb); have n7_ := Aside0.mk (Kd.R_below (by (with_reducible repeat (first | apply Kd.R_alloc | apply Kd.R_drewN | apply Kd.R_drew)); exact HO211.out) hb); have n8_ := Aside0.mk (blk_below (g := gb182) (o := .cells #[.slice A0_0 l0_0.length c0_0, .slice A0_1 l0_1.length c0_1] 24 (0, 0)) (by (with_reducible repeat (first | refine blk_drewN ?_ _ | refine blk_drew ?_ | refine blk_alloc ?_ _)); exact BK182.out) hb); have n9_ := Aside0.mk (blk_below (g := gb197) (o := .cells #[.int .i64 t190, .slice Ao22 t191.length co22, .slice Ao23 t194.length co23] 46 (0, 0)) (by (with_reducible repeat (first | refine blk_drewN ?_ _ | refine blk_drew ?_ | refine blk_alloc ?_ _)); exact BK197.out) hb); have n10_ := Aside0.mk (blk_below (g := gb204) (o := .cells #[.slice Ao27 t198.length co27, .slice Ao31 t201.length co31] 27 (0, 0)) (by (with_reducible repeat (first | refine blk_drewN ?_ _ | refine blk_drew ?_ | refine blk_alloc ?_ _)); exact BK204.out) hb); have n11_ := Aside0.mk (below_step (by repeat (first | (with_reducible first | exact HB.out | apply below_alloc | apply pw_below_drewN | apply below_drew1 | refine below_set ?_ GE182.out | refine below_set ?_ GE197.out | refine below_set ?_ GE204.out) | exact HB.out)) hb); have n12_ := Aside0.mk (hbox); have n13_ := Aside0.mk ((by rw [hg]; exact (below_size (by repeat (first | (with_reducible first | exact HB.out | apply below_alloc | apply pw_below_drewN | apply below_drew1 | refine below_set ?_ GE182.out | refine below_set ?_ GE197.out | refine below_set ?_ GE204.out) | exact HB.out))) : w.heap.size ≤ gb212)); have n14_ := Aside0.mk ((by rw [hg]; exact (below_size (by repeat (first | (with_reducible first | exact HB.out | apply below_alloc | apply pw_below_drewN | apply below_drew1 | refine below_set ?_ GE182.out | refine below_set ?_ GE197.out | refine below_set ?_ GE204.out) | exact HB.out))) : w.heap.size ≤ gb212)); have n15_ := Aside0.mk ((by rw [hg]; exact Nat.ne_of_lt (blk_lt (g := gb182) (o := .cells #[.slice A0_0 l0_0.length c0_0, .slice A0_1 l0_1.length c0_1] 24 (0, 0)) (by (with_reducible repeat (first | refine blk_drewN ?_ _ | refine blk_drew ?_ | refine blk_alloc ?_ _)); exact BK182.out)) : gb182 ≠ gb212)); have n16_ := Aside0.mk ((by rw [hg]; exact Nat.ne_of_gt (blk_lt (g := gb182) (o := .cells #[.slice A0_0 l0_0.length c0_0, .slice A0_1 l0_1.length c0_1] 24 (0, 0)) (by (with_reducible repeat (first | refine blk_drewN ?_ _ | refine blk_drew ?_ | refine blk_alloc ?_ _)); exact BK182.out)) : gb212 ≠ gb182)); have n17_ := Aside0.mk ((by rw [hg]; exact Nat.ne_of_lt (blk_lt (g := gb197) (o := .cells #[.int .i64 t190, .slice Ao22 t191.length co22, .slice Ao23 t194.length co23] 46 (0, 0)) (by (with_reducible repeat (first | refine blk_drewN ?_ _ | refine blk_drew ?_ | refine blk_alloc ?_ _)); exact BK197.out)) : gb197 ≠ gb212)); have n18_ := Aside0.mk ((by rw [hg]; exact Nat.ne_of_gt (blk_lt (g := gb197) (o := .cells #[.int .i64 t190, .slice Ao22 t191.length co22, .slice Ao23 t194.length co23] 46 (0, 0)) (by (with_reducible repeat (first | refine blk_drewN ?_ _ | refine blk_drew ?_ | refine blk_alloc ?_ _)); exact BK197.out)) : gb212 ≠ gb197)); have n19_ := Aside0.mk ((by rw [hg]; exact Nat.ne_of_lt (blk_lt (g := gb204) (o := .cells #[.slice Ao27 t198.length co27, .slice Ao31 t201.length co31] 27 (0, 0)) (by (with_reducible repeat (first | refine blk_drewN ?_ _ | refine blk_drew ?_ | refine blk_alloc ?_ _)); exact BK204.out)) : gb204 ≠ gb212)); have n20_ := Aside0.mk ((by rw [hg]; exact Nat.ne_of_gt (blk_lt (g := gb204) (o := .cells #[.slice Ao27 t198.length co27, .slice Ao31 t201.length co31] 27 (0, 0)) (by (with_reducible repeat (first | refine blk_drewN ?_ _ | refine blk_drew ?_ | refine blk_alloc ?_ _)); exact BK204.out)) : gb212 ≠ gb204)); clear HO186; clear HO189; clear HO193; clear HO196; clear HO200; clear HO203; clear HO208; clear HO211; clear BK182; clear BK197; clear BK204; clear HB; have HO186 := n0_; have HO189 := n1_; have HO193 := n2_; have HO196 := n3_; have HO200 := n4_; have HO203 := n5_; have HO208 := n6_; have HO211 := n7_; have BK182 := n8_; have BK197 := n9_; have BK204 := n10_; have HB := n11_; have BK212 := n12_; have GW212 := n13_; have GE212 := n14_; have NB182_212 := n15_; have NB212_182 := n16_; have NB197_212 := n17_; have NB212_197 := n18_; have NB204_212 := n19_; have NB212_204 := n20_; clear n0_ n1_ n2_ n3_ n4_ n5_ n6_ n7_ n8_ n9_ n10_ n11_ n12_ n13_ n14_ n15_ n16_ n17_ n18_ n19_ n20_; clear hb hbox hg; have hnb36 := NB212_182.out; have hnc36 := NB182_212.out; have hnb37 := NB212_197.out; have hnc37 := NB197_212.out; have hnb38 := NB212_204.out; have hnc38 := NB204_212.out; have hcz39_0 : w35.cell? ⟨gb212, 0, none⟩ = some (.int .i64 0) := (blk_cell BK212.out 0).trans rfl; have hcz39_1 : w35.cell? ⟨gb212, 1, none⟩ = some (.slice none 0 0) := (blk_cell BK212.out 1).trans rfl; have hcz39_2 : w35.cell? ⟨gb212, 2, none⟩ = some (.slice none 0 0) := (blk_cell BK212.out 2).trans rfl; have hfz39_0 := blk_frozen BK212.out 0; have hfz39_1 := blk_frozen BK212.out 1; have hfz39_2 := blk_frozen BK212.out 2; obtain ⟨Ao40, co40, eo40⟩ := Kd.R_slice HO208.out; subst eo40; obtain ⟨Ao41, co41, eo41⟩ := Kd.R_slice HO211.out; subst eo41; have hcz42_0 : w35.cell? ⟨gb197, 0, none⟩ = some (.int .i64 t190) := (blk_cell BK197.out 0).trans rfl; have hcz42_1 : w35.cell? ⟨gb197, 1, none⟩ = some (.slice Ao22 t191.length co22) := (blk_cell BK197.out 1).trans rfl; have hcz42_2 : w35.cell? ⟨gb197, 2, none⟩ = some (.slice Ao23 t194.length co23) := (blk_cell BK197.out 2).trans rfl; have hfz42_0 := blk_frozen BK197.out 0; have hfz42_1 := blk_frozen BK197.out 1; have hfz42_2 := blk_frozen BK197.out 2) | ((with_reducible refine gate_callee (f := 33) rfl ?_); refine goesL_ (some 25) rfl rfl Try.func33 (by kernel_rfl) rfl #[.agg #[.int .i64 t205, .slice Ao40 t206.length co40, .slice Ao41 t209.length co41], .agg #[.int .i64 t190, .slice Ao22 t191.length co22, .slice Ao23 t194.length co23]] rfl (by (try simp only [List.map_toArray, List.map_cons, List.map_nil]); first | done | rfl | (simp only [List.length_drop, List.length_take]; rfl)) ?_; (with_reducible refine (laws_eqLogResult.calls kj2 t205 _ _ t206 _ _ t209 t190 _ _ t191 _ _ t194 t213 _ ?side1 ?side2 ?side3 ?side4 ?side5 ?side6 ?side7 ?side8 A12.out).mono ?_); (case side1 => refine (Kd.R_reads' (e := 5) (base := w.heap.size) (ok := fun k_ => ((((((some k_ ≠ (.slice Ao41 t209.length co41 : Value).ownBlock ∧ some k_ ≠ (.slice Ao16 t184.length co16 : Value).ownBlock) ∧ some k_ ≠ (.slice Ao17 t187.length co17 : Value).ownBlock) ∧ some k_ ≠ (.slice Ao22 t191.length co22 : Value).ownBlock) ∧ some k_ ≠ (.slice Ao23 t194.length co23 : Value).ownBlock) ∧ some k_ ≠ (.slice Ao27 t198.length co27 : Value).ownBlock) ∧ some k_ ≠ (.slice Ao31 t201.length co31 : Value).ownBlock)) (n := t206.length) (c := co40) ?_).2.2; exact (by (with_reducible repeat (first | apply Kd.R_alloc | apply Kd.R_drewN | apply Kd.R_drew)); exact (Kd.R_mono (Kd.R_far (p := ⟨gb212, 2, none⟩) (Kd.R_far (p := ⟨gb212, 1, none⟩) (Kd.R_far (p := ⟨gb212, 0, none⟩) (Kd.R_types HO208.out BK212.out (by decide)) (fun _ hk => hk.2) (.int .i64 t205)) (fun _ hk => hk.2) (.slice Ao40 t206.length co40)) (fun _ hk => hk.2) (.slice Ao41 t209.length co41)) (fun _ h_ => h_.1)))); (case side2 => exact (Kd.R_reads' HO208.out).2.1); (case side3 => refine (Kd.R_reads' (e := 5) (base := w.heap.size) (ok := fun k_ => ((((((some k_ ≠ (.slice Ao40 t206.length co40 : Value).ownBlock ∧ some k_ ≠ (.slice Ao16 t184.length co16 : Value).ownBlock) ∧ some k_ ≠ (.slice Ao17 t187.length co17 : Value).ownBlock) ∧ some k_ ≠ (.slice Ao22 t191.length co22 : Value).ownBlock) ∧ some k_ ≠ (.slice Ao23 t194.length co23 : Value).ownBlock) ∧ some k_ ≠ (.slice Ao27 t198.length co27 : Value).ownBlock) ∧ some k_ ≠ (.slice Ao31 t201.length co31 : Value).ownBlock)) (n := t209.length) (c := co41) ?_).2.2; exact (by (with_reducible repeat (first | apply Kd.R_alloc | apply Kd.R_drewN | apply Kd.R_drew)); exact (Kd.R_mono (Kd.R_far (p := ⟨gb212, 2, none⟩) (Kd.R_far (p := ⟨gb212, 1, none⟩) (Kd.R_far (p := ⟨gb212, 0, none⟩) (Kd.R_types HO211.out BK212.out (by decide)) (fun _ hk => hk.2) (.int .i64 t205)) (fun _ hk => hk.2) (.slice Ao40 t206.length co40)) (fun _ hk => hk.2) (.slice Ao41 t209.length co41)) (fun _ h_ => h_.1)))); (case side4 => exact (Kd.R_reads' HO211.out).2.1); (case side5 => refine (Kd.R_reads' (e := 5) (base := w.heap.size) (ok := fun k_ => (((some k_ ≠ (.slice Ao16 t184.length co16 : Value).ownBlock ∧ (some k_ ≠ (.slice Ao17 t187.length co17 : Value).ownBlock ∧ (some k_ ≠ (.slice Ao23 t194.length co23 : Value).ownBlock ∧ (some k_ ≠ (.slice Ao27 t198.length co27 : Value).ownBlock ∧ some k_ ≠ (.slice Ao31 t201.length co31 : Value).ownBlock)))) ∧ some k_ ≠ (.slice Ao40 t206.length co40 : Value).ownBlock) ∧ some k_ ≠ (.slice Ao41 t209.length co41 : Value).ownBlock)) (n := t191.length) (c := co22) ?_).2.2; exact (by (with_reducible repeat (first | apply Kd.R_alloc | apply Kd.R_drewN | apply Kd.R_drew)); exact (Kd.R_mono (Kd.R_far (p := ⟨gb212, 2, none⟩) (Kd.R_far (p := ⟨gb212, 1, none⟩) (Kd.R_far (p := ⟨gb212, 0, none⟩) (Kd.R_types HO193.out BK212.out (by decide)) (fun _ hk => hk.2) (.int .i64 t205)) (fun _ hk => hk.2) (.slice Ao40 t206.length co40)) (fun _ hk => hk.2) (.slice Ao41 t209.length co41)) (fun _ h_ => h_.1)))); (case side6 => exact (Kd.R_reads' HO193.out).2.1); (case side7 => refine (Kd.R_reads' (e := 5) (base := w.heap.size) (ok := fun k_ => (((some k_ ≠ (.slice Ao16 t184.length co16 : Value).ownBlock ∧ (some k_ ≠ (.slice Ao17 t187.length co17 : Value).ownBlock ∧ (some k_ ≠ (.slice Ao22 t191.length co22 : Value).ownBlock ∧ (some k_ ≠ (.slice Ao27 t198.length co27 : Value).ownBlock ∧ some k_ ≠ (.slice Ao31 t201.length co31 : Value).ownBlock)))) ∧ some k_ ≠ (.slice Ao40 t206.length co40 : Value).ownBlock) ∧ some k_ ≠ (.slice Ao41 t209.length co41 : Value).ownBlock)) (n := t194.length) (c := co23) ?_).2.2; exact (by (with_reducible repeat (first | apply Kd.R_alloc | apply Kd.R_drewN | apply Kd.R_drew)); exact (Kd.R_mono (Kd.R_far (p := ⟨gb212, 2, none⟩) (Kd.R_far (p := ⟨gb212, 1, none⟩) (Kd.R_far (p := ⟨gb212, 0, none⟩) (Kd.R_types HO196.out BK212.out (by decide)) (fun _ hk => hk.2) (.int .i64 t205)) (fun _ hk => hk.2) (.slice Ao40 t206.length co40)) (fun _ hk => hk.2) (.slice Ao41 t209.length co41)) (fun _ h_ => h_.1)))); (case side8 => exact (Kd.R_reads' HO196.out).2.1); rintro e w43 ⟨rfl, hb⟩; refine ⟨_, rfl, ?_⟩; have n0_ := Aside0.mk (Kd.R_below (by (with_reducible repeat (first | apply Kd.R_alloc | apply Kd.R_drewN | apply Kd.R_drew)); exact (Kd.R_mono (Kd.R_far (p := ⟨gb212, 2, none⟩) (Kd.R_far (p := ⟨gb212, 1, none⟩) (Kd.R_far (p := ⟨gb212, 0, none⟩) (Kd.R_types HO186.out BK212.out (by decide)) (fun _ hk => hk.2) (.int .i64 t205)) (fun _ hk => hk.2) (.slice Ao40 t206.length co40)) (fun _ hk => hk.2) (.slice Ao41 t209.length co41)) (fun _ h_ => h_.1))) hb); have n1_ := Aside0.mk (Kd.R_below (by (with_reducible repeat (first | apply Kd.R_alloc | apply Kd.R_drewN | apply Kd.R_drew)); exact (Kd.R_mono (Kd.R_far (p := ⟨gb212, 2, none⟩) (Kd.R_far (p := ⟨gb212, 1, none⟩) (Kd.R_far (p := ⟨gb212, 0, none⟩) (Kd.R_types HO189.out BK212.out (by decide)) (fun _ hk => hk.2) (.int .i64 t205)) (fun _ hk => hk.2) (.slice Ao40 t206.length co40)) (fun _ hk => hk.2) (.slice Ao41 t209.length co41)) (fun _ h_ => h_.1))) hb); have n2_ := Aside0.mk (Kd.R_below (by (with_reducible repeat (first | apply Kd.R_alloc | apply Kd.R_drewN | apply Kd.R_drew)); exact (Kd.R_mono (Kd.R_far (p := ⟨gb212, 2, none⟩) (Kd.R_far (p := ⟨gb212, 1, none⟩) (Kd.R_far (p := ⟨gb212, 0, none⟩) (Kd.R_types HO193.out BK212.out (by decide)) (fun _ hk => hk.2) (.int .i64 t205)) (fun _ hk => hk.2) (.slice Ao40 t206.length co40)) (fun _ hk => hk.2) (.slice Ao41 t209.length co41)) (fun _ h_ => h_.1))) hb); have n3_ := Aside0.mk (Kd.R_below (by (with_reducible repeat (first | apply Kd.R_alloc | apply Kd.R_drewN | apply Kd.R_drew)); exact (Kd.R_mono (Kd.R_far (p := ⟨gb212, 2, none⟩) (Kd.R_far (p := ⟨gb212, 1, none⟩) (Kd.R_far (p := ⟨gb212, 0, none⟩) (Kd.R_types HO196.out BK212.out (by decide)) (fun _ hk => hk.2) (.int .i64 t205)) (fun _ hk => hk.2) (.slice Ao40 t206.length co40)) (fun _ hk => hk.2) (.slice Ao41 t209.length co41)) (fun _ h_ => h_.1))) hb); have n4_ := Aside0.mk (Kd.R_below (by (with_reducible repeat (first | apply Kd.R_alloc | apply Kd.R_drewN | apply Kd.R_drew)); exact (Kd.R_mono (Kd.R_far (p := ⟨gb212, 2, none⟩) (Kd.R_far (p := ⟨gb212, 1, none⟩) (Kd.R_far (p := ⟨gb212, 0, none⟩) (Kd.R_types HO200.out BK212.out (by decide)) (fun _ hk => hk.2) (.int .i64 t205)) (fun _ hk => hk.2) (.slice Ao40 t206.length co40)) (fun _ hk => hk.2) (.slice Ao41 t209.length co41)) (fun _ h_ => h_.1))) hb); have n5_ := Aside0.mk (Kd.R_below (by (with_reducible repeat (first | apply Kd.R_alloc | apply Kd.R_drewN | apply Kd.R_drew)); exact (Kd.R_mono (Kd.R_far (p := ⟨gb212, 2, none⟩) (Kd.R_far (p := ⟨gb212, 1, none⟩) (Kd.R_far (p := ⟨gb212, 0, none⟩) (Kd.R_types HO203.out BK212.out (by decide)) (fun _ hk => hk.2) (.int .i64 t205)) (fun _ hk => hk.2) (.slice Ao40 t206.length co40)) (fun _ hk => hk.2) (.slice Ao41 t209.length co41)) (fun _ h_ => h_.1))) hb); have n6_ := Aside0.mk (Kd.R_below (by (with_reducible repeat (first | apply Kd.R_alloc | apply Kd.R_drewN | apply Kd.R_drew)); exact (Kd.R_mono (Kd.R_far (p := ⟨gb212, 2, none⟩) (Kd.R_far (p := ⟨gb212, 1, none⟩) (Kd.R_far (p := ⟨gb212, 0, none⟩) (Kd.R_types HO208.out BK212.out (by decide)) (fun _ hk => hk.2) (.int .i64 t205)) (fun _ hk => hk.2) (.slice Ao40 t206.length co40)) (fun _ hk => hk.2) (.slice Ao41 t209.length co41)) (fun _ h_ => h_.1))) hb); have n7_ := Aside0.mk (Kd.R_below (by (with_reducible repeat (first | apply Kd.R_alloc | apply Kd.R_drewN | apply Kd.R_drew)); exact (Kd.R_mono (Kd.R_far (p := ⟨gb212, 2, none⟩) (Kd.R_far (p := ⟨gb212, 1, none⟩) (Kd.R_far (p := ⟨gb212, 0, none⟩) (Kd.R_types HO211.out BK212.out (by decide)) (fun _ hk => hk.2) (.int .i64 t205)) (fun _ hk => hk.2) (.slice Ao40 t206.length co40)) (fun _ hk => hk.2) (.slice Ao41 t209.length co41)) (fun _ h_ => h_.1))) hb); have n8_ := Aside0.mk (blk_below (g := gb182) (o := .cells #[.slice A0_0 l0_0.length c0_0, .slice A0_1 l0_1.length c0_1] 24 (0, 0)) (by (with_reducible repeat (first | refine blk_drewN ?_ _ | refine blk_drew ?_ | refine blk_alloc ?_ _)); refine blk_far ?_ NB182_212.out _; (with_reducible repeat (first | refine blk_drewN ?_ _ | refine blk_drew ?_ | refine blk_alloc ?_ _)); refine blk_far ?_ NB182_212.out _; (with_reducible repeat (first | refine blk_drewN ?_ _ | refine blk_drew ?_ | refine blk_alloc ?_ _)); refine blk_far ?_ NB182_212.out _; (with_reducible repeat (first | refine blk_drewN ?_ _ | refine blk_drew ?_ | refine blk_alloc ?_ _)); exact BK182.out) hb); have n9_ := Aside0.mk (blk_below (g := gb197) (o := .cells #[.int .i64 t190, .slice Ao22 t191.length co22, .slice Ao23 t194.length co23] 46 (0, 0)) (by (with_reducible repeat (first | refine blk_drewN ?_ _ | refine blk_drew ?_ | refine blk_alloc ?_ _)); refine blk_far ?_ NB197_212.out _; (with_reducible repeat (first | refine blk_drewN ?_ _ | refine blk_drew ?_ | refine blk_alloc ?_ _)); refine blk_far ?_ NB197_212.out _; (with_reducible repeat (first | refine blk_drewN ?_ _ | refine blk_drew ?_ | refine blk_alloc ?_ _)); refine blk_far ?_ NB197_212.out _; (with_reducible repeat (first | refine blk_drewN ?_ _ | refine blk_drew ?_ | refine blk_alloc ?_ _)); exact BK197.out) hb); have n10_ := Aside0.mk (blk_below (g := gb204) (o := .cells #[.slice Ao27 t198.length co27, .slice Ao31 t201.length co31] 27 (0, 0)) (by (with_reducible repeat (first | refine blk_drewN ?_ _ | refine blk_drew ?_ | refine blk_alloc ?_ _)); refine blk_far ?_ NB204_212.out _; (with_reducible repeat (first | refine blk_drewN ?_ _ | refine blk_drew ?_ | refine blk_alloc ?_ _)); refine blk_far ?_ NB204_212.out _; (with_reducible repeat (first | refine blk_drewN ?_ _ | refine blk_drew ?_ | refine blk_alloc ?_ _)); refine blk_far ?_ NB204_212.out _; (with_reducible repeat (first | refine blk_drewN ?_ _ | refine blk_drew ?_ | refine blk_alloc ?_ _)); exact BK204.out) hb); have n11_ := Aside0.mk (blk_below (g := gb212) (o := .cells #[.int .i64 t205, .slice Ao40 t206.length co40, .slice Ao41 t209.length co41] 46 (0, 0)) (by (with_reducible repeat (first | refine blk_drewN ?_ _ | refine blk_drew ?_ | refine blk_alloc ?_ _)); refine blk_put (cs := #[.int .i64 t205, .slice Ao40 t206.length co40, .slice none 0 0]) ?_ 2 _ rfl; (with_reducible repeat (first | refine blk_drewN ?_ _ | refine blk_drew ?_ | refine blk_alloc ?_ _)); refine blk_put (cs := #[.int .i64 t205, .slice none 0 0, .slice none 0 0]) ?_ 1 _ rfl; (with_reducible repeat (first | refine blk_drewN ?_ _ | refine blk_drew ?_ | refine blk_alloc ?_ _)); refine blk_put (cs := #[.int .i64 0, .slice none 0 0, .slice none 0 0]) ?_ 0 _ rfl; (with_reducible repeat (first | refine blk_drewN ?_ _ | refine blk_drew ?_ | refine blk_alloc ?_ _)); exact BK212.out) hb); have n12_ := Aside0.mk (below_step (by repeat (first | (with_reducible first | exact HB.out | apply below_alloc | apply pw_below_drewN | apply below_drew1 | refine below_set ?_ GE182.out | refine below_set ?_ GE197.out | refine below_set ?_ GE204.out | refine below_set ?_ GE212.out) | exact HB.out)) hb); clear HO186; clear HO189; clear HO193; clear HO196; clear HO200; clear HO203; clear HO208; clear HO211; clear BK182; clear BK197; clear BK204; clear BK212; clear HB; have HO186 := n0_; have HO189 := n1_; have HO193 := n2_; have HO196 := n3_; have HO200 := n4_; have HO203 := n5_; have HO208 := n6_; have HO211 := n7_; have BK182 := n8_; have BK197 := n9_; have BK204 := n10_; have BK212 := n11_; have HB := n12_; clear n0_ n1_ n2_ n3_ n4_ n5_ n6_ n7_ n8_ n9_ n10_ n11_ n12_; (try clear hb); (try clear hb2); (try clear hk); (try clear hi)))
      (try simp only [Act.put, List.setIfInBounds_toArray, List.set_cons_zero, List.set_cons_succ])
      go_cut [] (fun wc => ∃ (kq : Nat), Aside0 (laws_FnExactSyncLog.j1 kq l0_0 l0_1 t190 t191 t194 t198 t201 t205 t206 t209 = some r) ∧ Aside0 (kq ≤ kj2) ∧ Aside0 (Kd.R (Kd.int .u8) 5 wc w.heap.size (fun k_ => some k_ ≠ ((.slice Ao23 t194.length co23) : Value).ownBlock ∧ some k_ ≠ ((.slice Ao27 t198.length co27) : Value).ownBlock ∧ some k_ ≠ ((.slice Ao31 t201.length co31) : Value).ownBlock ∧ some k_ ≠ ((.slice Ao40 t206.length co40) : Value).ownBlock ∧ some k_ ≠ ((.slice Ao41 t209.length co41) : Value).ownBlock) (.slice Ao22 t191.length co22) t191) ∧ Aside0 (Kd.R (Kd.int .u8) 5 wc w.heap.size (fun k_ => some k_ ≠ ((.slice Ao22 t191.length co22) : Value).ownBlock ∧ some k_ ≠ ((.slice Ao27 t198.length co27) : Value).ownBlock ∧ some k_ ≠ ((.slice Ao31 t201.length co31) : Value).ownBlock ∧ some k_ ≠ ((.slice Ao40 t206.length co40) : Value).ownBlock ∧ some k_ ≠ ((.slice Ao41 t209.length co41) : Value).ownBlock) (.slice Ao23 t194.length co23) t194) ∧ Aside0 (Kd.R (Kd.int .u8) 5 wc w.heap.size (fun k_ => some k_ ≠ ((.slice Ao22 t191.length co22) : Value).ownBlock ∧ some k_ ≠ ((.slice Ao23 t194.length co23) : Value).ownBlock ∧ some k_ ≠ ((.slice Ao31 t201.length co31) : Value).ownBlock ∧ some k_ ≠ ((.slice Ao40 t206.length co40) : Value).ownBlock ∧ some k_ ≠ ((.slice Ao41 t209.length co41) : Value).ownBlock) (.slice Ao27 t198.length co27) t198) ∧ Aside0 (Kd.R (Kd.int .u8) 5 wc w.heap.size (fun k_ => some k_ ≠ ((.slice Ao22 t191.length co22) : Value).ownBlock ∧ some k_ ≠ ((.slice Ao23 t194.length co23) : Value).ownBlock ∧ some k_ ≠ ((.slice Ao27 t198.length co27) : Value).ownBlock ∧ some k_ ≠ ((.slice Ao40 t206.length co40) : Value).ownBlock ∧ some k_ ≠ ((.slice Ao41 t209.length co41) : Value).ownBlock) (.slice Ao31 t201.length co31) t201) ∧ Aside0 (Kd.R (Kd.int .u8) 5 wc w.heap.size (fun k_ => some k_ ≠ ((.slice Ao22 t191.length co22) : Value).ownBlock ∧ some k_ ≠ ((.slice Ao23 t194.length co23) : Value).ownBlock ∧ some k_ ≠ ((.slice Ao27 t198.length co27) : Value).ownBlock ∧ some k_ ≠ ((.slice Ao31 t201.length co31) : Value).ownBlock ∧ some k_ ≠ ((.slice Ao41 t209.length co41) : Value).ownBlock) (.slice Ao40 t206.length co40) t206) ∧ Aside0 (Kd.R (Kd.int .u8) 5 wc w.heap.size (fun k_ => some k_ ≠ ((.slice Ao22 t191.length co22) : Value).ownBlock ∧ some k_ ≠ ((.slice Ao23 t194.length co23) : Value).ownBlock ∧ some k_ ≠ ((.slice Ao27 t198.length co27) : Value).ownBlock ∧ some k_ ≠ ((.slice Ao31 t201.length co31) : Value).ownBlock ∧ some k_ ≠ ((.slice Ao40 t206.length co40) : Value).ownBlock) (.slice Ao41 t209.length co41) t209) ∧ Aside0 (wc.heap[gb182]? = some (.cells #[(.slice A0_0 l0_0.length c0_0), (.slice A0_1 l0_1.length c0_1)] 24 (0, 0))) ∧ Aside0 (wc.heap[gb197]? = some (.cells #[.int .i64 t190, (.slice Ao22 t191.length co22), (.slice Ao23 t194.length co23)] 46 (0, 0))) ∧ Aside0 (wc.heap[gb204]? = some (.cells #[(.slice Ao27 t198.length co27), (.slice Ao31 t201.length co31)] 27 (0, 0))) ∧ Aside0 (wc.heap[gb212]? = some (.cells #[.int .i64 t205, (.slice Ao40 t206.length co40), (.slice Ao41 t209.length co41)] 46 (0, 0))) ∧ Aside0 (Below w.heap.size w wc))
      case first =>
        have H := HC13.out
        clear HC13
        by_cases c44 : t213 = true
        · subst c44
          have H1 : (laws_FnExactSyncLog.j1 kj2 l0_0 l0_1 t190 t191 t194 t198 t201 t205 t206 t209) = some r := by rw [if_pos rfl] at H; exact H
          clear H
          have H := H1
          clear H1
          have H' := Aside0.mk H
          clear H
          go_wp2
          go_meet
          case rel => exact ⟨_, H', ⟨by have := HJ2.out; first | omega | exact Nat.le_refl _⟩, ⟨by (with_reducible repeat (first | apply Kd.R_alloc | apply Kd.R_drewN | apply Kd.R_drew)); exact Kd.R_mono HO193.out (fun _ hk => ⟨hk.1.1.2.2.1, ⟨hk.1.1.2.2.2.1, ⟨hk.1.1.2.2.2.2, ⟨hk.1.2, hk.2⟩⟩⟩⟩)⟩, ⟨by (with_reducible repeat (first | apply Kd.R_alloc | apply Kd.R_drewN | apply Kd.R_drew)); exact Kd.R_mono HO196.out (fun _ hk => ⟨hk.1.1.2.2.1, ⟨hk.1.1.2.2.2.1, ⟨hk.1.1.2.2.2.2, ⟨hk.1.2, hk.2⟩⟩⟩⟩)⟩, ⟨by (with_reducible repeat (first | apply Kd.R_alloc | apply Kd.R_drewN | apply Kd.R_drew)); exact Kd.R_mono HO200.out (fun _ hk => ⟨hk.1.1.2.2.1, ⟨hk.1.1.2.2.2.1, ⟨hk.1.1.2.2.2.2, ⟨hk.1.2, hk.2⟩⟩⟩⟩)⟩, ⟨by (with_reducible repeat (first | apply Kd.R_alloc | apply Kd.R_drewN | apply Kd.R_drew)); exact Kd.R_mono HO203.out (fun _ hk => ⟨hk.1.1.2.2.1, ⟨hk.1.1.2.2.2.1, ⟨hk.1.1.2.2.2.2, ⟨hk.1.2, hk.2⟩⟩⟩⟩)⟩, ⟨by (with_reducible repeat (first | apply Kd.R_alloc | apply Kd.R_drewN | apply Kd.R_drew)); exact Kd.R_mono HO208.out (fun _ hk => ⟨hk.1.1.1.2, ⟨hk.1.1.2, ⟨hk.1.2, ⟨hk.2, hk.1.1.1.1.1.1⟩⟩⟩⟩)⟩, ⟨by (with_reducible repeat (first | apply Kd.R_alloc | apply Kd.R_drewN | apply Kd.R_drew)); exact Kd.R_mono HO211.out (fun _ hk => ⟨hk.1.1.1.2, ⟨hk.1.1.2, ⟨hk.1.2, ⟨hk.2, hk.1.1.1.1.1.1⟩⟩⟩⟩)⟩, ⟨by (with_reducible repeat (first | refine blk_drewN ?_ _ | refine blk_drew ?_ | refine blk_alloc ?_ _)); exact BK182.out⟩, ⟨by (with_reducible repeat (first | refine blk_drewN ?_ _ | refine blk_drew ?_ | refine blk_alloc ?_ _)); exact BK197.out⟩, ⟨by (with_reducible repeat (first | refine blk_drewN ?_ _ | refine blk_drew ?_ | refine blk_alloc ?_ _)); exact BK204.out⟩, ⟨by (with_reducible repeat (first | refine blk_drewN ?_ _ | refine blk_drew ?_ | refine blk_alloc ?_ _)); exact BK212.out⟩, ⟨by repeat (first | (with_reducible first | exact HB.out | apply below_alloc | apply pw_below_drewN | apply below_drew1 | refine below_set ?_ GE182.out | refine below_set ?_ GE197.out | refine below_set ?_ GE204.out | refine below_set ?_ GE212.out) | exact HB.out)⟩⟩
        · replace c44 := Bool.eq_false_iff.mpr c44
          subst c44
          have H1 : (some false) = some r := by rw [if_neg (show ¬ (false = true) by decide)] at H; exact H
          clear H
          have H := H1
          clear H1
          obtain rfl := Option.some.inj H
          go_wp2
          go_ret
          exact ⟨by first | rfl | (simp [errW_none, errW_some] <;> rfl) | (simp [*, errW_none, errW_some] <;> rfl), by repeat (first | (with_reducible first | exact HB.out | apply below_alloc | apply pw_below_drewN | apply below_drew1 | refine below_set ?_ GE182.out | refine below_set ?_ GE197.out | refine below_set ?_ GE204.out | refine below_set ?_ GE212.out) | exact HB.out)⟩
      case rest =>
        clear HC13
        try clear c1
        try clear c2
        try clear p2
        try clear c3
        try clear c4
        try clear c6
        try clear c7
        try clear c7b0
        try clear c14
        try clear c16
        try clear c20
        try clear c28
        try clear c29
        try clear c31
        try clear c32
        try clear c33
        try clear c36
        try clear c37
        try clear c38
        try clear c44
        try clear hcz14_0
        try clear hcz14_1
        try clear hcz21_0
        try clear hcz21_1
        try clear hcz21_2
        try clear hcz24_0
        try clear hcz24_1
        try clear hcz30_0
        try clear hcz30_1
        try clear hcz33_0
        try clear hcz33_1
        try clear hcz39_0
        try clear hcz39_1
        try clear hcz39_2
        try clear hcz42_0
        try clear hcz42_1
        try clear hcz42_2
        try clear hcz5_0
        try clear hcz5_1
        try clear hfz14_0
        try clear hfz14_1
        try clear hfz21_0
        try clear hfz21_1
        try clear hfz21_2
        try clear hfz24_0
        try clear hfz24_1
        try clear hfz30_0
        try clear hfz30_1
        try clear hfz33_0
        try clear hfz33_1
        try clear hfz39_0
        try clear hfz39_1
        try clear hfz39_2
        try clear hfz42_0
        try clear hfz42_1
        try clear hfz42_2
        try clear hfz5_0
        try clear hfz5_1
        try clear p2
        obtain ⟨kq, HA, HJ12, HO_198001, HO_198002, HO_205000, HO_205001, HO_213001, HO_213002, BK182, BK197, BK204, BK212, HB⟩ := hcut
        cases kq with
        | zero => exact absurd HA.out (by simp [laws_FnExactSyncLog.j1])
        | succ kj12 =>
          have H := HA.out
          clear HA
          simp only [laws_FnExactSyncLog.j1] at H
          replace H := Option.bind_eq_some_iff.mp H
          obtain ⟨⟨t214, t217⟩, A450, H⟩ := H
          replace H : ((laws_eqLog.f kj12 t198 t201 t214 t217).bind fun t220 => (if t220 = true then (laws_FnExactSyncLog.j2 kj12 l0_0 l0_1 t190 t191 t194 t198 t201 t205 t206 t209) else (some false))) = some r := H
          have A45 := Aside0.mk A450
          clear A450
          replace H := Option.bind_eq_some_iff.mp H
          obtain ⟨t220, A460, H⟩ := H
          replace H : (if t220 = true then (laws_FnExactSyncLog.j2 kj12 l0_0 l0_1 t190 t191 t194 t198 t201 t205 t206 t209) else (some false)) = some r := H
          have A46 := Aside0.mk A460
          clear A460
          have HC47 := Aside0.mk H
          clear H
          try go_wp2
          have n0_ := Aside0.mk (Kd.R_drew HO_198001.out)
          have n1_ := Aside0.mk (Kd.R_drew HO_198002.out)
          have n2_ := Aside0.mk (Kd.R_drew HO_205000.out)
          have n3_ := Aside0.mk (Kd.R_drew HO_205001.out)
          have n4_ := Aside0.mk (Kd.R_drew HO_213001.out)
          have n5_ := Aside0.mk (Kd.R_drew HO_213002.out)
          have n6_ := Aside0.mk (blk_drew BK182.out)
          have n7_ := Aside0.mk (blk_drew BK197.out)
          have n8_ := Aside0.mk (blk_drew BK204.out)
          have n9_ := Aside0.mk (blk_drew BK212.out)
          have n10_ := Aside0.mk (below_drew1 HB.out)
          clear HO_198001
          clear HO_198002
          clear HO_205000
          clear HO_205001
          clear HO_213001
          clear HO_213002
          clear BK182
          clear BK197
          clear BK204
          clear BK212
          clear HB
          have HO_198001 := n0_
          have HO_198002 := n1_
          have HO_205000 := n2_
          have HO_205001 := n3_
          have HO_213001 := n4_
          have HO_213002 := n5_
          have BK182 := n6_
          have BK197 := n7_
          have BK204 := n8_
          have BK212 := n9_
          have HB := n10_
          clear n0_ n1_ n2_ n3_ n4_ n5_ n6_ n7_ n8_ n9_ n10_
          refine start_ (n := 5) (S := fun w' => w'.cell? ⟨gb204, 0, none⟩ = some (.slice Ao27 t198.length co27) ∧ w'.cell? ⟨gb204, 1, none⟩ = some (.slice Ao31 t201.length co31) ∧ w'.cell? ⟨gb182, 0, none⟩ = some (.slice A0_0 l0_0.length c0_0) ∧ w'.cell? ⟨gb182, 1, none⟩ = some (.slice A0_1 l0_1.length c0_1)) (ds := []) #[false, false, false, false, false] (by kernel_rfl) rfl rfl ⟨(blk_cell BK204.out 0).trans rfl, (blk_cell BK204.out 1).trans rfl, (blk_cell BK182.out 0).trans rfl, (blk_cell BK182.out 1).trans rfl⟩ (fun hHeld => ?_)
          generalize wc.drew = w48 at HO_198001 HO_198002 HO_205000 HO_205001 HO_213001 HO_213002 BK182 BK197 BK204 BK212 HB hHeld ⊢
          refine take_ (i := 0) (N := some 27) (v := ?_) (a' := ?_) #[true, false, false, false, false] rfl rfl (by kernel_rfl) (fun _ _ _ h => h) (Or.inl ⟨by rfl, ?_⟩) hHeld ?_ ?_
          rotate_left
          · rintro w' ⟨s0, s1, s2, s3⟩
            go_simp
            with_reducible rfl
          rotate_left
          · simp only [Act.put, List.setIfInBounds_toArray, List.set_cons_zero, List.set_cons_succ, i64_w, i32_w]
            rfl
          refine take_ (i := 1) (N := some 28) (v := ?_) (a' := ?_) #[true, true, false, false, false] rfl rfl (by kernel_rfl) (fun _ _ _ h => h) (Or.inl ⟨by rfl, ?_⟩) hHeld ?_ ?_
          rotate_left
          · rintro w' ⟨s0, s1, s2, s3⟩
            go_simp
            with_reducible rfl
          rotate_left
          · simp only [Act.put, List.setIfInBounds_toArray, List.set_cons_zero, List.set_cons_succ, i64_w, i32_w]
            rfl
          refine one_ (i := 2) (N := some 29) #[true, true, true, false, false] rfl rfl (by kernel_rfl) (by decide) (fun K hK => ?_)
          refine goes_ Try.func16 (by kernel_rfl) rfl #[.agg #[.slice A0_0 l0_0.length c0_0, .slice A0_1 l0_1.length c0_1]] (by rfl) rfl rfl (by (try simp only [List.map_toArray, List.map_cons, List.map_nil]); first | done | rfl | (simp only [List.length_drop, List.length_take]; rfl)) ?_
          with_reducible refine (laws_toLog.calls kj12 _ _ l0_0 _ _ l0_1 t214 t217 _ ?side1 ?side2 ?side3 ?side4 A45.out).mono ?_
          (case side1 => repeat (first | exact (Kd.C_below HR0_0.out HB.out) | (with_reducible refine Kd.C_alloc ?_ _) | (with_reducible refine Kd.C_drewN ?_ _) | (with_reducible refine Kd.C_drew ?_)))
          (case side2 => exact HC0_0.out)
          (case side3 => repeat (first | exact (Kd.C_below HR0_1.out HB.out) | (with_reducible refine Kd.C_alloc ?_ _) | (with_reducible refine Kd.C_drewN ?_ _) | (with_reducible refine Kd.C_drew ?_)))
          (case side4 => exact HC0_1.out)
          rintro e w49 ⟨v215, v218, rfl, ho0, ho1, hb⟩
          refine ⟨_, rfl, ?_⟩
          have n0_ := Aside0.mk (Kd.R_mono (Kd.R_told (Kd.R_told (Kd.R_old (by (with_reducible repeat (first | apply Kd.R_alloc | apply Kd.R_drewN | apply Kd.R_drew)); exact HO_198001.out) hb) (Kd.R_base ho0)) (Kd.R_base ho1)) (fun _ h_ => h_.1))
          have n1_ := Aside0.mk (Kd.R_mono (Kd.R_told (Kd.R_told (Kd.R_old (by (with_reducible repeat (first | apply Kd.R_alloc | apply Kd.R_drewN | apply Kd.R_drew)); exact HO_198002.out) hb) (Kd.R_base ho0)) (Kd.R_base ho1)) (fun _ h_ => h_.1))
          have n2_ := Aside0.mk (Kd.R_mono (Kd.R_told (Kd.R_told (Kd.R_old (by (with_reducible repeat (first | apply Kd.R_alloc | apply Kd.R_drewN | apply Kd.R_drew)); exact HO_205000.out) hb) (Kd.R_base ho0)) (Kd.R_base ho1)) (fun _ h_ => h_.1))
          have n3_ := Aside0.mk (Kd.R_mono (Kd.R_told (Kd.R_told (Kd.R_old (by (with_reducible repeat (first | apply Kd.R_alloc | apply Kd.R_drewN | apply Kd.R_drew)); exact HO_205001.out) hb) (Kd.R_base ho0)) (Kd.R_base ho1)) (fun _ h_ => h_.1))
          have n4_ := Aside0.mk (Kd.R_mono (Kd.R_told (Kd.R_told (Kd.R_old (by (with_reducible repeat (first | apply Kd.R_alloc | apply Kd.R_drewN | apply Kd.R_drew)); exact HO_213001.out) hb) (Kd.R_base ho0)) (Kd.R_base ho1)) (fun _ h_ => h_.1))
          have n5_ := Aside0.mk (Kd.R_mono (Kd.R_told (Kd.R_told (Kd.R_old (by (with_reducible repeat (first | apply Kd.R_alloc | apply Kd.R_drewN | apply Kd.R_drew)); exact HO_213002.out) hb) (Kd.R_base ho0)) (Kd.R_base ho1)) (fun _ h_ => h_.1))
          have n6_ := Aside0.mk (Kd.R_lower (Kd.R_new' (Kd.R_new' (Kd.R_new' (Kd.R_new' (Kd.R_new' (Kd.R_new' ho0 (Kd.R_lt (by (with_reducible repeat (first | apply Kd.R_alloc | apply Kd.R_drewN | apply Kd.R_drew)); exact HO_198001.out))) (Kd.R_lt (by (with_reducible repeat (first | apply Kd.R_alloc | apply Kd.R_drewN | apply Kd.R_drew)); exact HO_198002.out))) (Kd.R_lt (by (with_reducible repeat (first | apply Kd.R_alloc | apply Kd.R_drewN | apply Kd.R_drew)); exact HO_205000.out))) (Kd.R_lt (by (with_reducible repeat (first | apply Kd.R_alloc | apply Kd.R_drewN | apply Kd.R_drew)); exact HO_205001.out))) (Kd.R_lt (by (with_reducible repeat (first | apply Kd.R_alloc | apply Kd.R_drewN | apply Kd.R_drew)); exact HO_213001.out))) (Kd.R_lt (by (with_reducible repeat (first | apply Kd.R_alloc | apply Kd.R_drewN | apply Kd.R_drew)); exact HO_213002.out))) (below_size (by repeat (first | (with_reducible first | exact HB.out | apply below_alloc | apply pw_below_drewN | apply below_drew1 | refine below_set ?_ GE182.out | refine below_set ?_ GE197.out | refine below_set ?_ GE204.out | refine below_set ?_ GE212.out) | exact HB.out))))
          have n7_ := Aside0.mk (Kd.R_lower (Kd.R_new' (Kd.R_new' (Kd.R_new' (Kd.R_new' (Kd.R_new' (Kd.R_new' ho1 (Kd.R_lt (by (with_reducible repeat (first | apply Kd.R_alloc | apply Kd.R_drewN | apply Kd.R_drew)); exact HO_198001.out))) (Kd.R_lt (by (with_reducible repeat (first | apply Kd.R_alloc | apply Kd.R_drewN | apply Kd.R_drew)); exact HO_198002.out))) (Kd.R_lt (by (with_reducible repeat (first | apply Kd.R_alloc | apply Kd.R_drewN | apply Kd.R_drew)); exact HO_205000.out))) (Kd.R_lt (by (with_reducible repeat (first | apply Kd.R_alloc | apply Kd.R_drewN | apply Kd.R_drew)); exact HO_205001.out))) (Kd.R_lt (by (with_reducible repeat (first | apply Kd.R_alloc | apply Kd.R_drewN | apply Kd.R_drew)); exact HO_213001.out))) (Kd.R_lt (by (with_reducible repeat (first | apply Kd.R_alloc | apply Kd.R_drewN | apply Kd.R_drew)); exact HO_213002.out))) (below_size (by repeat (first | (with_reducible first | exact HB.out | apply below_alloc | apply pw_below_drewN | apply below_drew1 | refine below_set ?_ GE182.out | refine below_set ?_ GE197.out | refine below_set ?_ GE204.out | refine below_set ?_ GE212.out) | exact HB.out))))
          have n8_ := Aside0.mk (blk_below (g := gb182) (o := .cells #[.slice A0_0 l0_0.length c0_0, .slice A0_1 l0_1.length c0_1] 24 (0, 0)) (by (with_reducible repeat (first | refine blk_drewN ?_ _ | refine blk_drew ?_ | refine blk_alloc ?_ _)); exact BK182.out) hb)
          have n9_ := Aside0.mk (blk_below (g := gb197) (o := .cells #[.int .i64 t190, .slice Ao22 t191.length co22, .slice Ao23 t194.length co23] 46 (0, 0)) (by (with_reducible repeat (first | refine blk_drewN ?_ _ | refine blk_drew ?_ | refine blk_alloc ?_ _)); exact BK197.out) hb)
          have n10_ := Aside0.mk (blk_below (g := gb204) (o := .cells #[.slice Ao27 t198.length co27, .slice Ao31 t201.length co31] 27 (0, 0)) (by (with_reducible repeat (first | refine blk_drewN ?_ _ | refine blk_drew ?_ | refine blk_alloc ?_ _)); exact BK204.out) hb)
          have n11_ := Aside0.mk (blk_below (g := gb212) (o := .cells #[.int .i64 t205, .slice Ao40 t206.length co40, .slice Ao41 t209.length co41] 46 (0, 0)) (by (with_reducible repeat (first | refine blk_drewN ?_ _ | refine blk_drew ?_ | refine blk_alloc ?_ _)); exact BK212.out) hb)
          have n12_ := Aside0.mk (below_step (by repeat (first | (with_reducible first | exact HB.out | apply below_alloc | apply pw_below_drewN | apply below_drew1 | refine below_set ?_ GE182.out | refine below_set ?_ GE197.out | refine below_set ?_ GE204.out | refine below_set ?_ GE212.out) | exact HB.out)) hb)
          clear HO_198001
          clear HO_198002
          clear HO_205000
          clear HO_205001
          clear HO_213001
          clear HO_213002
          clear BK182
          clear BK197
          clear BK204
          clear BK212
          clear HB
          have HO_198001 := n0_
          have HO_198002 := n1_
          have HO_205000 := n2_
          have HO_205001 := n3_
          have HO_213001 := n4_
          have HO_213002 := n5_
          have HO216 := n6_
          have HO219 := n7_
          have BK182 := n8_
          have BK197 := n9_
          have BK204 := n10_
          have BK212 := n11_
          have HB := n12_
          clear n0_ n1_ n2_ n3_ n4_ n5_ n6_ n7_ n8_ n9_ n10_ n11_ n12_
          (try clear hb)
          (try clear hb2)
          (try clear hk)
          (try clear hi)
          (try clear ho0)
          (try clear ho1)
          obtain ⟨Ao50, co50, eo50⟩ := Kd.R_slice HO216.out
          (first | subst eo50 | (injection eo50 with f1_ f2_ f3_; have f4_ := f1_.symm; have f5_ := f3_.symm; clear f1_ f2_ f3_; subst f4_; subst f5_))
          obtain ⟨Ao51, co51, eo51⟩ := Kd.R_slice HO219.out
          (first | subst eo51 | (injection eo51 with f1_ f2_ f3_; have f4_ := f1_.symm; have f5_ := f3_.symm; clear f1_ f2_ f3_; subst f4_; subst f5_))
          refine hK.out _ _ ⟨(blk_cell BK204.out 0).trans rfl, (blk_cell BK204.out 1).trans rfl, (blk_cell BK182.out 0).trans rfl, (blk_cell BK182.out 1).trans rfl⟩ (fun hHeld => ?_)
          clear hK K
          refine norm_ (a' := ?_) ?_ ?_
          rotate_left
          · show Act.put _ (some 29) _ = _
            simp only [Act.put, List.setIfInBounds_toArray, List.set_cons_zero, List.set_cons_succ, i64_w, i32_w]
            rfl
          refine one_ (i := 3) (N := some 30) #[true, true, true, true, false] rfl rfl (by kernel_rfl) (by decide) (fun K hK => ?_)
          refine goes_ Try.func18 (by kernel_rfl) rfl #[.agg #[.slice Ao27 t198.length co27, .slice Ao31 t201.length co31], .agg #[.slice Ao50 t214.length co50, .slice Ao51 t217.length co51]] (by rfl) rfl rfl (by (try simp only [List.map_toArray, List.map_cons, List.map_nil]); first | done | rfl | (simp only [List.length_drop, List.length_take]; rfl)) ?_
          with_reducible refine (laws_eqLog.calls kj12 _ _ t198 _ _ t201 _ _ t214 _ _ t217 t220 _ ?side1 ?side2 ?side3 ?side4 ?side5 ?side6 ?side7 ?side8 A46.out).mono ?_
          (case side1 => repeat (first | exact (Kd.R_reads' HO_205000.out).2.2 | (with_reducible refine Kd.C_alloc ?_ _) | (with_reducible refine Kd.C_drewN ?_ _) | (with_reducible refine Kd.C_drew ?_)))
          (case side2 => exact (Kd.R_reads' HO_205000.out).2.1)
          (case side3 => repeat (first | exact (Kd.R_reads' HO_205001.out).2.2 | (with_reducible refine Kd.C_alloc ?_ _) | (with_reducible refine Kd.C_drewN ?_ _) | (with_reducible refine Kd.C_drew ?_)))
          (case side4 => exact (Kd.R_reads' HO_205001.out).2.1)
          (case side5 => repeat (first | exact (Kd.R_reads' HO216.out).2.2 | (with_reducible refine Kd.C_alloc ?_ _) | (with_reducible refine Kd.C_drewN ?_ _) | (with_reducible refine Kd.C_drew ?_)))
          (case side6 => exact (Kd.R_reads' HO216.out).2.1)
          (case side7 => repeat (first | exact (Kd.R_reads' HO219.out).2.2 | (with_reducible refine Kd.C_alloc ?_ _) | (with_reducible refine Kd.C_drewN ?_ _) | (with_reducible refine Kd.C_drew ?_)))
          (case side8 => exact (Kd.R_reads' HO219.out).2.1)
          rintro e w52 ⟨rfl, hb⟩
          refine ⟨_, rfl, ?_⟩
          have n0_ := Aside0.mk (Kd.R_below (by (with_reducible repeat (first | apply Kd.R_alloc | apply Kd.R_drewN | apply Kd.R_drew)); exact HO_198001.out) hb)
          have n1_ := Aside0.mk (Kd.R_below (by (with_reducible repeat (first | apply Kd.R_alloc | apply Kd.R_drewN | apply Kd.R_drew)); exact HO_198002.out) hb)
          have n2_ := Aside0.mk (Kd.R_below (by (with_reducible repeat (first | apply Kd.R_alloc | apply Kd.R_drewN | apply Kd.R_drew)); exact HO_205000.out) hb)
          have n3_ := Aside0.mk (Kd.R_below (by (with_reducible repeat (first | apply Kd.R_alloc | apply Kd.R_drewN | apply Kd.R_drew)); exact HO_205001.out) hb)
          have n4_ := Aside0.mk (Kd.R_below (by (with_reducible repeat (first | apply Kd.R_alloc | apply Kd.R_drewN | apply Kd.R_drew)); exact HO_213001.out) hb)
          have n5_ := Aside0.mk (Kd.R_below (by (with_reducible repeat (first | apply Kd.R_alloc | apply Kd.R_drewN | apply Kd.R_drew)); exact HO_213002.out) hb)
          have n6_ := Aside0.mk (Kd.R_below (by (with_reducible repeat (first | apply Kd.R_alloc | apply Kd.R_drewN | apply Kd.R_drew)); exact HO216.out) hb)
          have n7_ := Aside0.mk (Kd.R_below (by (with_reducible repeat (first | apply Kd.R_alloc | apply Kd.R_drewN | apply Kd.R_drew)); exact HO219.out) hb)
          have n8_ := Aside0.mk (blk_below (g := gb182) (o := .cells #[.slice A0_0 l0_0.length c0_0, .slice A0_1 l0_1.length c0_1] 24 (0, 0)) (by (with_reducible repeat (first | refine blk_drewN ?_ _ | refine blk_drew ?_ | refine blk_alloc ?_ _)); exact BK182.out) hb)
          have n9_ := Aside0.mk (blk_below (g := gb197) (o := .cells #[.int .i64 t190, .slice Ao22 t191.length co22, .slice Ao23 t194.length co23] 46 (0, 0)) (by (with_reducible repeat (first | refine blk_drewN ?_ _ | refine blk_drew ?_ | refine blk_alloc ?_ _)); exact BK197.out) hb)
          have n10_ := Aside0.mk (blk_below (g := gb204) (o := .cells #[.slice Ao27 t198.length co27, .slice Ao31 t201.length co31] 27 (0, 0)) (by (with_reducible repeat (first | refine blk_drewN ?_ _ | refine blk_drew ?_ | refine blk_alloc ?_ _)); exact BK204.out) hb)
          have n11_ := Aside0.mk (blk_below (g := gb212) (o := .cells #[.int .i64 t205, .slice Ao40 t206.length co40, .slice Ao41 t209.length co41] 46 (0, 0)) (by (with_reducible repeat (first | refine blk_drewN ?_ _ | refine blk_drew ?_ | refine blk_alloc ?_ _)); exact BK212.out) hb)
          have n12_ := Aside0.mk (below_step (by repeat (first | (with_reducible first | exact HB.out | apply below_alloc | apply pw_below_drewN | apply below_drew1 | refine below_set ?_ GE182.out | refine below_set ?_ GE197.out | refine below_set ?_ GE204.out | refine below_set ?_ GE212.out) | exact HB.out)) hb)
          clear HO_198001
          clear HO_198002
          clear HO_205000
          clear HO_205001
          clear HO_213001
          clear HO_213002
          clear HO216
          clear HO219
          clear BK182
          clear BK197
          clear BK204
          clear BK212
          clear HB
          have HO_198001 := n0_
          have HO_198002 := n1_
          have HO_205000 := n2_
          have HO_205001 := n3_
          have HO_213001 := n4_
          have HO_213002 := n5_
          have HO216 := n6_
          have HO219 := n7_
          have BK182 := n8_
          have BK197 := n9_
          have BK204 := n10_
          have BK212 := n11_
          have HB := n12_
          clear n0_ n1_ n2_ n3_ n4_ n5_ n6_ n7_ n8_ n9_ n10_ n11_ n12_
          (try clear hb)
          (try clear hb2)
          (try clear hk)
          (try clear hi)
          refine hK.out _ _ ⟨(blk_cell BK204.out 0).trans rfl, (blk_cell BK204.out 1).trans rfl, (blk_cell BK182.out 0).trans rfl, (blk_cell BK182.out 1).trans rfl⟩ (fun hHeld => ?_)
          clear hK K
          refine norm_ (a' := ?_) ?_ ?_
          rotate_left
          · show Act.put _ (some 30) _ = _
            simp only [Act.put, List.setIfInBounds_toArray, List.set_cons_zero, List.set_cons_succ, i64_w, i32_w]
            rfl
          refine pure_ (i := 4) (N := some 31) (v := ?_) (a' := ?_) #[true, true, true, true, true] rfl rfl (by kernel_rfl) (fun _ _ _ h => h) (Or.inl ⟨by rfl, ?_⟩) ?_ ?_
          rotate_left
          · intro w'
            go_simp
            with_reducible rfl
          rotate_left
          · simp only [Act.put, List.setIfInBounds_toArray, List.set_cons_zero, List.set_cons_succ, i64_w, i32_w]
            rfl
          refine done_ (by kernel_rfl) ?_
          go_upto_if 31 with (fail)
          go_cut [] (fun wc => ∃ (kq : Nat), Aside0 (laws_FnExactSyncLog.j2 kq l0_0 l0_1 t190 t191 t194 t198 t201 t205 t206 t209 = some r) ∧ Aside0 (kq ≤ kj12) ∧ Aside0 (Kd.R (Kd.int .u8) 5 wc w.heap.size (fun k_ => some k_ ≠ ((.slice Ao23 t194.length co23) : Value).ownBlock ∧ some k_ ≠ ((.slice Ao27 t198.length co27) : Value).ownBlock ∧ some k_ ≠ ((.slice Ao31 t201.length co31) : Value).ownBlock ∧ some k_ ≠ ((.slice Ao40 t206.length co40) : Value).ownBlock ∧ some k_ ≠ ((.slice Ao41 t209.length co41) : Value).ownBlock) (.slice Ao22 t191.length co22) t191) ∧ Aside0 (Kd.R (Kd.int .u8) 5 wc w.heap.size (fun k_ => some k_ ≠ ((.slice Ao22 t191.length co22) : Value).ownBlock ∧ some k_ ≠ ((.slice Ao27 t198.length co27) : Value).ownBlock ∧ some k_ ≠ ((.slice Ao31 t201.length co31) : Value).ownBlock ∧ some k_ ≠ ((.slice Ao40 t206.length co40) : Value).ownBlock ∧ some k_ ≠ ((.slice Ao41 t209.length co41) : Value).ownBlock) (.slice Ao23 t194.length co23) t194) ∧ Aside0 (Kd.R (Kd.int .u8) 5 wc w.heap.size (fun k_ => some k_ ≠ ((.slice Ao22 t191.length co22) : Value).ownBlock ∧ some k_ ≠ ((.slice Ao23 t194.length co23) : Value).ownBlock ∧ some k_ ≠ ((.slice Ao31 t201.length co31) : Value).ownBlock ∧ some k_ ≠ ((.slice Ao40 t206.length co40) : Value).ownBlock ∧ some k_ ≠ ((.slice Ao41 t209.length co41) : Value).ownBlock) (.slice Ao27 t198.length co27) t198) ∧ Aside0 (Kd.R (Kd.int .u8) 5 wc w.heap.size (fun k_ => some k_ ≠ ((.slice Ao22 t191.length co22) : Value).ownBlock ∧ some k_ ≠ ((.slice Ao23 t194.length co23) : Value).ownBlock ∧ some k_ ≠ ((.slice Ao27 t198.length co27) : Value).ownBlock ∧ some k_ ≠ ((.slice Ao40 t206.length co40) : Value).ownBlock ∧ some k_ ≠ ((.slice Ao41 t209.length co41) : Value).ownBlock) (.slice Ao31 t201.length co31) t201) ∧ Aside0 (Kd.R (Kd.int .u8) 5 wc w.heap.size (fun k_ => some k_ ≠ ((.slice Ao22 t191.length co22) : Value).ownBlock ∧ some k_ ≠ ((.slice Ao23 t194.length co23) : Value).ownBlock ∧ some k_ ≠ ((.slice Ao27 t198.length co27) : Value).ownBlock ∧ some k_ ≠ ((.slice Ao31 t201.length co31) : Value).ownBlock ∧ some k_ ≠ ((.slice Ao41 t209.length co41) : Value).ownBlock) (.slice Ao40 t206.length co40) t206) ∧ Aside0 (Kd.R (Kd.int .u8) 5 wc w.heap.size (fun k_ => some k_ ≠ ((.slice Ao22 t191.length co22) : Value).ownBlock ∧ some k_ ≠ ((.slice Ao23 t194.length co23) : Value).ownBlock ∧ some k_ ≠ ((.slice Ao27 t198.length co27) : Value).ownBlock ∧ some k_ ≠ ((.slice Ao31 t201.length co31) : Value).ownBlock ∧ some k_ ≠ ((.slice Ao40 t206.length co40) : Value).ownBlock) (.slice Ao41 t209.length co41) t209) ∧ Aside0 (wc.heap[gb182]? = some (.cells #[(.slice A0_0 l0_0.length c0_0), (.slice A0_1 l0_1.length c0_1)] 24 (0, 0))) ∧ Aside0 (wc.heap[gb197]? = some (.cells #[.int .i64 t190, (.slice Ao22 t191.length co22), (.slice Ao23 t194.length co23)] 46 (0, 0))) ∧ Aside0 (wc.heap[gb204]? = some (.cells #[(.slice Ao27 t198.length co27), (.slice Ao31 t201.length co31)] 27 (0, 0))) ∧ Aside0 (wc.heap[gb212]? = some (.cells #[.int .i64 t205, (.slice Ao40 t206.length co40), (.slice Ao41 t209.length co41)] 46 (0, 0))) ∧ Aside0 (Below w.heap.size w wc))
          case first =>
            have H := HC47.out
            clear HC47
            by_cases c53 : t220 = true
            · subst c53
              have H1 : (laws_FnExactSyncLog.j2 kj12 l0_0 l0_1 t190 t191 t194 t198 t201 t205 t206 t209) = some r := by rw [if_pos rfl] at H; exact H
              clear H
              have H := H1
              clear H1
              have H' := Aside0.mk H
              clear H
              go_wp2
              go_meet
              case rel => exact ⟨_, H', ⟨by have := HJ2.out; have := HJ12.out; first | omega | exact Nat.le_refl _⟩, ⟨by (with_reducible repeat (first | apply Kd.R_alloc | apply Kd.R_drewN | apply Kd.R_drew)); exact Kd.R_mono HO_198001.out (fun _ hk => ⟨hk.1.1.1, ⟨hk.1.1.2.1, ⟨hk.1.1.2.2.1, ⟨hk.1.1.2.2.2.1, hk.1.1.2.2.2.2⟩⟩⟩⟩)⟩, ⟨by (with_reducible repeat (first | apply Kd.R_alloc | apply Kd.R_drewN | apply Kd.R_drew)); exact Kd.R_mono HO_198002.out (fun _ hk => ⟨hk.1.1.1, ⟨hk.1.1.2.1, ⟨hk.1.1.2.2.1, ⟨hk.1.1.2.2.2.1, hk.1.1.2.2.2.2⟩⟩⟩⟩)⟩, ⟨by (with_reducible repeat (first | apply Kd.R_alloc | apply Kd.R_drewN | apply Kd.R_drew)); exact Kd.R_mono HO_205000.out (fun _ hk => ⟨hk.1.1.1, ⟨hk.1.1.2.1, ⟨hk.1.1.2.2.1, ⟨hk.1.1.2.2.2.1, hk.1.1.2.2.2.2⟩⟩⟩⟩)⟩, ⟨by (with_reducible repeat (first | apply Kd.R_alloc | apply Kd.R_drewN | apply Kd.R_drew)); exact Kd.R_mono HO_205001.out (fun _ hk => ⟨hk.1.1.1, ⟨hk.1.1.2.1, ⟨hk.1.1.2.2.1, ⟨hk.1.1.2.2.2.1, hk.1.1.2.2.2.2⟩⟩⟩⟩)⟩, ⟨by (with_reducible repeat (first | apply Kd.R_alloc | apply Kd.R_drewN | apply Kd.R_drew)); exact Kd.R_mono HO_213001.out (fun _ hk => ⟨hk.1.1.1, ⟨hk.1.1.2.1, ⟨hk.1.1.2.2.1, ⟨hk.1.1.2.2.2.1, hk.1.1.2.2.2.2⟩⟩⟩⟩)⟩, ⟨by (with_reducible repeat (first | apply Kd.R_alloc | apply Kd.R_drewN | apply Kd.R_drew)); exact Kd.R_mono HO_213002.out (fun _ hk => ⟨hk.1.1.1, ⟨hk.1.1.2.1, ⟨hk.1.1.2.2.1, ⟨hk.1.1.2.2.2.1, hk.1.1.2.2.2.2⟩⟩⟩⟩)⟩, ⟨by (with_reducible repeat (first | refine blk_drewN ?_ _ | refine blk_drew ?_ | refine blk_alloc ?_ _)); exact BK182.out⟩, ⟨by (with_reducible repeat (first | refine blk_drewN ?_ _ | refine blk_drew ?_ | refine blk_alloc ?_ _)); exact BK197.out⟩, ⟨by (with_reducible repeat (first | refine blk_drewN ?_ _ | refine blk_drew ?_ | refine blk_alloc ?_ _)); exact BK204.out⟩, ⟨by (with_reducible repeat (first | refine blk_drewN ?_ _ | refine blk_drew ?_ | refine blk_alloc ?_ _)); exact BK212.out⟩, ⟨by repeat (first | (with_reducible first | exact HB.out | apply below_alloc | apply pw_below_drewN | apply below_drew1 | refine below_set ?_ GE182.out | refine below_set ?_ GE197.out | refine below_set ?_ GE204.out | refine below_set ?_ GE212.out) | exact HB.out)⟩⟩
            · replace c53 := Bool.eq_false_iff.mpr c53
              subst c53
              have H1 : (some false) = some r := by rw [if_neg (show ¬ (false = true) by decide)] at H; exact H
              clear H
              have H := H1
              clear H1
              obtain rfl := Option.some.inj H
              go_wp2
              go_ret
              exact ⟨by first | rfl | (simp [errW_none, errW_some] <;> rfl) | (simp [*, errW_none, errW_some] <;> rfl), by repeat (first | (with_reducible first | exact HB.out | apply below_alloc | apply pw_below_drewN | apply below_drew1 | refine below_set ?_ GE182.out | refine below_set ?_ GE197.out | refine below_set ?_ GE204.out | refine below_set ?_ GE212.out) | exact HB.out)⟩
          case rest =>
            clear HC47
            try clear c1
            try clear c2
            try clear p2
            try clear c3
            try clear c4
            try clear c5
            try clear c6
            try clear c7
            try clear c7b0
            try clear c14
            try clear c16
            try clear c18
            try clear c20
            try clear c28
            try clear c29
            try clear c31
            try clear c32
            try clear c33
            try clear c36
            try clear c37
            try clear c38
            try clear c44
            try clear c53
            try clear hcz14_0
            try clear hcz14_1
            try clear hcz21_0
            try clear hcz21_1
            try clear hcz21_2
            try clear hcz24_0
            try clear hcz24_1
            try clear hcz30_0
            try clear hcz30_1
            try clear hcz33_0
            try clear hcz33_1
            try clear hcz39_0
            try clear hcz39_1
            try clear hcz39_2
            try clear hcz42_0
            try clear hcz42_1
            try clear hcz42_2
            try clear hcz5_0
            try clear hcz5_1
            try clear hfz14_0
            try clear hfz14_1
            try clear hfz21_0
            try clear hfz21_1
            try clear hfz21_2
            try clear hfz24_0
            try clear hfz24_1
            try clear hfz30_0
            try clear hfz30_1
            try clear hfz33_0
            try clear hfz33_1
            try clear hfz39_0
            try clear hfz39_1
            try clear hfz39_2
            try clear hfz42_0
            try clear hfz42_1
            try clear hfz42_2
            try clear hfz5_0
            try clear hfz5_1
            try clear p2
            obtain ⟨kq, HA, HJ46, HO_198001, HO_198002, HO_205000, HO_205001, HO_213001, HO_213002, BK182, BK197, BK204, BK212, HB⟩ := hcut
            cases kq with
            | zero => exact absurd HA.out (by simp [laws_FnExactSyncLog.j2])
            | succ kj46 =>
              have H := HA.out
              clear HA
              simp only [laws_FnExactSyncLog.j2] at H
              replace H := Option.bind_eq_some_iff.mp H
              obtain ⟨⟨t221, t222, t223⟩, A540, H⟩ := H
              replace H : (if t221 < 0 then (laws_FnExactSyncLog.j3 kj46 true l0_0 l0_1 t190 t191 t194 t205 t206 t209) else ((laws_eqLogResult.f kj46 t205 t206 t209 t190 t191 t194).bind fun t224 => (laws_FnExactSyncLog.j3 kj46 (!t224) l0_0 l0_1 t190 t191 t194 t205 t206 t209))) = some r := H
              have A54 := Aside0.mk A540
              clear A540
              have HC55 := Aside0.mk H
              clear H
              have hnb56 := NB204_182.out
              have hnc56 := NB182_204.out
              have hnb57 := NB204_197.out
              have hnc57 := NB197_204.out
              have hnb58 := NB204_212.out
              have hnc58 := NB212_204.out
              have hcz59_0 : wc.cell? ⟨gb204, 0, none⟩ = some (.slice Ao27 t198.length co27) := (blk_cell BK204.out 0).trans rfl
              have hcz59_1 : wc.cell? ⟨gb204, 1, none⟩ = some (.slice Ao31 t201.length co31) := (blk_cell BK204.out 1).trans rfl
              have hfz59_0 := blk_frozen BK204.out 0
              have hfz59_1 := blk_frozen BK204.out 1
              go_upto_region 14 with (first | ((with_reducible refine gate_callee (f := 34) rfl ?_); refine goesL_ (some 34) rfl rfl Try.func34 (by kernel_rfl) rfl #[.agg #[.slice Ao27 t198.length co27, .slice Ao31 t201.length co31], .int .i64 1] rfl (by (try simp only [List.map_toArray, List.map_cons, List.map_nil]); first | done | rfl | (simp only [List.length_drop, List.length_take]; rfl)) ?_; (with_reducible refine (laws_markLog.calls kj46 (fun k_ => some k_ = (.slice Ao27 t198.length co27 : Value).ownBlock) (.slice Ao27 t198.length co27) t198 (fun k_ => some k_ = (.slice Ao31 t201.length co31 : Value).ownBlock) (.slice Ao31 t201.length co31) t201 1 t221 t222 t223 w _ ?side1 ?side2 ?side3 ?side4 ?side5 A54.out).mono ?_); (case side1 => repeat (first | (with_reducible first | exact HB.out | apply below_alloc | apply pw_below_drewN | apply below_drew1 | refine below_set ?_ GE182.out | refine below_set ?_ GE197.out | refine below_set ?_ GE204.out | refine below_set ?_ GE212.out) | exact HB.out)); (case side2 => exact Kd.R_tight rfl HO_205000.out); (case side3 => exact fun k_ e_ => (HO_205000.out.1 k_ e_.symm).2.2.1); (case side4 => exact Kd.R_tight rfl HO_205001.out); (case side5 => exact fun k_ e_ => (HO_205001.out.1 k_ e_.symm).2.2.1); rintro e w60 ⟨rfl, hy0, hy1, hb, hkp⟩; refine ⟨_, rfl, ?_⟩; have n0_ := Aside0.mk (Kd.R_mono (ok' := fun k_ => some k_ ≠ (.slice Ao23 t194.length co23 : Value).ownBlock ∧ some k_ ≠ (.slice Ao27 t198.length co27 : Value).ownBlock ∧ some k_ ≠ (.slice Ao31 t201.length co31 : Value).ownBlock ∧ some k_ ≠ (.slice Ao40 t206.length co40 : Value).ownBlock ∧ some k_ ≠ (.slice Ao41 t209.length co41 : Value).ownBlock) (Kd.R_keptB (HO_198001.out) hkp (fun k_ hk_ hs_ => Or.elim hs_ (fun e_ => (hk_.2.1) e_) (fun e_ => (hk_.2.2.1) e_))) (fun k_ hk_ => ⟨hk_.1.1, hk_.1.2.1, hk_.1.2.2.1, hk_.1.2.2.2.1, hk_.1.2.2.2.2⟩)); have n1_ := Aside0.mk (Kd.R_mono (ok' := fun k_ => some k_ ≠ (.slice Ao22 t191.length co22 : Value).ownBlock ∧ some k_ ≠ (.slice Ao27 t198.length co27 : Value).ownBlock ∧ some k_ ≠ (.slice Ao31 t201.length co31 : Value).ownBlock ∧ some k_ ≠ (.slice Ao40 t206.length co40 : Value).ownBlock ∧ some k_ ≠ (.slice Ao41 t209.length co41 : Value).ownBlock) (Kd.R_keptB (HO_198002.out) hkp (fun k_ hk_ hs_ => Or.elim hs_ (fun e_ => (hk_.2.1) e_) (fun e_ => (hk_.2.2.1) e_))) (fun k_ hk_ => ⟨hk_.1.1, hk_.1.2.1, hk_.1.2.2.1, hk_.1.2.2.2.1, hk_.1.2.2.2.2⟩)); have n2_ := Aside0.mk (Kd.R_reok rfl hy0 (fun k_ e_ => HO_205000.out.1 k_ e_)); have n3_ := Aside0.mk (Kd.R_reok rfl hy1 (fun k_ e_ => HO_205001.out.1 k_ e_)); have n4_ := Aside0.mk (Kd.R_mono (ok' := fun k_ => some k_ ≠ (.slice Ao22 t191.length co22 : Value).ownBlock ∧ some k_ ≠ (.slice Ao23 t194.length co23 : Value).ownBlock ∧ some k_ ≠ (.slice Ao27 t198.length co27 : Value).ownBlock ∧ some k_ ≠ (.slice Ao31 t201.length co31 : Value).ownBlock ∧ some k_ ≠ (.slice Ao41 t209.length co41 : Value).ownBlock) (Kd.R_keptB (HO_213001.out) hkp (fun k_ hk_ hs_ => Or.elim hs_ (fun e_ => (hk_.2.2.1) e_) (fun e_ => (hk_.2.2.2.1) e_))) (fun k_ hk_ => ⟨hk_.1.1, hk_.1.2.1, hk_.1.2.2.1, hk_.1.2.2.2.1, hk_.1.2.2.2.2⟩)); have n5_ := Aside0.mk (Kd.R_mono (ok' := fun k_ => some k_ ≠ (.slice Ao22 t191.length co22 : Value).ownBlock ∧ some k_ ≠ (.slice Ao23 t194.length co23 : Value).ownBlock ∧ some k_ ≠ (.slice Ao27 t198.length co27 : Value).ownBlock ∧ some k_ ≠ (.slice Ao31 t201.length co31 : Value).ownBlock ∧ some k_ ≠ (.slice Ao40 t206.length co40 : Value).ownBlock) (Kd.R_keptB (HO_213002.out) hkp (fun k_ hk_ hs_ => Or.elim hs_ (fun e_ => (hk_.2.2.1) e_) (fun e_ => (hk_.2.2.2.1) e_))) (fun k_ hk_ => ⟨hk_.1.1, hk_.1.2.1, hk_.1.2.2.1, hk_.1.2.2.2.1, hk_.1.2.2.2.2⟩)); have n6_ := Aside0.mk (blk_kept (by (with_reducible repeat (first | refine blk_drewN ?_ _ | refine blk_drew ?_ | refine blk_alloc ?_ _)); exact BK182.out) hkp (fun hs_ => Or.elim hs_ (fun e_ => (fun e_ => (Kd.R_ne HO_205000.out BK182.out (by decide)) e_) e_) (fun e_ => (fun e_ => (Kd.R_ne HO_205001.out BK182.out (by decide)) e_) e_))); have n7_ := Aside0.mk (blk_kept (by (with_reducible repeat (first | refine blk_drewN ?_ _ | refine blk_drew ?_ | refine blk_alloc ?_ _)); exact BK197.out) hkp (fun hs_ => Or.elim hs_ (fun e_ => (fun e_ => (Kd.R_ne HO_205000.out BK197.out (by decide)) e_) e_) (fun e_ => (fun e_ => (Kd.R_ne HO_205001.out BK197.out (by decide)) e_) e_))); have n8_ := Aside0.mk (blk_kept (by (with_reducible repeat (first | refine blk_drewN ?_ _ | refine blk_drew ?_ | refine blk_alloc ?_ _)); exact BK204.out) hkp (fun hs_ => Or.elim hs_ (fun e_ => (fun e_ => (Kd.R_ne HO_205000.out BK204.out (by decide)) e_) e_) (fun e_ => (fun e_ => (Kd.R_ne HO_205001.out BK204.out (by decide)) e_) e_))); have n9_ := Aside0.mk (blk_kept (by (with_reducible repeat (first | refine blk_drewN ?_ _ | refine blk_drew ?_ | refine blk_alloc ?_ _)); exact BK212.out) hkp (fun hs_ => Or.elim hs_ (fun e_ => (fun e_ => (Kd.R_ne HO_205000.out BK212.out (by decide)) e_) e_) (fun e_ => (fun e_ => (Kd.R_ne HO_205001.out BK212.out (by decide)) e_) e_))); have n10_ := Aside0.mk (hb); clear HO_198001; clear HO_198002; clear HO_205000; clear HO_205001; clear HO_213001; clear HO_213002; clear BK182; clear BK197; clear BK204; clear BK212; clear HB; have HO_198001 := n0_; have HO_198002 := n1_; have HO_205000 := n2_; have HO_205001 := n3_; have HO_213001 := n4_; have HO_213002 := n5_; have BK182 := n6_; have BK197 := n7_; have BK204 := n8_; have BK212 := n9_; have HB := n10_; clear n0_ n1_ n2_ n3_ n4_ n5_ n6_ n7_ n8_ n9_ n10_; (try clear hb); (try clear hkp); (try clear hy0); (try clear hy1)))
              (try simp only [Act.put, List.setIfInBounds_toArray, List.set_cons_zero, List.set_cons_succ])
              go_cut [42] (fun v42 wc => ∃ (kq : Nat) (x42_54 : Bool), v42 = .bool x42_54 ∧ Aside0 (laws_FnExactSyncLog.j3 kq x42_54 l0_0 l0_1 t190 t191 t194 t205 t206 t209 = some r) ∧ Aside0 (kq ≤ kj46) ∧ Aside0 (Kd.R (Kd.int .u8) 5 wc w.heap.size (fun k_ => some k_ ≠ ((.slice Ao23 t194.length co23) : Value).ownBlock ∧ some k_ ≠ ((.slice Ao27 t198.length co27) : Value).ownBlock ∧ some k_ ≠ ((.slice Ao31 t201.length co31) : Value).ownBlock ∧ some k_ ≠ ((.slice Ao40 t206.length co40) : Value).ownBlock ∧ some k_ ≠ ((.slice Ao41 t209.length co41) : Value).ownBlock) (.slice Ao22 t191.length co22) t191) ∧ Aside0 (Kd.R (Kd.int .u8) 5 wc w.heap.size (fun k_ => some k_ ≠ ((.slice Ao22 t191.length co22) : Value).ownBlock ∧ some k_ ≠ ((.slice Ao27 t198.length co27) : Value).ownBlock ∧ some k_ ≠ ((.slice Ao31 t201.length co31) : Value).ownBlock ∧ some k_ ≠ ((.slice Ao40 t206.length co40) : Value).ownBlock ∧ some k_ ≠ ((.slice Ao41 t209.length co41) : Value).ownBlock) (.slice Ao23 t194.length co23) t194) ∧ Aside0 (Kd.R (Kd.int .u8) 5 wc w.heap.size (fun k_ => some k_ ≠ ((.slice Ao22 t191.length co22) : Value).ownBlock ∧ some k_ ≠ ((.slice Ao23 t194.length co23) : Value).ownBlock ∧ some k_ ≠ ((.slice Ao31 t201.length co31) : Value).ownBlock ∧ some k_ ≠ ((.slice Ao40 t206.length co40) : Value).ownBlock ∧ some k_ ≠ ((.slice Ao41 t209.length co41) : Value).ownBlock) (.slice Ao27 t198.length co27) t222) ∧ Aside0 (Kd.R (Kd.int .u8) 5 wc w.heap.size (fun k_ => some k_ ≠ ((.slice Ao22 t191.length co22) : Value).ownBlock ∧ some k_ ≠ ((.slice Ao23 t194.length co23) : Value).ownBlock ∧ some k_ ≠ ((.slice Ao27 t198.length co27) : Value).ownBlock ∧ some k_ ≠ ((.slice Ao40 t206.length co40) : Value).ownBlock ∧ some k_ ≠ ((.slice Ao41 t209.length co41) : Value).ownBlock) (.slice Ao31 t201.length co31) t223) ∧ Aside0 (Kd.R (Kd.int .u8) 5 wc w.heap.size (fun k_ => some k_ ≠ ((.slice Ao22 t191.length co22) : Value).ownBlock ∧ some k_ ≠ ((.slice Ao23 t194.length co23) : Value).ownBlock ∧ some k_ ≠ ((.slice Ao27 t198.length co27) : Value).ownBlock ∧ some k_ ≠ ((.slice Ao31 t201.length co31) : Value).ownBlock ∧ some k_ ≠ ((.slice Ao41 t209.length co41) : Value).ownBlock) (.slice Ao40 t206.length co40) t206) ∧ Aside0 (Kd.R (Kd.int .u8) 5 wc w.heap.size (fun k_ => some k_ ≠ ((.slice Ao22 t191.length co22) : Value).ownBlock ∧ some k_ ≠ ((.slice Ao23 t194.length co23) : Value).ownBlock ∧ some k_ ≠ ((.slice Ao27 t198.length co27) : Value).ownBlock ∧ some k_ ≠ ((.slice Ao31 t201.length co31) : Value).ownBlock ∧ some k_ ≠ ((.slice Ao40 t206.length co40) : Value).ownBlock) (.slice Ao41 t209.length co41) t209) ∧ Aside0 (wc.heap[gb182]? = some (.cells #[(.slice A0_0 l0_0.length c0_0), (.slice A0_1 l0_1.length c0_1)] 24 (0, 0))) ∧ Aside0 (wc.heap[gb197]? = some (.cells #[.int .i64 t190, (.slice Ao22 t191.length co22), (.slice Ao23 t194.length co23)] 46 (0, 0))) ∧ Aside0 (wc.heap[gb204]? = some (.cells #[(.slice Ao27 t198.length co27), (.slice Ao31 t201.length co31)] 27 (0, 0))) ∧ Aside0 (wc.heap[gb212]? = some (.cells #[.int .i64 t205, (.slice Ao40 t206.length co40), (.slice Ao41 t209.length co41)] 46 (0, 0))) ∧ Aside0 (Below w.heap.size w wc))
              case first =>
                have H := HC55.out
                clear HC55
                by_cases c61 : t221 < 0
                · rw [if_pos c61] at H
                  have c61b0 : decide (t221 < 0) = true := decide_eq_true c61
                  clear c61
                  (first | rw [c61b0] | (simp only [i64_w, i32_w]; rw [c61b0]) | skip)
                  have H' := Aside0.mk H
                  clear H
                  go_wp2
                  go_meet
                  case rel => exact ⟨_, (true), (by first | rfl | (simp; done) | (simp [*]; done)), H', ⟨by have := HJ2.out; have := HJ12.out; have := HJ46.out; first | omega | exact Nat.le_refl _⟩, ⟨by (with_reducible repeat (first | apply Kd.R_alloc | apply Kd.R_drewN | apply Kd.R_drew)); exact HO_198001.out⟩, ⟨by (with_reducible repeat (first | apply Kd.R_alloc | apply Kd.R_drewN | apply Kd.R_drew)); exact HO_198002.out⟩, ⟨by (with_reducible repeat (first | apply Kd.R_alloc | apply Kd.R_drewN | apply Kd.R_drew)); exact HO_205000.out⟩, ⟨by (with_reducible repeat (first | apply Kd.R_alloc | apply Kd.R_drewN | apply Kd.R_drew)); exact HO_205001.out⟩, ⟨by (with_reducible repeat (first | apply Kd.R_alloc | apply Kd.R_drewN | apply Kd.R_drew)); exact HO_213001.out⟩, ⟨by (with_reducible repeat (first | apply Kd.R_alloc | apply Kd.R_drewN | apply Kd.R_drew)); exact HO_213002.out⟩, ⟨by (with_reducible repeat (first | refine blk_drewN ?_ _ | refine blk_drew ?_ | refine blk_alloc ?_ _)); exact BK182.out⟩, ⟨by (with_reducible repeat (first | refine blk_drewN ?_ _ | refine blk_drew ?_ | refine blk_alloc ?_ _)); exact BK197.out⟩, ⟨by (with_reducible repeat (first | refine blk_drewN ?_ _ | refine blk_drew ?_ | refine blk_alloc ?_ _)); exact BK204.out⟩, ⟨by (with_reducible repeat (first | refine blk_drewN ?_ _ | refine blk_drew ?_ | refine blk_alloc ?_ _)); exact BK212.out⟩, ⟨by repeat (first | (with_reducible first | exact HB.out | apply below_alloc | apply pw_below_drewN | apply below_drew1 | refine below_set ?_ GE182.out | refine below_set ?_ GE197.out | refine below_set ?_ GE204.out | refine below_set ?_ GE212.out) | exact HB.out)⟩⟩
                · rw [if_neg c61] at H
                  have c61b0 : decide (t221 < 0) = false := decide_eq_false c61
                  clear c61
                  (first | rw [c61b0] | (simp only [i64_w, i32_w]; rw [c61b0]) | skip)
                  replace H := Option.bind_eq_some_iff.mp H
                  obtain ⟨t224, A620, H⟩ := H
                  replace H : (laws_FnExactSyncLog.j3 kj46 (!t224) l0_0 l0_1 t190 t191 t194 t205 t206 t209) = some r := H
                  have A62 := Aside0.mk A620
                  clear A620
                  have H' := Aside0.mk H
                  clear H
                  have hnb63 := NB212_182.out
                  have hnc63 := NB182_212.out
                  have hnb64 := NB212_197.out
                  have hnc64 := NB197_212.out
                  have hnb65 := NB212_204.out
                  have hnc65 := NB204_212.out
                  have hcz66_0 : w60.cell? ⟨gb212, 0, none⟩ = some (.int .i64 t205) := (blk_cell BK212.out 0).trans rfl
                  have hcz66_1 : w60.cell? ⟨gb212, 1, none⟩ = some (.slice Ao40 t206.length co40) := (blk_cell BK212.out 1).trans rfl
                  have hcz66_2 : w60.cell? ⟨gb212, 2, none⟩ = some (.slice Ao41 t209.length co41) := (blk_cell BK212.out 2).trans rfl
                  have hfz66_0 := blk_frozen BK212.out 0
                  have hfz66_1 := blk_frozen BK212.out 1
                  have hfz66_2 := blk_frozen BK212.out 2
                  have hnb67 := NB197_182.out
                  have hnc67 := NB182_197.out
                  have hnb68 := NB197_204.out
                  have hnc68 := NB204_197.out
                  have hcz69_0 : w60.cell? ⟨gb197, 0, none⟩ = some (.int .i64 t190) := (blk_cell BK197.out 0).trans rfl
                  have hcz69_1 : w60.cell? ⟨gb197, 1, none⟩ = some (.slice Ao22 t191.length co22) := (blk_cell BK197.out 1).trans rfl
                  have hcz69_2 : w60.cell? ⟨gb197, 2, none⟩ = some (.slice Ao23 t194.length co23) := (blk_cell BK197.out 2).trans rfl
                  have hfz69_0 := blk_frozen BK197.out 0
                  have hfz69_1 := blk_frozen BK197.out 1
                  have hfz69_2 := blk_frozen BK197.out 2
                  go_wp2_with (first | (go_at_call 33; (with_reducible refine (laws_eqLogResult.calls kj46 t205 _ _ t206 _ _ t209 t190 _ _ t191 _ _ t194 t224 _ ?side1 ?side2 ?side3 ?side4 ?side5 ?side6 ?side7 ?side8 A62.out).mono ?_); (case side1 => repeat (first | exact (Kd.R_reads' HO_213001.out).2.2 | (with_reducible refine Kd.C_alloc ?_ _) | (with_reducible refine Kd.C_drewN ?_ _) | (with_reducible refine Kd.C_drew ?_))); (case side2 => exact (Kd.R_reads' HO_213001.out).2.1); (case side3 => repeat (first | exact (Kd.R_reads' HO_213002.out).2.2 | (with_reducible refine Kd.C_alloc ?_ _) | (with_reducible refine Kd.C_drewN ?_ _) | (with_reducible refine Kd.C_drew ?_))); (case side4 => exact (Kd.R_reads' HO_213002.out).2.1); (case side5 => repeat (first | exact (Kd.R_reads' HO_198001.out).2.2 | (with_reducible refine Kd.C_alloc ?_ _) | (with_reducible refine Kd.C_drewN ?_ _) | (with_reducible refine Kd.C_drew ?_))); (case side6 => exact (Kd.R_reads' HO_198001.out).2.1); (case side7 => repeat (first | exact (Kd.R_reads' HO_198002.out).2.2 | (with_reducible refine Kd.C_alloc ?_ _) | (with_reducible refine Kd.C_drewN ?_ _) | (with_reducible refine Kd.C_drew ?_))); (case side8 => exact (Kd.R_reads' HO_198002.out).2.1); rintro e w70 ⟨rfl, hb⟩; have n0_ := Aside0.mk (Kd.R_below (by (with_reducible repeat (first | apply Kd.R_alloc | apply Kd.R_drewN | apply Kd.R_drew)); exact HO_198001.out) hb); have n1_ := Aside0.mk (Kd.R_below (by (with_reducible repeat (first | apply Kd.R_alloc | apply Kd.R_drewN | apply Kd.R_drew)); exact HO_198002.out) hb); have n2_ := Aside0.mk (Kd.R_below (by (with_reducible repeat (first | apply Kd.R_alloc | apply Kd.R_drewN | apply Kd.R_drew)); exact HO_205000.out) hb); have n3_ := Aside0.mk (Kd.R_below (by (with_reducible repeat (first | apply Kd.R_alloc | apply Kd.R_drewN | apply Kd.R_drew)); exact HO_205001.out) hb); have n4_ := Aside0.mk (Kd.R_below (by (with_reducible repeat (first | apply Kd.R_alloc | apply Kd.R_drewN | apply Kd.R_drew)); exact HO_213001.out) hb); have n5_ := Aside0.mk (Kd.R_below (by (with_reducible repeat (first | apply Kd.R_alloc | apply Kd.R_drewN | apply Kd.R_drew)); exact HO_213002.out) hb); have n6_ := Aside0.mk (blk_below (g := gb182) (o := .cells #[.slice A0_0 l0_0.length c0_0, .slice A0_1 l0_1.length c0_1] 24 (0, 0)) (by (with_reducible repeat (first | refine blk_drewN ?_ _ | refine blk_drew ?_ | refine blk_alloc ?_ _)); exact BK182.out) hb); have n7_ := Aside0.mk (blk_below (g := gb197) (o := .cells #[.int .i64 t190, .slice Ao22 t191.length co22, .slice Ao23 t194.length co23] 46 (0, 0)) (by (with_reducible repeat (first | refine blk_drewN ?_ _ | refine blk_drew ?_ | refine blk_alloc ?_ _)); exact BK197.out) hb); have n8_ := Aside0.mk (blk_below (g := gb204) (o := .cells #[.slice Ao27 t198.length co27, .slice Ao31 t201.length co31] 27 (0, 0)) (by (with_reducible repeat (first | refine blk_drewN ?_ _ | refine blk_drew ?_ | refine blk_alloc ?_ _)); exact BK204.out) hb); have n9_ := Aside0.mk (blk_below (g := gb212) (o := .cells #[.int .i64 t205, .slice Ao40 t206.length co40, .slice Ao41 t209.length co41] 46 (0, 0)) (by (with_reducible repeat (first | refine blk_drewN ?_ _ | refine blk_drew ?_ | refine blk_alloc ?_ _)); exact BK212.out) hb); have n10_ := Aside0.mk (below_step (by repeat (first | (with_reducible first | exact HB.out | apply below_alloc | apply pw_below_drewN | apply below_drew1 | refine below_set ?_ GE182.out | refine below_set ?_ GE197.out | refine below_set ?_ GE204.out | refine below_set ?_ GE212.out) | exact HB.out)) hb); clear HO_198001; clear HO_198002; clear HO_205000; clear HO_205001; clear HO_213001; clear HO_213002; clear BK182; clear BK197; clear BK204; clear BK212; clear HB; have HO_198001 := n0_; have HO_198002 := n1_; have HO_205000 := n2_; have HO_205001 := n3_; have HO_213001 := n4_; have HO_213002 := n5_; have BK182 := n6_; have BK197 := n7_; have BK204 := n8_; have BK212 := n9_; have HB := n10_; clear n0_ n1_ n2_ n3_ n4_ n5_ n6_ n7_ n8_ n9_ n10_; (try clear hb); (try clear hb2); (try clear hk); (try clear hi)))
                  go_meet
                  case rel => exact ⟨_, (!t224), (by first | rfl | (simp; done) | (simp [*]; done)), H', ⟨by have := HJ2.out; have := HJ12.out; have := HJ46.out; first | omega | exact Nat.le_refl _⟩, ⟨by (with_reducible repeat (first | apply Kd.R_alloc | apply Kd.R_drewN | apply Kd.R_drew)); exact HO_198001.out⟩, ⟨by (with_reducible repeat (first | apply Kd.R_alloc | apply Kd.R_drewN | apply Kd.R_drew)); exact HO_198002.out⟩, ⟨by (with_reducible repeat (first | apply Kd.R_alloc | apply Kd.R_drewN | apply Kd.R_drew)); exact HO_205000.out⟩, ⟨by (with_reducible repeat (first | apply Kd.R_alloc | apply Kd.R_drewN | apply Kd.R_drew)); exact HO_205001.out⟩, ⟨by (with_reducible repeat (first | apply Kd.R_alloc | apply Kd.R_drewN | apply Kd.R_drew)); exact HO_213001.out⟩, ⟨by (with_reducible repeat (first | apply Kd.R_alloc | apply Kd.R_drewN | apply Kd.R_drew)); exact HO_213002.out⟩, ⟨by (with_reducible repeat (first | refine blk_drewN ?_ _ | refine blk_drew ?_ | refine blk_alloc ?_ _)); exact BK182.out⟩, ⟨by (with_reducible repeat (first | refine blk_drewN ?_ _ | refine blk_drew ?_ | refine blk_alloc ?_ _)); exact BK197.out⟩, ⟨by (with_reducible repeat (first | refine blk_drewN ?_ _ | refine blk_drew ?_ | refine blk_alloc ?_ _)); exact BK204.out⟩, ⟨by (with_reducible repeat (first | refine blk_drewN ?_ _ | refine blk_drew ?_ | refine blk_alloc ?_ _)); exact BK212.out⟩, ⟨by repeat (first | (with_reducible first | exact HB.out | apply below_alloc | apply pw_below_drewN | apply below_drew1 | refine below_set ?_ GE182.out | refine below_set ?_ GE197.out | refine below_set ?_ GE204.out | refine below_set ?_ GE212.out) | exact HB.out)⟩⟩
              case rest =>
                clear HC55
                try clear c1
                try clear c2
                try clear p2
                try clear c3
                try clear c4
                try clear c5
                try clear c6
                try clear c7
                try clear c7b0
                try clear c14
                try clear c16
                try clear c18
                try clear c20
                try clear c28
                try clear c29
                try clear c31
                try clear c32
                try clear c33
                try clear c34
                try clear c36
                try clear c37
                try clear c38
                try clear c44
                try clear c53
                try clear c56
                try clear c57
                try clear c58
                try clear c61
                try clear c61b0
                try clear c63
                try clear c64
                try clear c65
                try clear c67
                try clear c68
                try clear hcz14_0
                try clear hcz14_1
                try clear hcz21_0
                try clear hcz21_1
                try clear hcz21_2
                try clear hcz24_0
                try clear hcz24_1
                try clear hcz30_0
                try clear hcz30_1
                try clear hcz33_0
                try clear hcz33_1
                try clear hcz39_0
                try clear hcz39_1
                try clear hcz39_2
                try clear hcz42_0
                try clear hcz42_1
                try clear hcz42_2
                try clear hcz59_0
                try clear hcz59_1
                try clear hcz5_0
                try clear hcz5_1
                try clear hcz66_0
                try clear hcz66_1
                try clear hcz66_2
                try clear hcz69_0
                try clear hcz69_1
                try clear hcz69_2
                try clear hfz14_0
                try clear hfz14_1
                try clear hfz21_0
                try clear hfz21_1
                try clear hfz21_2
                try clear hfz24_0
                try clear hfz24_1
                try clear hfz30_0
                try clear hfz30_1
                try clear hfz33_0
                try clear hfz33_1
                try clear hfz39_0
                try clear hfz39_1
                try clear hfz39_2
                try clear hfz42_0
                try clear hfz42_1
                try clear hfz42_2
                try clear hfz59_0
                try clear hfz59_1
                try clear hfz5_0
                try clear hfz5_1
                try clear hfz66_0
                try clear hfz66_1
                try clear hfz66_2
                try clear hfz69_0
                try clear hfz69_1
                try clear hfz69_2
                try clear p2
                obtain ⟨kq, x42_54, rfl, HA, HJ54, HO_198001, HO_198002, HO_205000, HO_205001, HO_213001, HO_213002, BK182, BK197, BK204, BK212, HB⟩ := hcut
                have hl205000_54 := (Kd.R_reads' HO_205000.out).1
                rw [hl205000_54] at HO_205000
                (try simp only [hl205000_54])
                (try simp only [hl205000_54] at BK182)
                (try simp only [hl205000_54] at BK197)
                (try simp only [hl205000_54] at BK204)
                (try simp only [hl205000_54] at BK212)
                (try simp only [hl205000_54] at HO_198001)
                (try simp only [hl205000_54] at HO_198002)
                (try simp only [hl205000_54] at HO_205001)
                (try simp only [hl205000_54] at HO_213001)
                (try simp only [hl205000_54] at HO_213002)
                have hl205001_54 := (Kd.R_reads' HO_205001.out).1
                rw [hl205001_54] at HO_205001
                (try simp only [hl205001_54])
                (try simp only [hl205001_54] at BK182)
                (try simp only [hl205001_54] at BK197)
                (try simp only [hl205001_54] at BK204)
                (try simp only [hl205001_54] at BK212)
                (try simp only [hl205001_54] at HO_198001)
                (try simp only [hl205001_54] at HO_198002)
                (try simp only [hl205001_54] at HO_205000)
                (try simp only [hl205001_54] at HO_213001)
                (try simp only [hl205001_54] at HO_213002)
                cases kq with
                | zero => exact absurd HA.out (by simp [laws_FnExactSyncLog.j3])
                | succ kj54 =>
                  have H := HA.out
                  clear HA
                  simp only [laws_FnExactSyncLog.j3] at H
                  have HC71 := Aside0.mk H
                  clear H
                  go_upto_if 42 with (fail)
                  go_cut [] (fun wc => ∃ (kq : Nat), Aside0 (laws_FnExactSyncLog.j4 kq l0_0 l0_1 t190 t191 t194 t205 t206 t209 = some r) ∧ Aside0 (kq ≤ kj54) ∧ Aside0 (Kd.R (Kd.int .u8) 5 wc w.heap.size (fun k_ => some k_ ≠ ((.slice Ao23 t194.length co23) : Value).ownBlock ∧ some k_ ≠ ((.slice Ao27 t222.length co27) : Value).ownBlock ∧ some k_ ≠ ((.slice Ao31 t223.length co31) : Value).ownBlock ∧ some k_ ≠ ((.slice Ao40 t206.length co40) : Value).ownBlock ∧ some k_ ≠ ((.slice Ao41 t209.length co41) : Value).ownBlock) (.slice Ao22 t191.length co22) t191) ∧ Aside0 (Kd.R (Kd.int .u8) 5 wc w.heap.size (fun k_ => some k_ ≠ ((.slice Ao22 t191.length co22) : Value).ownBlock ∧ some k_ ≠ ((.slice Ao27 t222.length co27) : Value).ownBlock ∧ some k_ ≠ ((.slice Ao31 t223.length co31) : Value).ownBlock ∧ some k_ ≠ ((.slice Ao40 t206.length co40) : Value).ownBlock ∧ some k_ ≠ ((.slice Ao41 t209.length co41) : Value).ownBlock) (.slice Ao23 t194.length co23) t194) ∧ Aside0 (Kd.R (Kd.int .u8) 5 wc w.heap.size (fun k_ => some k_ ≠ ((.slice Ao22 t191.length co22) : Value).ownBlock ∧ some k_ ≠ ((.slice Ao23 t194.length co23) : Value).ownBlock ∧ some k_ ≠ ((.slice Ao31 t223.length co31) : Value).ownBlock ∧ some k_ ≠ ((.slice Ao40 t206.length co40) : Value).ownBlock ∧ some k_ ≠ ((.slice Ao41 t209.length co41) : Value).ownBlock) (.slice Ao27 t222.length co27) t222) ∧ Aside0 (Kd.R (Kd.int .u8) 5 wc w.heap.size (fun k_ => some k_ ≠ ((.slice Ao22 t191.length co22) : Value).ownBlock ∧ some k_ ≠ ((.slice Ao23 t194.length co23) : Value).ownBlock ∧ some k_ ≠ ((.slice Ao27 t222.length co27) : Value).ownBlock ∧ some k_ ≠ ((.slice Ao40 t206.length co40) : Value).ownBlock ∧ some k_ ≠ ((.slice Ao41 t209.length co41) : Value).ownBlock) (.slice Ao31 t223.length co31) t223) ∧ Aside0 (Kd.R (Kd.int .u8) 5 wc w.heap.size (fun k_ => some k_ ≠ ((.slice Ao22 t191.length co22) : Value).ownBlock ∧ some k_ ≠ ((.slice Ao23 t194.length co23) : Value).ownBlock ∧ some k_ ≠ ((.slice Ao27 t222.length co27) : Value).ownBlock ∧ some k_ ≠ ((.slice Ao31 t223.length co31) : Value).ownBlock ∧ some k_ ≠ ((.slice Ao41 t209.length co41) : Value).ownBlock) (.slice Ao40 t206.length co40) t206) ∧ Aside0 (Kd.R (Kd.int .u8) 5 wc w.heap.size (fun k_ => some k_ ≠ ((.slice Ao22 t191.length co22) : Value).ownBlock ∧ some k_ ≠ ((.slice Ao23 t194.length co23) : Value).ownBlock ∧ some k_ ≠ ((.slice Ao27 t222.length co27) : Value).ownBlock ∧ some k_ ≠ ((.slice Ao31 t223.length co31) : Value).ownBlock ∧ some k_ ≠ ((.slice Ao40 t206.length co40) : Value).ownBlock) (.slice Ao41 t209.length co41) t209) ∧ Aside0 (wc.heap[gb182]? = some (.cells #[(.slice A0_0 l0_0.length c0_0), (.slice A0_1 l0_1.length c0_1)] 24 (0, 0))) ∧ Aside0 (wc.heap[gb197]? = some (.cells #[.int .i64 t190, (.slice Ao22 t191.length co22), (.slice Ao23 t194.length co23)] 46 (0, 0))) ∧ Aside0 (wc.heap[gb204]? = some (.cells #[(.slice Ao27 t222.length co27), (.slice Ao31 t223.length co31)] 27 (0, 0))) ∧ Aside0 (wc.heap[gb212]? = some (.cells #[.int .i64 t205, (.slice Ao40 t206.length co40), (.slice Ao41 t209.length co41)] 46 (0, 0))) ∧ Aside0 (Below w.heap.size w wc))
                  case first =>
                    have H := HC71.out
                    clear HC71
                    by_cases c72 : x42_54 = true
                    · subst c72
                      have H1 : (some false) = some r := by rw [if_pos rfl] at H; exact H
                      clear H
                      have H := H1
                      clear H1
                      obtain rfl := Option.some.inj H
                      go_wp2
                      go_ret
                      exact ⟨by first | rfl | (simp [errW_none, errW_some] <;> rfl) | (simp [*, errW_none, errW_some] <;> rfl), by repeat (first | (with_reducible first | exact HB.out | apply below_alloc | apply pw_below_drewN | apply below_drew1 | refine below_set ?_ GE182.out | refine below_set ?_ GE197.out | refine below_set ?_ GE204.out | refine below_set ?_ GE212.out) | exact HB.out)⟩
                    · replace c72 := Bool.eq_false_iff.mpr c72
                      subst c72
                      have H1 : (laws_FnExactSyncLog.j4 kj54 l0_0 l0_1 t190 t191 t194 t205 t206 t209) = some r := by rw [if_neg (show ¬ (false = true) by decide)] at H; exact H
                      clear H
                      have H := H1
                      clear H1
                      have H' := Aside0.mk H
                      clear H
                      go_wp2
                      go_meet
                      case rel => exact ⟨_, H', ⟨by have := HJ2.out; have := HJ12.out; have := HJ46.out; have := HJ54.out; first | omega | exact Nat.le_refl _⟩, ⟨by (try simp only [hl205000_54]); (try simp only [hl205001_54]); (with_reducible repeat (first | apply Kd.R_alloc | apply Kd.R_drewN | apply Kd.R_drew)); exact HO_198001.out⟩, ⟨by (try simp only [hl205000_54]); (try simp only [hl205001_54]); (with_reducible repeat (first | apply Kd.R_alloc | apply Kd.R_drewN | apply Kd.R_drew)); exact HO_198002.out⟩, ⟨by (try simp only [hl205000_54]); (try simp only [hl205001_54]); (with_reducible repeat (first | apply Kd.R_alloc | apply Kd.R_drewN | apply Kd.R_drew)); exact HO_205000.out⟩, ⟨by (try simp only [hl205000_54]); (try simp only [hl205001_54]); (with_reducible repeat (first | apply Kd.R_alloc | apply Kd.R_drewN | apply Kd.R_drew)); exact HO_205001.out⟩, ⟨by (try simp only [hl205000_54]); (try simp only [hl205001_54]); (with_reducible repeat (first | apply Kd.R_alloc | apply Kd.R_drewN | apply Kd.R_drew)); exact HO_213001.out⟩, ⟨by (try simp only [hl205000_54]); (try simp only [hl205001_54]); (with_reducible repeat (first | apply Kd.R_alloc | apply Kd.R_drewN | apply Kd.R_drew)); exact HO_213002.out⟩, ⟨by (try simp only [hl205000_54]); (try simp only [hl205001_54]); (with_reducible repeat (first | refine blk_drewN ?_ _ | refine blk_drew ?_ | refine blk_alloc ?_ _)); exact BK182.out⟩, ⟨by (try simp only [hl205000_54]); (try simp only [hl205001_54]); (with_reducible repeat (first | refine blk_drewN ?_ _ | refine blk_drew ?_ | refine blk_alloc ?_ _)); exact BK197.out⟩, ⟨by (try simp only [hl205000_54]); (try simp only [hl205001_54]); (with_reducible repeat (first | refine blk_drewN ?_ _ | refine blk_drew ?_ | refine blk_alloc ?_ _)); exact BK204.out⟩, ⟨by (try simp only [hl205000_54]); (try simp only [hl205001_54]); (with_reducible repeat (first | refine blk_drewN ?_ _ | refine blk_drew ?_ | refine blk_alloc ?_ _)); exact BK212.out⟩, ⟨by repeat (first | (with_reducible first | exact HB.out | apply below_alloc | apply pw_below_drewN | apply below_drew1 | refine below_set ?_ GE182.out | refine below_set ?_ GE197.out | refine below_set ?_ GE204.out | refine below_set ?_ GE212.out) | exact HB.out)⟩⟩
                  case rest =>
                    clear HC71
                    try clear c1
                    try clear c2
                    try clear p2
                    try clear c3
                    try clear c4
                    try clear c5
                    try clear c6
                    try clear c7
                    try clear c7b0
                    try clear c14
                    try clear c16
                    try clear c18
                    try clear c20
                    try clear c28
                    try clear c29
                    try clear c31
                    try clear c32
                    try clear c33
                    try clear c34
                    try clear c36
                    try clear c37
                    try clear c38
                    try clear c44
                    try clear c53
                    try clear c56
                    try clear c57
                    try clear c58
                    try clear c61
                    try clear c61b0
                    try clear c63
                    try clear c64
                    try clear c65
                    try clear c67
                    try clear c68
                    try clear c72
                    try clear hcz14_0
                    try clear hcz14_1
                    try clear hcz21_0
                    try clear hcz21_1
                    try clear hcz21_2
                    try clear hcz24_0
                    try clear hcz24_1
                    try clear hcz30_0
                    try clear hcz30_1
                    try clear hcz33_0
                    try clear hcz33_1
                    try clear hcz39_0
                    try clear hcz39_1
                    try clear hcz39_2
                    try clear hcz42_0
                    try clear hcz42_1
                    try clear hcz42_2
                    try clear hcz59_0
                    try clear hcz59_1
                    try clear hcz5_0
                    try clear hcz5_1
                    try clear hcz66_0
                    try clear hcz66_1
                    try clear hcz66_2
                    try clear hcz69_0
                    try clear hcz69_1
                    try clear hcz69_2
                    try clear hfz14_0
                    try clear hfz14_1
                    try clear hfz21_0
                    try clear hfz21_1
                    try clear hfz21_2
                    try clear hfz24_0
                    try clear hfz24_1
                    try clear hfz30_0
                    try clear hfz30_1
                    try clear hfz33_0
                    try clear hfz33_1
                    try clear hfz39_0
                    try clear hfz39_1
                    try clear hfz39_2
                    try clear hfz42_0
                    try clear hfz42_1
                    try clear hfz42_2
                    try clear hfz59_0
                    try clear hfz59_1
                    try clear hfz5_0
                    try clear hfz5_1
                    try clear hfz66_0
                    try clear hfz66_1
                    try clear hfz66_2
                    try clear hfz69_0
                    try clear hfz69_1
                    try clear hfz69_2
                    try clear p2
                    obtain ⟨kq, HA, HJ70, HO_198001, HO_198002, HO_205000, HO_205001, HO_213001, HO_213002, BK182, BK197, BK204, BK212, HB⟩ := hcut
                    cases kq with
                    | zero => exact absurd HA.out (by simp [laws_FnExactSyncLog.j4])
                    | succ kj70 =>
                      have H := HA.out
                      clear HA
                      simp only [laws_FnExactSyncLog.j4] at H
                      replace H := Option.bind_eq_some_iff.mp H
                      obtain ⟨⟨t225, t226, t227⟩, A730, H⟩ := H
                      replace H : ((laws_heldLogResult.f kj70 t205 t226 t227 1).bind fun t228 => (if t228 < 0 then (some false) else (laws_FnExactSyncLog.j5 kj70 t225 t228 l0_0 l0_1 t190 t191 t194 t205 t226 t227))) = some r := H
                      have A73 := Aside0.mk A730
                      clear A730
                      replace H := Option.bind_eq_some_iff.mp H
                      obtain ⟨t228, A740, H⟩ := H
                      replace H : (if t228 < 0 then (some false) else (laws_FnExactSyncLog.j5 kj70 t225 t228 l0_0 l0_1 t190 t191 t194 t205 t226 t227)) = some r := H
                      have A74 := Aside0.mk A740
                      clear A740
                      have HC75 := Aside0.mk H
                      clear H
                      have hnb76 := NB212_182.out
                      have hnc76 := NB182_212.out
                      have hnb77 := NB212_197.out
                      have hnc77 := NB197_212.out
                      have hnb78 := NB212_204.out
                      have hnc78 := NB204_212.out
                      have hcz79_0 : wc.cell? ⟨gb212, 0, none⟩ = some (.int .i64 t205) := (blk_cell BK212.out 0).trans rfl
                      have hcz79_1 : wc.cell? ⟨gb212, 1, none⟩ = some (.slice Ao40 t206.length co40) := (blk_cell BK212.out 1).trans rfl
                      have hcz79_2 : wc.cell? ⟨gb212, 2, none⟩ = some (.slice Ao41 t209.length co41) := (blk_cell BK212.out 2).trans rfl
                      have hfz79_0 := blk_frozen BK212.out 0
                      have hfz79_1 := blk_frozen BK212.out 1
                      have hfz79_2 := blk_frozen BK212.out 2
                      go_upto_if 50 with (first | ((with_reducible refine gate_callee (f := 35) rfl ?_); refine goesL_ (some 45) rfl rfl Try.func35 (by kernel_rfl) rfl #[.agg #[.int .i64 t205, .slice Ao40 t206.length co40, .slice Ao41 t209.length co41], .int .i64 1] rfl (by (try simp only [List.map_toArray, List.map_cons, List.map_nil]); first | done | rfl | (simp only [List.length_drop, List.length_take]; rfl)) ?_; (with_reducible refine (laws_markLogResult.calls kj70 t205 (fun k_ => some k_ = (.slice Ao40 t206.length co40 : Value).ownBlock) (.slice Ao40 t206.length co40) t206 (fun k_ => some k_ = (.slice Ao41 t209.length co41 : Value).ownBlock) (.slice Ao41 t209.length co41) t209 1 t225 t226 t227 w _ ?side1 ?side2 ?side3 ?side4 ?side5 A73.out).mono ?_); (case side1 => repeat (first | (with_reducible first | exact HB.out | apply below_alloc | apply pw_below_drewN | apply below_drew1 | refine below_set ?_ GE182.out | refine below_set ?_ GE197.out | refine below_set ?_ GE204.out | refine below_set ?_ GE212.out) | exact HB.out)); (case side2 => exact Kd.R_tight rfl HO_213001.out); (case side3 => exact fun k_ e_ => (HO_213001.out.1 k_ e_.symm).2.2.2.2); (case side4 => exact Kd.R_tight rfl HO_213002.out); (case side5 => exact fun k_ e_ => (HO_213002.out.1 k_ e_.symm).2.2.2.2); rintro e w80 ⟨rfl, hy0, hy1, hb, hkp⟩; refine ⟨_, rfl, ?_⟩; have n0_ := Aside0.mk (Kd.R_mono (ok' := fun k_ => some k_ ≠ (.slice Ao23 t194.length co23 : Value).ownBlock ∧ some k_ ≠ (.slice Ao27 t222.length co27 : Value).ownBlock ∧ some k_ ≠ (.slice Ao31 t223.length co31 : Value).ownBlock ∧ some k_ ≠ (.slice Ao40 t206.length co40 : Value).ownBlock ∧ some k_ ≠ (.slice Ao41 t209.length co41 : Value).ownBlock) (Kd.R_keptB (HO_198001.out) hkp (fun k_ hk_ hs_ => Or.elim hs_ (fun e_ => (hk_.2.2.2.1) e_) (fun e_ => (hk_.2.2.2.2) e_))) (fun k_ hk_ => ⟨hk_.1.1, hk_.1.2.1, hk_.1.2.2.1, hk_.1.2.2.2.1, hk_.1.2.2.2.2⟩)); have n1_ := Aside0.mk (Kd.R_mono (ok' := fun k_ => some k_ ≠ (.slice Ao22 t191.length co22 : Value).ownBlock ∧ some k_ ≠ (.slice Ao27 t222.length co27 : Value).ownBlock ∧ some k_ ≠ (.slice Ao31 t223.length co31 : Value).ownBlock ∧ some k_ ≠ (.slice Ao40 t206.length co40 : Value).ownBlock ∧ some k_ ≠ (.slice Ao41 t209.length co41 : Value).ownBlock) (Kd.R_keptB (HO_198002.out) hkp (fun k_ hk_ hs_ => Or.elim hs_ (fun e_ => (hk_.2.2.2.1) e_) (fun e_ => (hk_.2.2.2.2) e_))) (fun k_ hk_ => ⟨hk_.1.1, hk_.1.2.1, hk_.1.2.2.1, hk_.1.2.2.2.1, hk_.1.2.2.2.2⟩)); have n2_ := Aside0.mk (Kd.R_mono (ok' := fun k_ => some k_ ≠ (.slice Ao22 t191.length co22 : Value).ownBlock ∧ some k_ ≠ (.slice Ao23 t194.length co23 : Value).ownBlock ∧ some k_ ≠ (.slice Ao31 t223.length co31 : Value).ownBlock ∧ some k_ ≠ (.slice Ao40 t206.length co40 : Value).ownBlock ∧ some k_ ≠ (.slice Ao41 t209.length co41 : Value).ownBlock) (Kd.R_keptB (HO_205000.out) hkp (fun k_ hk_ hs_ => Or.elim hs_ (fun e_ => (hk_.2.2.2.1) e_) (fun e_ => (hk_.2.2.2.2) e_))) (fun k_ hk_ => ⟨hk_.1.1, hk_.1.2.1, hk_.1.2.2.1, hk_.1.2.2.2.1, hk_.1.2.2.2.2⟩)); have n3_ := Aside0.mk (Kd.R_mono (ok' := fun k_ => some k_ ≠ (.slice Ao22 t191.length co22 : Value).ownBlock ∧ some k_ ≠ (.slice Ao23 t194.length co23 : Value).ownBlock ∧ some k_ ≠ (.slice Ao27 t222.length co27 : Value).ownBlock ∧ some k_ ≠ (.slice Ao40 t206.length co40 : Value).ownBlock ∧ some k_ ≠ (.slice Ao41 t209.length co41 : Value).ownBlock) (Kd.R_keptB (HO_205001.out) hkp (fun k_ hk_ hs_ => Or.elim hs_ (fun e_ => (hk_.2.2.2.1) e_) (fun e_ => (hk_.2.2.2.2) e_))) (fun k_ hk_ => ⟨hk_.1.1, hk_.1.2.1, hk_.1.2.2.1, hk_.1.2.2.2.1, hk_.1.2.2.2.2⟩)); have n4_ := Aside0.mk (Kd.R_reok rfl hy0 (fun k_ e_ => HO_213001.out.1 k_ e_)); have n5_ := Aside0.mk (Kd.R_reok rfl hy1 (fun k_ e_ => HO_213002.out.1 k_ e_)); have n6_ := Aside0.mk (blk_kept (by (with_reducible repeat (first | refine blk_drewN ?_ _ | refine blk_drew ?_ | refine blk_alloc ?_ _)); exact BK182.out) hkp (fun hs_ => Or.elim hs_ (fun e_ => (fun e_ => (Kd.R_ne HO_213001.out BK182.out (by decide)) e_) e_) (fun e_ => (fun e_ => (Kd.R_ne HO_213002.out BK182.out (by decide)) e_) e_))); have n7_ := Aside0.mk (blk_kept (by (with_reducible repeat (first | refine blk_drewN ?_ _ | refine blk_drew ?_ | refine blk_alloc ?_ _)); exact BK197.out) hkp (fun hs_ => Or.elim hs_ (fun e_ => (fun e_ => (Kd.R_ne HO_213001.out BK197.out (by decide)) e_) e_) (fun e_ => (fun e_ => (Kd.R_ne HO_213002.out BK197.out (by decide)) e_) e_))); have n8_ := Aside0.mk (blk_kept (by (with_reducible repeat (first | refine blk_drewN ?_ _ | refine blk_drew ?_ | refine blk_alloc ?_ _)); exact BK204.out) hkp (fun hs_ => Or.elim hs_ (fun e_ => (fun e_ => (Kd.R_ne HO_213001.out BK204.out (by decide)) e_) e_) (fun e_ => (fun e_ => (Kd.R_ne HO_213002.out BK204.out (by decide)) e_) e_))); have n9_ := Aside0.mk (blk_kept (by (with_reducible repeat (first | refine blk_drewN ?_ _ | refine blk_drew ?_ | refine blk_alloc ?_ _)); exact BK212.out) hkp (fun hs_ => Or.elim hs_ (fun e_ => (fun e_ => (Kd.R_ne HO_213001.out BK212.out (by decide)) e_) e_) (fun e_ => (fun e_ => (Kd.R_ne HO_213002.out BK212.out (by decide)) e_) e_))); have n10_ := Aside0.mk (hb); clear HO_198001; clear HO_198002; clear HO_205000; clear HO_205001; clear HO_213001; clear HO_213002; clear BK182; clear BK197; clear BK204; clear BK212; clear HB; have HO_198001 := n0_; have HO_198002 := n1_; have HO_205000 := n2_; have HO_205001 := n3_; have HO_213001 := n4_; have HO_213002 := n5_; have BK182 := n6_; have BK197 := n7_; have BK204 := n8_; have BK212 := n9_; have HB := n10_; clear n0_ n1_ n2_ n3_ n4_ n5_ n6_ n7_ n8_ n9_ n10_; (try clear hb); (try clear hkp); (try clear hy0); (try clear hy1); have hcz81_0 : w80.cell? ⟨gb212, 0, none⟩ = some (.int .i64 t205) := (blk_cell BK212.out 0).trans rfl; have hcz81_1 : w80.cell? ⟨gb212, 1, none⟩ = some (.slice Ao40 t206.length co40) := (blk_cell BK212.out 1).trans rfl; have hcz81_2 : w80.cell? ⟨gb212, 2, none⟩ = some (.slice Ao41 t209.length co41) := (blk_cell BK212.out 2).trans rfl; have hfz81_0 := blk_frozen BK212.out 0; have hfz81_1 := blk_frozen BK212.out 1; have hfz81_2 := blk_frozen BK212.out 2) | ((with_reducible refine gate_callee (f := 36) rfl ?_); refine goesL_ (some 48) rfl rfl Try.func36 (by kernel_rfl) rfl #[.agg #[.int .i64 t205, .slice Ao40 t226.length co40, .slice Ao41 t227.length co41], .int .i64 1] rfl (by (try simp only [List.map_toArray, List.map_cons, List.map_nil]); first | done | (rw [show t226.length = t206.length from (Kd.R_reads' HO_213001.out).1.symm, show t227.length = t209.length from (Kd.R_reads' HO_213002.out).1.symm] <;> rfl) | rfl | (simp only [List.length_drop, List.length_take]; rfl)) ?_; (with_reducible refine (laws_heldLogResult.calls kj70 t205 _ _ t226 _ _ t227 1 t228 _ ?side1 ?side2 ?side3 ?side4 A74.out).mono ?_); (case side1 => repeat (first | exact (Kd.R_reads' HO_213001.out).2.2 | (with_reducible refine Kd.C_alloc ?_ _) | (with_reducible refine Kd.C_drewN ?_ _) | (with_reducible refine Kd.C_drew ?_))); (case side2 => rw [show t226.length = t206.length from (Kd.R_reads' HO_213001.out).1.symm]; exact (Kd.R_reads' HO_213001.out).2.1); (case side3 => repeat (first | exact (Kd.R_reads' HO_213002.out).2.2 | (with_reducible refine Kd.C_alloc ?_ _) | (with_reducible refine Kd.C_drewN ?_ _) | (with_reducible refine Kd.C_drew ?_))); (case side4 => rw [show t227.length = t209.length from (Kd.R_reads' HO_213002.out).1.symm]; exact (Kd.R_reads' HO_213002.out).2.1); rintro e w82 ⟨rfl, hb⟩; refine ⟨_, rfl, ?_⟩; have n0_ := Aside0.mk (Kd.R_below (by (with_reducible repeat (first | apply Kd.R_alloc | apply Kd.R_drewN | apply Kd.R_drew)); exact HO_198001.out) hb); have n1_ := Aside0.mk (Kd.R_below (by (with_reducible repeat (first | apply Kd.R_alloc | apply Kd.R_drewN | apply Kd.R_drew)); exact HO_198002.out) hb); have n2_ := Aside0.mk (Kd.R_below (by (with_reducible repeat (first | apply Kd.R_alloc | apply Kd.R_drewN | apply Kd.R_drew)); exact HO_205000.out) hb); have n3_ := Aside0.mk (Kd.R_below (by (with_reducible repeat (first | apply Kd.R_alloc | apply Kd.R_drewN | apply Kd.R_drew)); exact HO_205001.out) hb); have n4_ := Aside0.mk (Kd.R_below (by (with_reducible repeat (first | apply Kd.R_alloc | apply Kd.R_drewN | apply Kd.R_drew)); exact HO_213001.out) hb); have n5_ := Aside0.mk (Kd.R_below (by (with_reducible repeat (first | apply Kd.R_alloc | apply Kd.R_drewN | apply Kd.R_drew)); exact HO_213002.out) hb); have n6_ := Aside0.mk (blk_below (g := gb182) (o := .cells #[.slice A0_0 l0_0.length c0_0, .slice A0_1 l0_1.length c0_1] 24 (0, 0)) (by (with_reducible repeat (first | refine blk_drewN ?_ _ | refine blk_drew ?_ | refine blk_alloc ?_ _)); exact BK182.out) hb); have n7_ := Aside0.mk (blk_below (g := gb197) (o := .cells #[.int .i64 t190, .slice Ao22 t191.length co22, .slice Ao23 t194.length co23] 46 (0, 0)) (by (with_reducible repeat (first | refine blk_drewN ?_ _ | refine blk_drew ?_ | refine blk_alloc ?_ _)); exact BK197.out) hb); have n8_ := Aside0.mk (blk_below (g := gb204) (o := .cells #[.slice Ao27 t222.length co27, .slice Ao31 t223.length co31] 27 (0, 0)) (by (with_reducible repeat (first | refine blk_drewN ?_ _ | refine blk_drew ?_ | refine blk_alloc ?_ _)); exact BK204.out) hb); have n9_ := Aside0.mk (blk_below (g := gb212) (o := .cells #[.int .i64 t205, .slice Ao40 t206.length co40, .slice Ao41 t209.length co41] 46 (0, 0)) (by (with_reducible repeat (first | refine blk_drewN ?_ _ | refine blk_drew ?_ | refine blk_alloc ?_ _)); exact BK212.out) hb); have n10_ := Aside0.mk (below_step (by repeat (first | (with_reducible first | exact HB.out | apply below_alloc | apply pw_below_drewN | apply below_drew1 | refine below_set ?_ GE182.out | refine below_set ?_ GE197.out | refine below_set ?_ GE204.out | refine below_set ?_ GE212.out) | exact HB.out)) hb); clear HO_198001; clear HO_198002; clear HO_205000; clear HO_205001; clear HO_213001; clear HO_213002; clear BK182; clear BK197; clear BK204; clear BK212; clear HB; have HO_198001 := n0_; have HO_198002 := n1_; have HO_205000 := n2_; have HO_205001 := n3_; have HO_213001 := n4_; have HO_213002 := n5_; have BK182 := n6_; have BK197 := n7_; have BK204 := n8_; have BK212 := n9_; have HB := n10_; clear n0_ n1_ n2_ n3_ n4_ n5_ n6_ n7_ n8_ n9_ n10_; (try clear hb); (try clear hb2); (try clear hk); (try clear hi)))
                      (try simp only [Act.put, List.setIfInBounds_toArray, List.set_cons_zero, List.set_cons_succ])
                      go_cut [] (fun wc => ∃ (kq : Nat), Aside0 (laws_FnExactSyncLog.j5 kq t225 t228 l0_0 l0_1 t190 t191 t194 t205 t226 t227 = some r) ∧ Aside0 (kq ≤ kj70) ∧ Aside0 (Kd.R (Kd.int .u8) 5 wc w.heap.size (fun k_ => some k_ ≠ ((.slice Ao23 t194.length co23) : Value).ownBlock ∧ some k_ ≠ ((.slice Ao27 t222.length co27) : Value).ownBlock ∧ some k_ ≠ ((.slice Ao31 t223.length co31) : Value).ownBlock ∧ some k_ ≠ ((.slice Ao40 t206.length co40) : Value).ownBlock ∧ some k_ ≠ ((.slice Ao41 t209.length co41) : Value).ownBlock) (.slice Ao22 t191.length co22) t191) ∧ Aside0 (Kd.R (Kd.int .u8) 5 wc w.heap.size (fun k_ => some k_ ≠ ((.slice Ao22 t191.length co22) : Value).ownBlock ∧ some k_ ≠ ((.slice Ao27 t222.length co27) : Value).ownBlock ∧ some k_ ≠ ((.slice Ao31 t223.length co31) : Value).ownBlock ∧ some k_ ≠ ((.slice Ao40 t206.length co40) : Value).ownBlock ∧ some k_ ≠ ((.slice Ao41 t209.length co41) : Value).ownBlock) (.slice Ao23 t194.length co23) t194) ∧ Aside0 (Kd.R (Kd.int .u8) 5 wc w.heap.size (fun k_ => some k_ ≠ ((.slice Ao22 t191.length co22) : Value).ownBlock ∧ some k_ ≠ ((.slice Ao23 t194.length co23) : Value).ownBlock ∧ some k_ ≠ ((.slice Ao31 t223.length co31) : Value).ownBlock ∧ some k_ ≠ ((.slice Ao40 t206.length co40) : Value).ownBlock ∧ some k_ ≠ ((.slice Ao41 t209.length co41) : Value).ownBlock) (.slice Ao27 t222.length co27) t222) ∧ Aside0 (Kd.R (Kd.int .u8) 5 wc w.heap.size (fun k_ => some k_ ≠ ((.slice Ao22 t191.length co22) : Value).ownBlock ∧ some k_ ≠ ((.slice Ao23 t194.length co23) : Value).ownBlock ∧ some k_ ≠ ((.slice Ao27 t222.length co27) : Value).ownBlock ∧ some k_ ≠ ((.slice Ao40 t206.length co40) : Value).ownBlock ∧ some k_ ≠ ((.slice Ao41 t209.length co41) : Value).ownBlock) (.slice Ao31 t223.length co31) t223) ∧ Aside0 (Kd.R (Kd.int .u8) 5 wc w.heap.size (fun k_ => some k_ ≠ ((.slice Ao22 t191.length co22) : Value).ownBlock ∧ some k_ ≠ ((.slice Ao23 t194.length co23) : Value).ownBlock ∧ some k_ ≠ ((.slice Ao27 t222.length co27) : Value).ownBlock ∧ some k_ ≠ ((.slice Ao31 t223.length co31) : Value).ownBlock ∧ some k_ ≠ ((.slice Ao41 t209.length co41) : Value).ownBlock) (.slice Ao40 t206.length co40) t226) ∧ Aside0 (Kd.R (Kd.int .u8) 5 wc w.heap.size (fun k_ => some k_ ≠ ((.slice Ao22 t191.length co22) : Value).ownBlock ∧ some k_ ≠ ((.slice Ao23 t194.length co23) : Value).ownBlock ∧ some k_ ≠ ((.slice Ao27 t222.length co27) : Value).ownBlock ∧ some k_ ≠ ((.slice Ao31 t223.length co31) : Value).ownBlock ∧ some k_ ≠ ((.slice Ao40 t206.length co40) : Value).ownBlock) (.slice Ao41 t209.length co41) t227) ∧ Aside0 (wc.heap[gb182]? = some (.cells #[(.slice A0_0 l0_0.length c0_0), (.slice A0_1 l0_1.length c0_1)] 24 (0, 0))) ∧ Aside0 (wc.heap[gb197]? = some (.cells #[.int .i64 t190, (.slice Ao22 t191.length co22), (.slice Ao23 t194.length co23)] 46 (0, 0))) ∧ Aside0 (wc.heap[gb204]? = some (.cells #[(.slice Ao27 t222.length co27), (.slice Ao31 t223.length co31)] 27 (0, 0))) ∧ Aside0 (wc.heap[gb212]? = some (.cells #[.int .i64 t205, (.slice Ao40 t206.length co40), (.slice Ao41 t209.length co41)] 46 (0, 0))) ∧ Aside0 (Below w.heap.size w wc))
                      case first =>
                        have H := HC75.out
                        clear HC75
                        by_cases c83 : t228 < 0
                        · rw [if_pos c83] at H
                          have c83b0 : decide (t228 < 0) = true := decide_eq_true c83
                          clear c83
                          (first | rw [c83b0] | (simp only [i64_w, i32_w]; rw [c83b0]) | skip)
                          obtain rfl := Option.some.inj H
                          go_wp2
                          go_ret
                          exact ⟨by first | rfl | (simp [errW_none, errW_some] <;> rfl) | (simp [*, errW_none, errW_some] <;> rfl), by repeat (first | (with_reducible first | exact HB.out | apply below_alloc | apply pw_below_drewN | apply below_drew1 | refine below_set ?_ GE182.out | refine below_set ?_ GE197.out | refine below_set ?_ GE204.out | refine below_set ?_ GE212.out) | exact HB.out)⟩
                        · rw [if_neg c83] at H
                          have c83b0 : decide (t228 < 0) = false := decide_eq_false c83
                          clear c83
                          (first | rw [c83b0] | (simp only [i64_w, i32_w]; rw [c83b0]) | skip)
                          have H' := Aside0.mk H
                          clear H
                          go_wp2
                          go_meet
                          case rel => exact ⟨_, H', ⟨by have := HJ2.out; have := HJ12.out; have := HJ46.out; have := HJ54.out; have := HJ70.out; first | omega | exact Nat.le_refl _⟩, ⟨by (try simp only [hl205000_54]); (try simp only [hl205001_54]); (with_reducible repeat (first | apply Kd.R_alloc | apply Kd.R_drewN | apply Kd.R_drew)); exact HO_198001.out⟩, ⟨by (try simp only [hl205000_54]); (try simp only [hl205001_54]); (with_reducible repeat (first | apply Kd.R_alloc | apply Kd.R_drewN | apply Kd.R_drew)); exact HO_198002.out⟩, ⟨by (try simp only [hl205000_54]); (try simp only [hl205001_54]); (with_reducible repeat (first | apply Kd.R_alloc | apply Kd.R_drewN | apply Kd.R_drew)); exact HO_205000.out⟩, ⟨by (try simp only [hl205000_54]); (try simp only [hl205001_54]); (with_reducible repeat (first | apply Kd.R_alloc | apply Kd.R_drewN | apply Kd.R_drew)); exact HO_205001.out⟩, ⟨by (try simp only [hl205000_54]); (try simp only [hl205001_54]); (with_reducible repeat (first | apply Kd.R_alloc | apply Kd.R_drewN | apply Kd.R_drew)); exact HO_213001.out⟩, ⟨by (try simp only [hl205000_54]); (try simp only [hl205001_54]); (with_reducible repeat (first | apply Kd.R_alloc | apply Kd.R_drewN | apply Kd.R_drew)); exact HO_213002.out⟩, ⟨by (try simp only [hl205000_54]); (try simp only [hl205001_54]); (with_reducible repeat (first | refine blk_drewN ?_ _ | refine blk_drew ?_ | refine blk_alloc ?_ _)); exact BK182.out⟩, ⟨by (try simp only [hl205000_54]); (try simp only [hl205001_54]); (with_reducible repeat (first | refine blk_drewN ?_ _ | refine blk_drew ?_ | refine blk_alloc ?_ _)); exact BK197.out⟩, ⟨by (try simp only [hl205000_54]); (try simp only [hl205001_54]); (with_reducible repeat (first | refine blk_drewN ?_ _ | refine blk_drew ?_ | refine blk_alloc ?_ _)); exact BK204.out⟩, ⟨by (try simp only [hl205000_54]); (try simp only [hl205001_54]); (with_reducible repeat (first | refine blk_drewN ?_ _ | refine blk_drew ?_ | refine blk_alloc ?_ _)); exact BK212.out⟩, ⟨by repeat (first | (with_reducible first | exact HB.out | apply below_alloc | apply pw_below_drewN | apply below_drew1 | refine below_set ?_ GE182.out | refine below_set ?_ GE197.out | refine below_set ?_ GE204.out | refine below_set ?_ GE212.out) | exact HB.out)⟩⟩
                      case rest =>
                        clear HC75
                        try clear c1
                        try clear c2
                        try clear p2
                        try clear c3
                        try clear c4
                        try clear c5
                        try clear c6
                        try clear c7
                        try clear c7b0
                        try clear c8
                        try clear c14
                        try clear c16
                        try clear c18
                        try clear c20
                        try clear c28
                        try clear c29
                        try clear c31
                        try clear c32
                        try clear c33
                        try clear c34
                        try clear c35
                        try clear c36
                        try clear c37
                        try clear c38
                        try clear c44
                        try clear c53
                        try clear c56
                        try clear c57
                        try clear c58
                        try clear c61
                        try clear c61b0
                        try clear c63
                        try clear c64
                        try clear c65
                        try clear c67
                        try clear c68
                        try clear c72
                        try clear c76
                        try clear c77
                        try clear c78
                        try clear c83
                        try clear c83b0
                        try clear hcz14_0
                        try clear hcz14_1
                        try clear hcz21_0
                        try clear hcz21_1
                        try clear hcz21_2
                        try clear hcz24_0
                        try clear hcz24_1
                        try clear hcz30_0
                        try clear hcz30_1
                        try clear hcz33_0
                        try clear hcz33_1
                        try clear hcz39_0
                        try clear hcz39_1
                        try clear hcz39_2
                        try clear hcz42_0
                        try clear hcz42_1
                        try clear hcz42_2
                        try clear hcz59_0
                        try clear hcz59_1
                        try clear hcz5_0
                        try clear hcz5_1
                        try clear hcz66_0
                        try clear hcz66_1
                        try clear hcz66_2
                        try clear hcz69_0
                        try clear hcz69_1
                        try clear hcz69_2
                        try clear hcz79_0
                        try clear hcz79_1
                        try clear hcz79_2
                        try clear hcz81_0
                        try clear hcz81_1
                        try clear hcz81_2
                        try clear hfz14_0
                        try clear hfz14_1
                        try clear hfz21_0
                        try clear hfz21_1
                        try clear hfz21_2
                        try clear hfz24_0
                        try clear hfz24_1
                        try clear hfz30_0
                        try clear hfz30_1
                        try clear hfz33_0
                        try clear hfz33_1
                        try clear hfz39_0
                        try clear hfz39_1
                        try clear hfz39_2
                        try clear hfz42_0
                        try clear hfz42_1
                        try clear hfz42_2
                        try clear hfz59_0
                        try clear hfz59_1
                        try clear hfz5_0
                        try clear hfz5_1
                        try clear hfz66_0
                        try clear hfz66_1
                        try clear hfz66_2
                        try clear hfz69_0
                        try clear hfz69_1
                        try clear hfz69_2
                        try clear hfz79_0
                        try clear hfz79_1
                        try clear hfz79_2
                        try clear hfz81_0
                        try clear hfz81_1
                        try clear hfz81_2
                        try clear p2
                        obtain ⟨kq, HA, HJ74, HO_198001, HO_198002, HO_205000, HO_205001, HO_213001, HO_213002, BK182, BK197, BK204, BK212, HB⟩ := hcut
                        have hl213001_74 := (Kd.R_reads' HO_213001.out).1
                        rw [hl213001_74] at HO_213001
                        (try simp only [hl213001_74])
                        (try simp only [hl213001_74] at BK182)
                        (try simp only [hl213001_74] at BK197)
                        (try simp only [hl213001_74] at BK204)
                        (try simp only [hl213001_74] at BK212)
                        (try simp only [hl213001_74] at HO_198001)
                        (try simp only [hl213001_74] at HO_198002)
                        (try simp only [hl213001_74] at HO_205000)
                        (try simp only [hl213001_74] at HO_205001)
                        (try simp only [hl213001_74] at HO_213002)
                        have hl213002_74 := (Kd.R_reads' HO_213002.out).1
                        rw [hl213002_74] at HO_213002
                        (try simp only [hl213002_74])
                        (try simp only [hl213002_74] at BK182)
                        (try simp only [hl213002_74] at BK197)
                        (try simp only [hl213002_74] at BK204)
                        (try simp only [hl213002_74] at BK212)
                        (try simp only [hl213002_74] at HO_198001)
                        (try simp only [hl213002_74] at HO_198002)
                        (try simp only [hl213002_74] at HO_205000)
                        (try simp only [hl213002_74] at HO_205001)
                        (try simp only [hl213002_74] at HO_213001)
                        cases kq with
                        | zero => exact absurd HA.out (by simp [laws_FnExactSyncLog.j5])
                        | succ kj74 =>
                          have H := HA.out
                          clear HA
                          simp only [laws_FnExactSyncLog.j5] at H
                          have HC84 := Aside0.mk H
                          clear H
                          go_upto_if 53 with (fail)
                          go_cut [] (fun wc => ∃ (kq : Nat), Aside0 (laws_FnExactSyncLog.j6 kq t225 l0_0 l0_1 t190 t191 t194 t205 t226 t227 = some r) ∧ Aside0 (kq ≤ kj74) ∧ Aside0 (Kd.R (Kd.int .u8) 5 wc w.heap.size (fun k_ => some k_ ≠ ((.slice Ao23 t194.length co23) : Value).ownBlock ∧ some k_ ≠ ((.slice Ao27 t222.length co27) : Value).ownBlock ∧ some k_ ≠ ((.slice Ao31 t223.length co31) : Value).ownBlock ∧ some k_ ≠ ((.slice Ao40 t226.length co40) : Value).ownBlock ∧ some k_ ≠ ((.slice Ao41 t227.length co41) : Value).ownBlock) (.slice Ao22 t191.length co22) t191) ∧ Aside0 (Kd.R (Kd.int .u8) 5 wc w.heap.size (fun k_ => some k_ ≠ ((.slice Ao22 t191.length co22) : Value).ownBlock ∧ some k_ ≠ ((.slice Ao27 t222.length co27) : Value).ownBlock ∧ some k_ ≠ ((.slice Ao31 t223.length co31) : Value).ownBlock ∧ some k_ ≠ ((.slice Ao40 t226.length co40) : Value).ownBlock ∧ some k_ ≠ ((.slice Ao41 t227.length co41) : Value).ownBlock) (.slice Ao23 t194.length co23) t194) ∧ Aside0 (Kd.R (Kd.int .u8) 5 wc w.heap.size (fun k_ => some k_ ≠ ((.slice Ao22 t191.length co22) : Value).ownBlock ∧ some k_ ≠ ((.slice Ao23 t194.length co23) : Value).ownBlock ∧ some k_ ≠ ((.slice Ao31 t223.length co31) : Value).ownBlock ∧ some k_ ≠ ((.slice Ao40 t226.length co40) : Value).ownBlock ∧ some k_ ≠ ((.slice Ao41 t227.length co41) : Value).ownBlock) (.slice Ao27 t222.length co27) t222) ∧ Aside0 (Kd.R (Kd.int .u8) 5 wc w.heap.size (fun k_ => some k_ ≠ ((.slice Ao22 t191.length co22) : Value).ownBlock ∧ some k_ ≠ ((.slice Ao23 t194.length co23) : Value).ownBlock ∧ some k_ ≠ ((.slice Ao27 t222.length co27) : Value).ownBlock ∧ some k_ ≠ ((.slice Ao40 t226.length co40) : Value).ownBlock ∧ some k_ ≠ ((.slice Ao41 t227.length co41) : Value).ownBlock) (.slice Ao31 t223.length co31) t223) ∧ Aside0 (Kd.R (Kd.int .u8) 5 wc w.heap.size (fun k_ => some k_ ≠ ((.slice Ao22 t191.length co22) : Value).ownBlock ∧ some k_ ≠ ((.slice Ao23 t194.length co23) : Value).ownBlock ∧ some k_ ≠ ((.slice Ao27 t222.length co27) : Value).ownBlock ∧ some k_ ≠ ((.slice Ao31 t223.length co31) : Value).ownBlock ∧ some k_ ≠ ((.slice Ao41 t227.length co41) : Value).ownBlock) (.slice Ao40 t226.length co40) t226) ∧ Aside0 (Kd.R (Kd.int .u8) 5 wc w.heap.size (fun k_ => some k_ ≠ ((.slice Ao22 t191.length co22) : Value).ownBlock ∧ some k_ ≠ ((.slice Ao23 t194.length co23) : Value).ownBlock ∧ some k_ ≠ ((.slice Ao27 t222.length co27) : Value).ownBlock ∧ some k_ ≠ ((.slice Ao31 t223.length co31) : Value).ownBlock ∧ some k_ ≠ ((.slice Ao40 t226.length co40) : Value).ownBlock) (.slice Ao41 t227.length co41) t227) ∧ Aside0 (wc.heap[gb182]? = some (.cells #[(.slice A0_0 l0_0.length c0_0), (.slice A0_1 l0_1.length c0_1)] 24 (0, 0))) ∧ Aside0 (wc.heap[gb197]? = some (.cells #[.int .i64 t190, (.slice Ao22 t191.length co22), (.slice Ao23 t194.length co23)] 46 (0, 0))) ∧ Aside0 (wc.heap[gb204]? = some (.cells #[(.slice Ao27 t222.length co27), (.slice Ao31 t223.length co31)] 27 (0, 0))) ∧ Aside0 (wc.heap[gb212]? = some (.cells #[.int .i64 t205, (.slice Ao40 t226.length co40), (.slice Ao41 t227.length co41)] 46 (0, 0))) ∧ Aside0 (Below w.heap.size w wc))
                          case first =>
                            have H := HC84.out
                            clear HC84
                            by_cases c85 : t228 = t225
                            · rw [if_pos c85] at H
                              have c85b0 : (t228 == t225) = true := beq_iff_eq.mpr c85
                              have c85b1 : (t228 != t225) = false := bne_eq_false_iff_eq.mpr c85
                              clear c85
                              (first | rw [c85b0] | (simp only [i64_w, i32_w]; rw [c85b0]) | skip)
                              have H' := Aside0.mk H
                              clear H
                              go_wp2
                              go_meet
                              case rel => exact ⟨_, H', ⟨by have := HJ2.out; have := HJ12.out; have := HJ46.out; have := HJ54.out; have := HJ70.out; have := HJ74.out; first | omega | exact Nat.le_refl _⟩, ⟨by (try simp only [hl205000_54]); (try simp only [hl205001_54]); (try simp only [hl213001_74]); (try simp only [hl213002_74]); (with_reducible repeat (first | apply Kd.R_alloc | apply Kd.R_drewN | apply Kd.R_drew)); exact HO_198001.out⟩, ⟨by (try simp only [hl205000_54]); (try simp only [hl205001_54]); (try simp only [hl213001_74]); (try simp only [hl213002_74]); (with_reducible repeat (first | apply Kd.R_alloc | apply Kd.R_drewN | apply Kd.R_drew)); exact HO_198002.out⟩, ⟨by (try simp only [hl205000_54]); (try simp only [hl205001_54]); (try simp only [hl213001_74]); (try simp only [hl213002_74]); (with_reducible repeat (first | apply Kd.R_alloc | apply Kd.R_drewN | apply Kd.R_drew)); exact HO_205000.out⟩, ⟨by (try simp only [hl205000_54]); (try simp only [hl205001_54]); (try simp only [hl213001_74]); (try simp only [hl213002_74]); (with_reducible repeat (first | apply Kd.R_alloc | apply Kd.R_drewN | apply Kd.R_drew)); exact HO_205001.out⟩, ⟨by (try simp only [hl205000_54]); (try simp only [hl205001_54]); (try simp only [hl213001_74]); (try simp only [hl213002_74]); (with_reducible repeat (first | apply Kd.R_alloc | apply Kd.R_drewN | apply Kd.R_drew)); exact HO_213001.out⟩, ⟨by (try simp only [hl205000_54]); (try simp only [hl205001_54]); (try simp only [hl213001_74]); (try simp only [hl213002_74]); (with_reducible repeat (first | apply Kd.R_alloc | apply Kd.R_drewN | apply Kd.R_drew)); exact HO_213002.out⟩, ⟨by (try simp only [hl205000_54]); (try simp only [hl205001_54]); (try simp only [hl213001_74]); (try simp only [hl213002_74]); (with_reducible repeat (first | refine blk_drewN ?_ _ | refine blk_drew ?_ | refine blk_alloc ?_ _)); exact BK182.out⟩, ⟨by (try simp only [hl205000_54]); (try simp only [hl205001_54]); (try simp only [hl213001_74]); (try simp only [hl213002_74]); (with_reducible repeat (first | refine blk_drewN ?_ _ | refine blk_drew ?_ | refine blk_alloc ?_ _)); exact BK197.out⟩, ⟨by (try simp only [hl205000_54]); (try simp only [hl205001_54]); (try simp only [hl213001_74]); (try simp only [hl213002_74]); (with_reducible repeat (first | refine blk_drewN ?_ _ | refine blk_drew ?_ | refine blk_alloc ?_ _)); exact BK204.out⟩, ⟨by (try simp only [hl205000_54]); (try simp only [hl205001_54]); (try simp only [hl213001_74]); (try simp only [hl213002_74]); (with_reducible repeat (first | refine blk_drewN ?_ _ | refine blk_drew ?_ | refine blk_alloc ?_ _)); exact BK212.out⟩, ⟨by repeat (first | (with_reducible first | exact HB.out | apply below_alloc | apply pw_below_drewN | apply below_drew1 | refine below_set ?_ GE182.out | refine below_set ?_ GE197.out | refine below_set ?_ GE204.out | refine below_set ?_ GE212.out) | exact HB.out)⟩⟩
                            · rw [if_neg c85] at H
                              have c85b0 : (t228 == t225) = false := beq_eq_false_iff_ne.mpr c85
                              have c85b1 : (t228 != t225) = true := bne_iff_ne.mpr c85
                              (first | rw [c85b0] | (simp only [i64_w, i32_w]; rw [c85b0]) | skip)
                              obtain rfl := Option.some.inj H
                              go_wp2
                              go_ret
                              exact ⟨by first | rfl | (simp [errW_none, errW_some] <;> rfl) | (simp [*, errW_none, errW_some] <;> rfl), by repeat (first | (with_reducible first | exact HB.out | apply below_alloc | apply pw_below_drewN | apply below_drew1 | refine below_set ?_ GE182.out | refine below_set ?_ GE197.out | refine below_set ?_ GE204.out | refine below_set ?_ GE212.out) | exact HB.out)⟩
                          case rest =>
                            clear HC84
                            try clear c1
                            try clear c2
                            try clear p2
                            try clear c3
                            try clear c4
                            try clear c5
                            try clear c6
                            try clear c7
                            try clear c7b0
                            try clear c8
                            try clear c14
                            try clear c16
                            try clear c18
                            try clear c20
                            try clear c28
                            try clear c29
                            try clear c31
                            try clear c32
                            try clear c33
                            try clear c34
                            try clear c35
                            try clear c36
                            try clear c37
                            try clear c38
                            try clear c44
                            try clear c53
                            try clear c56
                            try clear c57
                            try clear c58
                            try clear c61
                            try clear c61b0
                            try clear c63
                            try clear c64
                            try clear c65
                            try clear c67
                            try clear c68
                            try clear c72
                            try clear c76
                            try clear c77
                            try clear c78
                            try clear c83
                            try clear c83b0
                            try clear c85
                            try clear c85b0
                            try clear c85b1
                            try clear hcz14_0
                            try clear hcz14_1
                            try clear hcz21_0
                            try clear hcz21_1
                            try clear hcz21_2
                            try clear hcz24_0
                            try clear hcz24_1
                            try clear hcz30_0
                            try clear hcz30_1
                            try clear hcz33_0
                            try clear hcz33_1
                            try clear hcz39_0
                            try clear hcz39_1
                            try clear hcz39_2
                            try clear hcz42_0
                            try clear hcz42_1
                            try clear hcz42_2
                            try clear hcz59_0
                            try clear hcz59_1
                            try clear hcz5_0
                            try clear hcz5_1
                            try clear hcz66_0
                            try clear hcz66_1
                            try clear hcz66_2
                            try clear hcz69_0
                            try clear hcz69_1
                            try clear hcz69_2
                            try clear hcz79_0
                            try clear hcz79_1
                            try clear hcz79_2
                            try clear hcz81_0
                            try clear hcz81_1
                            try clear hcz81_2
                            try clear hfz14_0
                            try clear hfz14_1
                            try clear hfz21_0
                            try clear hfz21_1
                            try clear hfz21_2
                            try clear hfz24_0
                            try clear hfz24_1
                            try clear hfz30_0
                            try clear hfz30_1
                            try clear hfz33_0
                            try clear hfz33_1
                            try clear hfz39_0
                            try clear hfz39_1
                            try clear hfz39_2
                            try clear hfz42_0
                            try clear hfz42_1
                            try clear hfz42_2
                            try clear hfz59_0
                            try clear hfz59_1
                            try clear hfz5_0
                            try clear hfz5_1
                            try clear hfz66_0
                            try clear hfz66_1
                            try clear hfz66_2
                            try clear hfz69_0
                            try clear hfz69_1
                            try clear hfz69_2
                            try clear hfz79_0
                            try clear hfz79_1
                            try clear hfz79_2
                            try clear hfz81_0
                            try clear hfz81_1
                            try clear hfz81_2
                            try clear p2
                            obtain ⟨kq, HA, HJ83, HO_198001, HO_198002, HO_205000, HO_205001, HO_213001, HO_213002, BK182, BK197, BK204, BK212, HB⟩ := hcut
                            cases kq with
                            | zero => exact absurd HA.out (by simp [laws_FnExactSyncLog.j6])
                            | succ kj83 =>
                              have H := HA.out
                              clear HA
                              simp only [laws_FnExactSyncLog.j6] at H
                              replace H := Option.bind_eq_some_iff.mp H
                              obtain ⟨⟨t229, t232⟩, A860, H⟩ := H
                              replace H : ((impl_SyncLog.f kj83 t229 t232).bind fun bt235 => ((laws_eqLogResult.f kj83 bt235.1 bt235.2.1 bt235.2.2 t190 t191 t194).bind fun t243 => (if t243 = true then (laws_FnExactSyncLog.j7 kj83 t225 t205 t226 t227) else (some false)))) = some r := H
                              have A86 := Aside0.mk A860
                              clear A860
                              replace H := Option.bind_eq_some_iff.mp H
                              obtain ⟨⟨t235, t236, t239⟩, A870, H⟩ := H
                              replace H : ((laws_eqLogResult.f kj83 t235 t236 t239 t190 t191 t194).bind fun t243 => (if t243 = true then (laws_FnExactSyncLog.j7 kj83 t225 t205 t226 t227) else (some false))) = some r := H
                              have A87 := Aside0.mk A870
                              clear A870
                              replace H := Option.bind_eq_some_iff.mp H
                              obtain ⟨t243, A880, H⟩ := H
                              replace H : (if t243 = true then (laws_FnExactSyncLog.j7 kj83 t225 t205 t226 t227) else (some false)) = some r := H
                              have A88 := Aside0.mk A880
                              clear A880
                              have HC89 := Aside0.mk H
                              clear H
                              have hnb90 := NB182_197.out
                              have hnc90 := NB197_182.out
                              have hnb91 := NB182_204.out
                              have hnc91 := NB204_182.out
                              have hnb92 := NB182_212.out
                              have hnc92 := NB212_182.out
                              have hcz93_0 : wc.cell? ⟨gb182, 0, none⟩ = some (.slice A0_0 l0_0.length c0_0) := (blk_cell BK182.out 0).trans rfl
                              have hcz93_1 : wc.cell? ⟨gb182, 1, none⟩ = some (.slice A0_1 l0_1.length c0_1) := (blk_cell BK182.out 1).trans rfl
                              have hfz93_0 := blk_frozen BK182.out 0
                              have hfz93_1 := blk_frozen BK182.out 1
                              go_upto_if 60 with (first | ((with_reducible refine gate_callee (f := 16) rfl ?_); refine goesL_ (some 55) rfl rfl Try.func16 (by kernel_rfl) rfl #[.agg #[.slice A0_0 l0_0.length c0_0, .slice A0_1 l0_1.length c0_1]] rfl (by (try simp only [List.map_toArray, List.map_cons, List.map_nil]); first | done | rfl | (simp only [List.length_drop, List.length_take]; rfl)) ?_; (with_reducible refine (laws_toLog.calls kj83 _ _ l0_0 _ _ l0_1 t229 t232 _ ?side1 ?side2 ?side3 ?side4 A86.out).mono ?_); (case side1 => repeat (first | exact (Kd.C_below HR0_0.out HB.out) | (with_reducible refine Kd.C_alloc ?_ _) | (with_reducible refine Kd.C_drewN ?_ _) | (with_reducible refine Kd.C_drew ?_))); (case side2 => exact HC0_0.out); (case side3 => repeat (first | exact (Kd.C_below HR0_1.out HB.out) | (with_reducible refine Kd.C_alloc ?_ _) | (with_reducible refine Kd.C_drewN ?_ _) | (with_reducible refine Kd.C_drew ?_))); (case side4 => exact HC0_1.out); rintro e w94 ⟨v230, v233, rfl, ho0, ho1, hb⟩; refine ⟨_, rfl, ?_⟩; have n0_ := Aside0.mk (Kd.R_mono (Kd.R_told (Kd.R_told (Kd.R_old (by (with_reducible repeat (first | apply Kd.R_alloc | apply Kd.R_drewN | apply Kd.R_drew)); exact HO_198001.out) hb) (Kd.R_base ho0)) (Kd.R_base ho1)) (fun _ h_ => h_.1)); have n1_ := Aside0.mk (Kd.R_mono (Kd.R_told (Kd.R_told (Kd.R_old (by (with_reducible repeat (first | apply Kd.R_alloc | apply Kd.R_drewN | apply Kd.R_drew)); exact HO_198002.out) hb) (Kd.R_base ho0)) (Kd.R_base ho1)) (fun _ h_ => h_.1)); have n2_ := Aside0.mk (Kd.R_mono (Kd.R_told (Kd.R_told (Kd.R_old (by (with_reducible repeat (first | apply Kd.R_alloc | apply Kd.R_drewN | apply Kd.R_drew)); exact HO_205000.out) hb) (Kd.R_base ho0)) (Kd.R_base ho1)) (fun _ h_ => h_.1)); have n3_ := Aside0.mk (Kd.R_mono (Kd.R_told (Kd.R_told (Kd.R_old (by (with_reducible repeat (first | apply Kd.R_alloc | apply Kd.R_drewN | apply Kd.R_drew)); exact HO_205001.out) hb) (Kd.R_base ho0)) (Kd.R_base ho1)) (fun _ h_ => h_.1)); have n4_ := Aside0.mk (Kd.R_mono (Kd.R_told (Kd.R_told (Kd.R_old (by (with_reducible repeat (first | apply Kd.R_alloc | apply Kd.R_drewN | apply Kd.R_drew)); exact HO_213001.out) hb) (Kd.R_base ho0)) (Kd.R_base ho1)) (fun _ h_ => h_.1)); have n5_ := Aside0.mk (Kd.R_mono (Kd.R_told (Kd.R_told (Kd.R_old (by (with_reducible repeat (first | apply Kd.R_alloc | apply Kd.R_drewN | apply Kd.R_drew)); exact HO_213002.out) hb) (Kd.R_base ho0)) (Kd.R_base ho1)) (fun _ h_ => h_.1)); have n6_ := Aside0.mk (Kd.R_lower (Kd.R_new' (Kd.R_new' (Kd.R_new' (Kd.R_new' (Kd.R_new' (Kd.R_new' ho0 (Kd.R_lt (by (with_reducible repeat (first | apply Kd.R_alloc | apply Kd.R_drewN | apply Kd.R_drew)); exact HO_198001.out))) (Kd.R_lt (by (with_reducible repeat (first | apply Kd.R_alloc | apply Kd.R_drewN | apply Kd.R_drew)); exact HO_198002.out))) (Kd.R_lt (by (with_reducible repeat (first | apply Kd.R_alloc | apply Kd.R_drewN | apply Kd.R_drew)); exact HO_205000.out))) (Kd.R_lt (by (with_reducible repeat (first | apply Kd.R_alloc | apply Kd.R_drewN | apply Kd.R_drew)); exact HO_205001.out))) (Kd.R_lt (by (with_reducible repeat (first | apply Kd.R_alloc | apply Kd.R_drewN | apply Kd.R_drew)); exact HO_213001.out))) (Kd.R_lt (by (with_reducible repeat (first | apply Kd.R_alloc | apply Kd.R_drewN | apply Kd.R_drew)); exact HO_213002.out))) (below_size (by repeat (first | (with_reducible first | exact HB.out | apply below_alloc | apply pw_below_drewN | apply below_drew1 | refine below_set ?_ GE182.out | refine below_set ?_ GE197.out | refine below_set ?_ GE204.out | refine below_set ?_ GE212.out) | exact HB.out)))); have n7_ := Aside0.mk (Kd.R_lower (Kd.R_new' (Kd.R_new' (Kd.R_new' (Kd.R_new' (Kd.R_new' (Kd.R_new' ho1 (Kd.R_lt (by (with_reducible repeat (first | apply Kd.R_alloc | apply Kd.R_drewN | apply Kd.R_drew)); exact HO_198001.out))) (Kd.R_lt (by (with_reducible repeat (first | apply Kd.R_alloc | apply Kd.R_drewN | apply Kd.R_drew)); exact HO_198002.out))) (Kd.R_lt (by (with_reducible repeat (first | apply Kd.R_alloc | apply Kd.R_drewN | apply Kd.R_drew)); exact HO_205000.out))) (Kd.R_lt (by (with_reducible repeat (first | apply Kd.R_alloc | apply Kd.R_drewN | apply Kd.R_drew)); exact HO_205001.out))) (Kd.R_lt (by (with_reducible repeat (first | apply Kd.R_alloc | apply Kd.R_drewN | apply Kd.R_drew)); exact HO_213001.out))) (Kd.R_lt (by (with_reducible repeat (first | apply Kd.R_alloc | apply Kd.R_drewN | apply Kd.R_drew)); exact HO_213002.out))) (below_size (by repeat (first | (with_reducible first | exact HB.out | apply below_alloc | apply pw_below_drewN | apply below_drew1 | refine below_set ?_ GE182.out | refine below_set ?_ GE197.out | refine below_set ?_ GE204.out | refine below_set ?_ GE212.out) | exact HB.out)))); have n8_ := Aside0.mk (blk_below (g := gb182) (o := .cells #[.slice A0_0 l0_0.length c0_0, .slice A0_1 l0_1.length c0_1] 24 (0, 0)) (by (with_reducible repeat (first | refine blk_drewN ?_ _ | refine blk_drew ?_ | refine blk_alloc ?_ _)); exact BK182.out) hb); have n9_ := Aside0.mk (blk_below (g := gb197) (o := .cells #[.int .i64 t190, .slice Ao22 t191.length co22, .slice Ao23 t194.length co23] 46 (0, 0)) (by (with_reducible repeat (first | refine blk_drewN ?_ _ | refine blk_drew ?_ | refine blk_alloc ?_ _)); exact BK197.out) hb); have n10_ := Aside0.mk (blk_below (g := gb204) (o := .cells #[.slice Ao27 t222.length co27, .slice Ao31 t223.length co31] 27 (0, 0)) (by (with_reducible repeat (first | refine blk_drewN ?_ _ | refine blk_drew ?_ | refine blk_alloc ?_ _)); exact BK204.out) hb); have n11_ := Aside0.mk (blk_below (g := gb212) (o := .cells #[.int .i64 t205, .slice Ao40 t226.length co40, .slice Ao41 t227.length co41] 46 (0, 0)) (by (with_reducible repeat (first | refine blk_drewN ?_ _ | refine blk_drew ?_ | refine blk_alloc ?_ _)); exact BK212.out) hb); have n12_ := Aside0.mk (below_step (by repeat (first | (with_reducible first | exact HB.out | apply below_alloc | apply pw_below_drewN | apply below_drew1 | refine below_set ?_ GE182.out | refine below_set ?_ GE197.out | refine below_set ?_ GE204.out | refine below_set ?_ GE212.out) | exact HB.out)) hb); clear HO_198001; clear HO_198002; clear HO_205000; clear HO_205001; clear HO_213001; clear HO_213002; clear BK182; clear BK197; clear BK204; clear BK212; clear HB; have HO_198001 := n0_; have HO_198002 := n1_; have HO_205000 := n2_; have HO_205001 := n3_; have HO_213001 := n4_; have HO_213002 := n5_; have HO231 := n6_; have HO234 := n7_; have BK182 := n8_; have BK197 := n9_; have BK204 := n10_; have BK212 := n11_; have HB := n12_; clear n0_ n1_ n2_ n3_ n4_ n5_ n6_ n7_ n8_ n9_ n10_ n11_ n12_; (try clear hb); (try clear hb2); (try clear hk); (try clear hi); (try clear ho0); (try clear ho1); obtain ⟨Ao95, co95, eo95⟩ := Kd.R_slice HO231.out; subst eo95; obtain ⟨Ao96, co96, eo96⟩ := Kd.R_slice HO234.out; subst eo96) | ((with_reducible refine gate_callee (f := 32) rfl ?_); refine goesL_ (some 56) rfl rfl Try.func32 (by kernel_rfl) rfl #[.agg #[.slice Ao95 t229.length co95, .slice Ao96 t232.length co96]] rfl (by (try simp only [List.map_toArray, List.map_cons, List.map_nil]); first | done | rfl | (simp only [List.length_drop, List.length_take]; rfl)) ?_; (with_reducible refine (impl_SyncLog.calls kj83 (fun k_ => some k_ = (.slice Ao95 t229.length co95 : Value).ownBlock) _ _ t229 (fun k_ => some k_ = (.slice Ao96 t232.length co96 : Value).ownBlock) _ _ t232 t235 t236 t239 _ ?side1 ?side2 A87.out).mono ?_); (case side1 => exact Kd.R_V (Kd.R_tight rfl (Kd.R_types (Kd.R_types (Kd.R_types (Kd.R_types (HO231.out) BK182.out (by decide)) BK197.out (by decide)) BK204.out (by decide)) BK212.out (by decide)))); (case side2 => exact Kd.R_V (Kd.R_tight rfl (Kd.R_types (Kd.R_types (Kd.R_types (Kd.R_types (HO234.out) BK182.out (by decide)) BK197.out (by decide)) BK204.out (by decide)) BK212.out (by decide)))); rintro e w97 ⟨v237, v240, rfl, ho0, ho1, hb⟩; refine ⟨_, rfl, ?_⟩; have n0_ := Aside0.mk (Kd.R_mono (Kd.R_told (Kd.R_told (Kd.R_old (by (with_reducible repeat (first | apply Kd.R_alloc | apply Kd.R_drewN | apply Kd.R_drew)); exact HO_198001.out) hb) (Kd.R_base ho0)) (Kd.R_base ho1)) (fun _ h_ => h_.1)); have n1_ := Aside0.mk (Kd.R_mono (Kd.R_told (Kd.R_told (Kd.R_old (by (with_reducible repeat (first | apply Kd.R_alloc | apply Kd.R_drewN | apply Kd.R_drew)); exact HO_198002.out) hb) (Kd.R_base ho0)) (Kd.R_base ho1)) (fun _ h_ => h_.1)); have n2_ := Aside0.mk (Kd.R_mono (Kd.R_told (Kd.R_told (Kd.R_old (by (with_reducible repeat (first | apply Kd.R_alloc | apply Kd.R_drewN | apply Kd.R_drew)); exact HO_205000.out) hb) (Kd.R_base ho0)) (Kd.R_base ho1)) (fun _ h_ => h_.1)); have n3_ := Aside0.mk (Kd.R_mono (Kd.R_told (Kd.R_told (Kd.R_old (by (with_reducible repeat (first | apply Kd.R_alloc | apply Kd.R_drewN | apply Kd.R_drew)); exact HO_205001.out) hb) (Kd.R_base ho0)) (Kd.R_base ho1)) (fun _ h_ => h_.1)); have n4_ := Aside0.mk (Kd.R_mono (Kd.R_told (Kd.R_told (Kd.R_old (by (with_reducible repeat (first | apply Kd.R_alloc | apply Kd.R_drewN | apply Kd.R_drew)); exact HO_213001.out) hb) (Kd.R_base ho0)) (Kd.R_base ho1)) (fun _ h_ => h_.1)); have n5_ := Aside0.mk (Kd.R_mono (Kd.R_told (Kd.R_told (Kd.R_old (by (with_reducible repeat (first | apply Kd.R_alloc | apply Kd.R_drewN | apply Kd.R_drew)); exact HO_213002.out) hb) (Kd.R_base ho0)) (Kd.R_base ho1)) (fun _ h_ => h_.1)); have n6_ := Aside0.mk (Kd.R_mono (Kd.R_told (Kd.R_told (Kd.R_old (by (with_reducible repeat (first | apply Kd.R_alloc | apply Kd.R_drewN | apply Kd.R_drew)); exact HO231.out) hb) (Kd.R_base ho0)) (Kd.R_base ho1)) (fun _ h_ => h_.1)); have n7_ := Aside0.mk (Kd.R_mono (Kd.R_told (Kd.R_told (Kd.R_old (by (with_reducible repeat (first | apply Kd.R_alloc | apply Kd.R_drewN | apply Kd.R_drew)); exact HO234.out) hb) (Kd.R_base ho0)) (Kd.R_base ho1)) (fun _ h_ => h_.1)); have n8_ := Aside0.mk (Kd.R_lower (Kd.R_new' (Kd.R_new' (Kd.R_new' (Kd.R_new' (Kd.R_new' (Kd.R_new' (Kd.R_new' (Kd.R_new' (Kd.R_mono (ok' := fun k_ => some k_ ≠ (v240 : Value).ownBlock) ho0 (fun _ hk_ => hk_.2)) (Kd.R_lt (by (with_reducible repeat (first | apply Kd.R_alloc | apply Kd.R_drewN | apply Kd.R_drew)); exact HO_198001.out))) (Kd.R_lt (by (with_reducible repeat (first | apply Kd.R_alloc | apply Kd.R_drewN | apply Kd.R_drew)); exact HO_198002.out))) (Kd.R_lt (by (with_reducible repeat (first | apply Kd.R_alloc | apply Kd.R_drewN | apply Kd.R_drew)); exact HO_205000.out))) (Kd.R_lt (by (with_reducible repeat (first | apply Kd.R_alloc | apply Kd.R_drewN | apply Kd.R_drew)); exact HO_205001.out))) (Kd.R_lt (by (with_reducible repeat (first | apply Kd.R_alloc | apply Kd.R_drewN | apply Kd.R_drew)); exact HO_213001.out))) (Kd.R_lt (by (with_reducible repeat (first | apply Kd.R_alloc | apply Kd.R_drewN | apply Kd.R_drew)); exact HO_213002.out))) (Kd.R_lt (by (with_reducible repeat (first | apply Kd.R_alloc | apply Kd.R_drewN | apply Kd.R_drew)); exact HO231.out))) (Kd.R_lt (by (with_reducible repeat (first | apply Kd.R_alloc | apply Kd.R_drewN | apply Kd.R_drew)); exact HO234.out))) (below_size (by repeat (first | (with_reducible first | exact HB.out | apply below_alloc | apply pw_below_drewN | apply below_drew1 | refine below_set ?_ GE182.out | refine below_set ?_ GE197.out | refine below_set ?_ GE204.out | refine below_set ?_ GE212.out) | exact HB.out)))); have n9_ := Aside0.mk (Kd.R_lower (Kd.R_new' (Kd.R_new' (Kd.R_new' (Kd.R_new' (Kd.R_new' (Kd.R_new' (Kd.R_new' (Kd.R_new' (Kd.R_mono (ok' := fun k_ => some k_ ≠ (v237 : Value).ownBlock) ho1 (fun _ hk_ => hk_.2)) (Kd.R_lt (by (with_reducible repeat (first | apply Kd.R_alloc | apply Kd.R_drewN | apply Kd.R_drew)); exact HO_198001.out))) (Kd.R_lt (by (with_reducible repeat (first | apply Kd.R_alloc | apply Kd.R_drewN | apply Kd.R_drew)); exact HO_198002.out))) (Kd.R_lt (by (with_reducible repeat (first | apply Kd.R_alloc | apply Kd.R_drewN | apply Kd.R_drew)); exact HO_205000.out))) (Kd.R_lt (by (with_reducible repeat (first | apply Kd.R_alloc | apply Kd.R_drewN | apply Kd.R_drew)); exact HO_205001.out))) (Kd.R_lt (by (with_reducible repeat (first | apply Kd.R_alloc | apply Kd.R_drewN | apply Kd.R_drew)); exact HO_213001.out))) (Kd.R_lt (by (with_reducible repeat (first | apply Kd.R_alloc | apply Kd.R_drewN | apply Kd.R_drew)); exact HO_213002.out))) (Kd.R_lt (by (with_reducible repeat (first | apply Kd.R_alloc | apply Kd.R_drewN | apply Kd.R_drew)); exact HO231.out))) (Kd.R_lt (by (with_reducible repeat (first | apply Kd.R_alloc | apply Kd.R_drewN | apply Kd.R_drew)); exact HO234.out))) (below_size (by repeat (first | (with_reducible first | exact HB.out | apply below_alloc | apply pw_below_drewN | apply below_drew1 | refine below_set ?_ GE182.out | refine below_set ?_ GE197.out | refine below_set ?_ GE204.out | refine below_set ?_ GE212.out) | exact HB.out)))); have n10_ := Aside0.mk (blk_below (g := gb182) (o := .cells #[.slice A0_0 l0_0.length c0_0, .slice A0_1 l0_1.length c0_1] 24 (0, 0)) (by (with_reducible repeat (first | refine blk_drewN ?_ _ | refine blk_drew ?_ | refine blk_alloc ?_ _)); exact BK182.out) hb); have n11_ := Aside0.mk (blk_below (g := gb197) (o := .cells #[.int .i64 t190, .slice Ao22 t191.length co22, .slice Ao23 t194.length co23] 46 (0, 0)) (by (with_reducible repeat (first | refine blk_drewN ?_ _ | refine blk_drew ?_ | refine blk_alloc ?_ _)); exact BK197.out) hb); have n12_ := Aside0.mk (blk_below (g := gb204) (o := .cells #[.slice Ao27 t222.length co27, .slice Ao31 t223.length co31] 27 (0, 0)) (by (with_reducible repeat (first | refine blk_drewN ?_ _ | refine blk_drew ?_ | refine blk_alloc ?_ _)); exact BK204.out) hb); have n13_ := Aside0.mk (blk_below (g := gb212) (o := .cells #[.int .i64 t205, .slice Ao40 t226.length co40, .slice Ao41 t227.length co41] 46 (0, 0)) (by (with_reducible repeat (first | refine blk_drewN ?_ _ | refine blk_drew ?_ | refine blk_alloc ?_ _)); exact BK212.out) hb); have n14_ := Aside0.mk (below_step (by repeat (first | (with_reducible first | exact HB.out | apply below_alloc | apply pw_below_drewN | apply below_drew1 | refine below_set ?_ GE182.out | refine below_set ?_ GE197.out | refine below_set ?_ GE204.out | refine below_set ?_ GE212.out) | exact HB.out)) hb); clear HO_198001; clear HO_198002; clear HO_205000; clear HO_205001; clear HO_213001; clear HO_213002; clear HO231; clear HO234; clear BK182; clear BK197; clear BK204; clear BK212; clear HB; have HO_198001 := n0_; have HO_198002 := n1_; have HO_205000 := n2_; have HO_205001 := n3_; have HO_213001 := n4_; have HO_213002 := n5_; have HO231 := n6_; have HO234 := n7_; have HO238 := n8_; have HO241 := n9_; have BK182 := n10_; have BK197 := n11_; have BK204 := n12_; have BK212 := n13_; have HB := n14_; clear n0_ n1_ n2_ n3_ n4_ n5_ n6_ n7_ n8_ n9_ n10_ n11_ n12_ n13_ n14_; (try clear hb); (try clear hb2); (try clear hk); (try clear hi); (try clear ho0); (try clear ho1)) | ((with_reducible refine gate_dst (N := 10) rfl ?_); refine box_event ?hg (N := 10) ?hd (cs := #[.int .i64 0, .slice none 0 0, .slice none 0 0]) (t := 46) ?hr ?_; (case hd => rfl); (case hg => rfl); (case hr => first | (go_simp; done) | (go_simp; rfl)); intro gb242 hg w98 hbox hb; have n0_ := Aside0.mk (Kd.R_below (by (with_reducible repeat (first | apply Kd.R_alloc | apply Kd.R_drewN | apply Kd.R_drew)); exact HO_198001.out) hb); have n1_ := Aside0.mk (Kd.R_below (by (with_reducible repeat (first | apply Kd.R_alloc | apply Kd.R_drewN | apply Kd.R_drew)); exact HO_198002.out) hb); have n2_ := Aside0.mk (Kd.R_below (by (with_reducible repeat (first | apply Kd.R_alloc | apply Kd.R_drewN | apply Kd.R_drew)); exact HO_205000.out) hb); have n3_ := Aside0.mk (Kd.R_below (by (with_reducible repeat (first | apply Kd.R_alloc | apply Kd.R_drewN | apply Kd.R_drew)); exact HO_205001.out) hb); have n4_ := Aside0.mk (Kd.R_below (by (with_reducible repeat (first | apply Kd.R_alloc | apply Kd.R_drewN | apply Kd.R_drew)); exact HO_213001.out) hb); have n5_ := Aside0.mk (Kd.R_below (by (with_reducible repeat (first | apply Kd.R_alloc | apply Kd.R_drewN | apply Kd.R_drew)); exact HO_213002.out) hb); have n6_ := Aside0.mk (Kd.R_below (by (with_reducible repeat (first | apply Kd.R_alloc | apply Kd.R_drewN | apply Kd.R_drew)); exact HO231.out) hb); have n7_ := Aside0.mk (Kd.R_below (by (with_reducible repeat (first | apply Kd.R_alloc | apply Kd.R_drewN | apply Kd.R_drew)); exact HO234.out) hb); have n8_ := Aside0.mk (Kd.R_below (by (with_reducible repeat (first | apply Kd.R_alloc | apply Kd.R_drewN | apply Kd.R_drew)); exact HO238.out) hb); have n9_ := Aside0.mk (Kd.R_below (by (with_reducible repeat (first | apply Kd.R_alloc | apply Kd.R_drewN | apply Kd.R_drew)); exact HO241.out) hb); have n10_ := Aside0.mk (blk_below (g := gb182) (o := .cells #[.slice A0_0 l0_0.length c0_0, .slice A0_1 l0_1.length c0_1] 24 (0, 0)) (by (with_reducible repeat (first | refine blk_drewN ?_ _ | refine blk_drew ?_ | refine blk_alloc ?_ _)); exact BK182.out) hb); have n11_ := Aside0.mk (blk_below (g := gb197) (o := .cells #[.int .i64 t190, .slice Ao22 t191.length co22, .slice Ao23 t194.length co23] 46 (0, 0)) (by (with_reducible repeat (first | refine blk_drewN ?_ _ | refine blk_drew ?_ | refine blk_alloc ?_ _)); exact BK197.out) hb); have n12_ := Aside0.mk (blk_below (g := gb204) (o := .cells #[.slice Ao27 t222.length co27, .slice Ao31 t223.length co31] 27 (0, 0)) (by (with_reducible repeat (first | refine blk_drewN ?_ _ | refine blk_drew ?_ | refine blk_alloc ?_ _)); exact BK204.out) hb); have n13_ := Aside0.mk (blk_below (g := gb212) (o := .cells #[.int .i64 t205, .slice Ao40 t226.length co40, .slice Ao41 t227.length co41] 46 (0, 0)) (by (with_reducible repeat (first | refine blk_drewN ?_ _ | refine blk_drew ?_ | refine blk_alloc ?_ _)); exact BK212.out) hb); have n14_ := Aside0.mk (below_step (by repeat (first | (with_reducible first | exact HB.out | apply below_alloc | apply pw_below_drewN | apply below_drew1 | refine below_set ?_ GE182.out | refine below_set ?_ GE197.out | refine below_set ?_ GE204.out | refine below_set ?_ GE212.out) | exact HB.out)) hb); have n15_ := Aside0.mk (hbox); have n16_ := Aside0.mk ((by rw [hg]; exact (below_size (by repeat (first | (with_reducible first | exact HB.out | apply below_alloc | apply pw_below_drewN | apply below_drew1 | refine below_set ?_ GE182.out | refine below_set ?_ GE197.out | refine below_set ?_ GE204.out | refine below_set ?_ GE212.out) | exact HB.out))) : w.heap.size ≤ gb242)); have n17_ := Aside0.mk ((by rw [hg]; exact (below_size (by repeat (first | (with_reducible first | exact HB.out | apply below_alloc | apply pw_below_drewN | apply below_drew1 | refine below_set ?_ GE182.out | refine below_set ?_ GE197.out | refine below_set ?_ GE204.out | refine below_set ?_ GE212.out) | exact HB.out))) : w.heap.size ≤ gb242)); have n18_ := Aside0.mk ((by rw [hg]; exact Nat.ne_of_lt (blk_lt (g := gb182) (o := .cells #[.slice A0_0 l0_0.length c0_0, .slice A0_1 l0_1.length c0_1] 24 (0, 0)) (by (with_reducible repeat (first | refine blk_drewN ?_ _ | refine blk_drew ?_ | refine blk_alloc ?_ _)); exact BK182.out)) : gb182 ≠ gb242)); have n19_ := Aside0.mk ((by rw [hg]; exact Nat.ne_of_gt (blk_lt (g := gb182) (o := .cells #[.slice A0_0 l0_0.length c0_0, .slice A0_1 l0_1.length c0_1] 24 (0, 0)) (by (with_reducible repeat (first | refine blk_drewN ?_ _ | refine blk_drew ?_ | refine blk_alloc ?_ _)); exact BK182.out)) : gb242 ≠ gb182)); have n20_ := Aside0.mk ((by rw [hg]; exact Nat.ne_of_lt (blk_lt (g := gb197) (o := .cells #[.int .i64 t190, .slice Ao22 t191.length co22, .slice Ao23 t194.length co23] 46 (0, 0)) (by (with_reducible repeat (first | refine blk_drewN ?_ _ | refine blk_drew ?_ | refine blk_alloc ?_ _)); exact BK197.out)) : gb197 ≠ gb242)); have n21_ := Aside0.mk ((by rw [hg]; exact Nat.ne_of_gt (blk_lt (g := gb197) (o := .cells #[.int .i64 t190, .slice Ao22 t191.length co22, .slice Ao23 t194.length co23] 46 (0, 0)) (by (with_reducible repeat (first | refine blk_drewN ?_ _ | refine blk_drew ?_ | refine blk_alloc ?_ _)); exact BK197.out)) : gb242 ≠ gb197)); have n22_ := Aside0.mk ((by rw [hg]; exact Nat.ne_of_lt (blk_lt (g := gb204) (o := .cells #[.slice Ao27 t222.length co27, .slice Ao31 t223.length co31] 27 (0, 0)) (by (with_reducible repeat (first | refine blk_drewN ?_ _ | refine blk_drew ?_ | refine blk_alloc ?_ _)); exact BK204.out)) : gb204 ≠ gb242)); have n23_ := Aside0.mk ((by rw [hg]; exact Nat.ne_of_gt (blk_lt (g := gb204) (o := .cells #[.slice Ao27 t222.length co27, .slice Ao31 t223.length co31] 27 (0, 0)) (by (with_reducible repeat (first | refine blk_drewN ?_ _ | refine blk_drew ?_ | refine blk_alloc ?_ _)); exact BK204.out)) : gb242 ≠ gb204)); have n24_ := Aside0.mk ((by rw [hg]; exact Nat.ne_of_lt (blk_lt (g := gb212) (o := .cells #[.int .i64 t205, .slice Ao40 t226.length co40, .slice Ao41 t227.length co41] 46 (0, 0)) (by (with_reducible repeat (first | refine blk_drewN ?_ _ | refine blk_drew ?_ | refine blk_alloc ?_ _)); exact BK212.out)) : gb212 ≠ gb242)); have n25_ := Aside0.mk ((by rw [hg]; exact Nat.ne_of_gt (blk_lt (g := gb212) (o := .cells #[.int .i64 t205, .slice Ao40 t226.length co40, .slice Ao41 t227.length co41] 46 (0, 0)) (by (with_reducible repeat (first | refine blk_drewN ?_ _ | refine blk_drew ?_ | refine blk_alloc ?_ _)); exact BK212.out)) : gb242 ≠ gb212)); clear HO_198001; clear HO_198002; clear HO_205000; clear HO_205001; clear HO_213001; clear HO_213002; clear HO231; clear HO234; clear HO238; clear HO241; clear BK182; clear BK197; clear BK204; clear BK212; clear HB; have HO_198001 := n0_; have HO_198002 := n1_; have HO_205000 := n2_; have HO_205001 := n3_; have HO_213001 := n4_; have HO_213002 := n5_; have HO231 := n6_; have HO234 := n7_; have HO238 := n8_; have HO241 := n9_; have BK182 := n10_; have BK197 := n11_; have BK204 := n12_; have BK212 := n13_; have HB := n14_; have BK242 := n15_; have GW242 := n16_; have GE242 := n17_; have NB182_242 := n18_; have NB242_182 := n19_; have NB197_242 := n20_; have NB242_197 := n21_; have NB204_242 := n22_; have NB242_204 := n23_; have NB212_242 := n24_; have NB242_212 := n25_; clear n0_ n1_ n2_ n3_ n4_ n5_ n6_ n7_ n8_ n9_ n10_ n11_ n12_ n13_ n14_ n15_ n16_ n17_ n18_ n19_ n20_ n21_ n22_ n23_ n24_ n25_; clear hb hbox hg; have hnb99 := NB242_182.out; have hnc99 := NB182_242.out; have hnb100 := NB242_197.out; have hnc100 := NB197_242.out; have hnb101 := NB242_204.out; have hnc101 := NB204_242.out; have hnb102 := NB242_212.out; have hnc102 := NB212_242.out; have hcz103_0 : w98.cell? ⟨gb242, 0, none⟩ = some (.int .i64 0) := (blk_cell BK242.out 0).trans rfl; have hcz103_1 : w98.cell? ⟨gb242, 1, none⟩ = some (.slice none 0 0) := (blk_cell BK242.out 1).trans rfl; have hcz103_2 : w98.cell? ⟨gb242, 2, none⟩ = some (.slice none 0 0) := (blk_cell BK242.out 2).trans rfl; have hfz103_0 := blk_frozen BK242.out 0; have hfz103_1 := blk_frozen BK242.out 1; have hfz103_2 := blk_frozen BK242.out 2; obtain ⟨Ao104, co104, eo104⟩ := Kd.R_slice HO238.out; subst eo104; obtain ⟨Ao105, co105, eo105⟩ := Kd.R_slice HO241.out; subst eo105; have hnb106 := NB197_204.out; have hnc106 := NB204_197.out; have hnb107 := NB197_212.out; have hnc107 := NB212_197.out; have hcz108_0 : w98.cell? ⟨gb197, 0, none⟩ = some (.int .i64 t190) := (blk_cell BK197.out 0).trans rfl; have hcz108_1 : w98.cell? ⟨gb197, 1, none⟩ = some (.slice Ao22 t191.length co22) := (blk_cell BK197.out 1).trans rfl; have hcz108_2 : w98.cell? ⟨gb197, 2, none⟩ = some (.slice Ao23 t194.length co23) := (blk_cell BK197.out 2).trans rfl; have hfz108_0 := blk_frozen BK197.out 0; have hfz108_1 := blk_frozen BK197.out 1; have hfz108_2 := blk_frozen BK197.out 2) | ((with_reducible refine gate_callee (f := 33) rfl ?_); refine goesL_ (some 59) rfl rfl Try.func33 (by kernel_rfl) rfl #[.agg #[.int .i64 t235, .slice Ao104 t236.length co104, .slice Ao105 t239.length co105], .agg #[.int .i64 t190, .slice Ao22 t191.length co22, .slice Ao23 t194.length co23]] rfl (by (try simp only [List.map_toArray, List.map_cons, List.map_nil]); first | done | rfl | (simp only [List.length_drop, List.length_take]; rfl)) ?_; (with_reducible refine (laws_eqLogResult.calls kj83 t235 _ _ t236 _ _ t239 t190 _ _ t191 _ _ t194 t243 _ ?side1 ?side2 ?side3 ?side4 ?side5 ?side6 ?side7 ?side8 A88.out).mono ?_); (case side1 => refine (Kd.R_reads' (e := 5) (base := w.heap.size) (ok := fun k_ => ((((((((some k_ ≠ (.slice Ao105 t239.length co105 : Value).ownBlock ∧ some k_ ≠ (.slice Ao22 t191.length co22 : Value).ownBlock) ∧ some k_ ≠ (.slice Ao23 t194.length co23 : Value).ownBlock) ∧ some k_ ≠ (.slice Ao27 t222.length co27 : Value).ownBlock) ∧ some k_ ≠ (.slice Ao31 t223.length co31 : Value).ownBlock) ∧ some k_ ≠ (.slice Ao40 t226.length co40 : Value).ownBlock) ∧ some k_ ≠ (.slice Ao41 t227.length co41 : Value).ownBlock) ∧ some k_ ≠ (.slice Ao95 t229.length co95 : Value).ownBlock) ∧ some k_ ≠ (.slice Ao96 t232.length co96 : Value).ownBlock)) (n := t236.length) (c := co104) ?_).2.2; exact (by (with_reducible repeat (first | apply Kd.R_alloc | apply Kd.R_drewN | apply Kd.R_drew)); exact (Kd.R_mono (Kd.R_far (p := ⟨gb242, 2, none⟩) (Kd.R_far (p := ⟨gb242, 1, none⟩) (Kd.R_far (p := ⟨gb242, 0, none⟩) (Kd.R_types HO238.out BK242.out (by decide)) (fun _ hk => hk.2) (.int .i64 t235)) (fun _ hk => hk.2) (.slice Ao104 t236.length co104)) (fun _ hk => hk.2) (.slice Ao105 t239.length co105)) (fun _ h_ => h_.1)))); (case side2 => exact (Kd.R_reads' HO238.out).2.1); (case side3 => refine (Kd.R_reads' (e := 5) (base := w.heap.size) (ok := fun k_ => ((((((((some k_ ≠ (.slice Ao104 t236.length co104 : Value).ownBlock ∧ some k_ ≠ (.slice Ao22 t191.length co22 : Value).ownBlock) ∧ some k_ ≠ (.slice Ao23 t194.length co23 : Value).ownBlock) ∧ some k_ ≠ (.slice Ao27 t222.length co27 : Value).ownBlock) ∧ some k_ ≠ (.slice Ao31 t223.length co31 : Value).ownBlock) ∧ some k_ ≠ (.slice Ao40 t226.length co40 : Value).ownBlock) ∧ some k_ ≠ (.slice Ao41 t227.length co41 : Value).ownBlock) ∧ some k_ ≠ (.slice Ao95 t229.length co95 : Value).ownBlock) ∧ some k_ ≠ (.slice Ao96 t232.length co96 : Value).ownBlock)) (n := t239.length) (c := co105) ?_).2.2; exact (by (with_reducible repeat (first | apply Kd.R_alloc | apply Kd.R_drewN | apply Kd.R_drew)); exact (Kd.R_mono (Kd.R_far (p := ⟨gb242, 2, none⟩) (Kd.R_far (p := ⟨gb242, 1, none⟩) (Kd.R_far (p := ⟨gb242, 0, none⟩) (Kd.R_types HO241.out BK242.out (by decide)) (fun _ hk => hk.2) (.int .i64 t235)) (fun _ hk => hk.2) (.slice Ao104 t236.length co104)) (fun _ hk => hk.2) (.slice Ao105 t239.length co105)) (fun _ h_ => h_.1)))); (case side4 => exact (Kd.R_reads' HO241.out).2.1); (case side5 => refine (Kd.R_reads' (e := 5) (base := w.heap.size) (ok := fun k_ => (((((some k_ ≠ (.slice Ao23 t194.length co23 : Value).ownBlock ∧ (some k_ ≠ (.slice Ao27 t222.length co27 : Value).ownBlock ∧ (some k_ ≠ (.slice Ao31 t223.length co31 : Value).ownBlock ∧ (some k_ ≠ (.slice Ao40 t226.length co40 : Value).ownBlock ∧ some k_ ≠ (.slice Ao41 t227.length co41 : Value).ownBlock)))) ∧ some k_ ≠ (.slice Ao95 t229.length co95 : Value).ownBlock) ∧ some k_ ≠ (.slice Ao96 t232.length co96 : Value).ownBlock) ∧ some k_ ≠ (.slice Ao104 t236.length co104 : Value).ownBlock) ∧ some k_ ≠ (.slice Ao105 t239.length co105 : Value).ownBlock)) (n := t191.length) (c := co22) ?_).2.2; exact (by (with_reducible repeat (first | apply Kd.R_alloc | apply Kd.R_drewN | apply Kd.R_drew)); exact (Kd.R_mono (Kd.R_far (p := ⟨gb242, 2, none⟩) (Kd.R_far (p := ⟨gb242, 1, none⟩) (Kd.R_far (p := ⟨gb242, 0, none⟩) (Kd.R_types HO_198001.out BK242.out (by decide)) (fun _ hk => hk.2) (.int .i64 t235)) (fun _ hk => hk.2) (.slice Ao104 t236.length co104)) (fun _ hk => hk.2) (.slice Ao105 t239.length co105)) (fun _ h_ => h_.1)))); (case side6 => exact (Kd.R_reads' HO_198001.out).2.1); (case side7 => refine (Kd.R_reads' (e := 5) (base := w.heap.size) (ok := fun k_ => (((((some k_ ≠ (.slice Ao22 t191.length co22 : Value).ownBlock ∧ (some k_ ≠ (.slice Ao27 t222.length co27 : Value).ownBlock ∧ (some k_ ≠ (.slice Ao31 t223.length co31 : Value).ownBlock ∧ (some k_ ≠ (.slice Ao40 t226.length co40 : Value).ownBlock ∧ some k_ ≠ (.slice Ao41 t227.length co41 : Value).ownBlock)))) ∧ some k_ ≠ (.slice Ao95 t229.length co95 : Value).ownBlock) ∧ some k_ ≠ (.slice Ao96 t232.length co96 : Value).ownBlock) ∧ some k_ ≠ (.slice Ao104 t236.length co104 : Value).ownBlock) ∧ some k_ ≠ (.slice Ao105 t239.length co105 : Value).ownBlock)) (n := t194.length) (c := co23) ?_).2.2; exact (by (with_reducible repeat (first | apply Kd.R_alloc | apply Kd.R_drewN | apply Kd.R_drew)); exact (Kd.R_mono (Kd.R_far (p := ⟨gb242, 2, none⟩) (Kd.R_far (p := ⟨gb242, 1, none⟩) (Kd.R_far (p := ⟨gb242, 0, none⟩) (Kd.R_types HO_198002.out BK242.out (by decide)) (fun _ hk => hk.2) (.int .i64 t235)) (fun _ hk => hk.2) (.slice Ao104 t236.length co104)) (fun _ hk => hk.2) (.slice Ao105 t239.length co105)) (fun _ h_ => h_.1)))); (case side8 => exact (Kd.R_reads' HO_198002.out).2.1); rintro e w109 ⟨rfl, hb⟩; refine ⟨_, rfl, ?_⟩; have n0_ := Aside0.mk (Kd.R_below (by (with_reducible repeat (first | apply Kd.R_alloc | apply Kd.R_drewN | apply Kd.R_drew)); exact (Kd.R_mono (Kd.R_far (p := ⟨gb242, 2, none⟩) (Kd.R_far (p := ⟨gb242, 1, none⟩) (Kd.R_far (p := ⟨gb242, 0, none⟩) (Kd.R_types HO_198001.out BK242.out (by decide)) (fun _ hk => hk.2) (.int .i64 t235)) (fun _ hk => hk.2) (.slice Ao104 t236.length co104)) (fun _ hk => hk.2) (.slice Ao105 t239.length co105)) (fun _ h_ => h_.1))) hb); have n1_ := Aside0.mk (Kd.R_below (by (with_reducible repeat (first | apply Kd.R_alloc | apply Kd.R_drewN | apply Kd.R_drew)); exact (Kd.R_mono (Kd.R_far (p := ⟨gb242, 2, none⟩) (Kd.R_far (p := ⟨gb242, 1, none⟩) (Kd.R_far (p := ⟨gb242, 0, none⟩) (Kd.R_types HO_198002.out BK242.out (by decide)) (fun _ hk => hk.2) (.int .i64 t235)) (fun _ hk => hk.2) (.slice Ao104 t236.length co104)) (fun _ hk => hk.2) (.slice Ao105 t239.length co105)) (fun _ h_ => h_.1))) hb); have n2_ := Aside0.mk (Kd.R_below (by (with_reducible repeat (first | apply Kd.R_alloc | apply Kd.R_drewN | apply Kd.R_drew)); exact (Kd.R_mono (Kd.R_far (p := ⟨gb242, 2, none⟩) (Kd.R_far (p := ⟨gb242, 1, none⟩) (Kd.R_far (p := ⟨gb242, 0, none⟩) (Kd.R_types HO_205000.out BK242.out (by decide)) (fun _ hk => hk.2) (.int .i64 t235)) (fun _ hk => hk.2) (.slice Ao104 t236.length co104)) (fun _ hk => hk.2) (.slice Ao105 t239.length co105)) (fun _ h_ => h_.1))) hb); have n3_ := Aside0.mk (Kd.R_below (by (with_reducible repeat (first | apply Kd.R_alloc | apply Kd.R_drewN | apply Kd.R_drew)); exact (Kd.R_mono (Kd.R_far (p := ⟨gb242, 2, none⟩) (Kd.R_far (p := ⟨gb242, 1, none⟩) (Kd.R_far (p := ⟨gb242, 0, none⟩) (Kd.R_types HO_205001.out BK242.out (by decide)) (fun _ hk => hk.2) (.int .i64 t235)) (fun _ hk => hk.2) (.slice Ao104 t236.length co104)) (fun _ hk => hk.2) (.slice Ao105 t239.length co105)) (fun _ h_ => h_.1))) hb); have n4_ := Aside0.mk (Kd.R_below (by (with_reducible repeat (first | apply Kd.R_alloc | apply Kd.R_drewN | apply Kd.R_drew)); exact (Kd.R_mono (Kd.R_far (p := ⟨gb242, 2, none⟩) (Kd.R_far (p := ⟨gb242, 1, none⟩) (Kd.R_far (p := ⟨gb242, 0, none⟩) (Kd.R_types HO_213001.out BK242.out (by decide)) (fun _ hk => hk.2) (.int .i64 t235)) (fun _ hk => hk.2) (.slice Ao104 t236.length co104)) (fun _ hk => hk.2) (.slice Ao105 t239.length co105)) (fun _ h_ => h_.1))) hb); have n5_ := Aside0.mk (Kd.R_below (by (with_reducible repeat (first | apply Kd.R_alloc | apply Kd.R_drewN | apply Kd.R_drew)); exact (Kd.R_mono (Kd.R_far (p := ⟨gb242, 2, none⟩) (Kd.R_far (p := ⟨gb242, 1, none⟩) (Kd.R_far (p := ⟨gb242, 0, none⟩) (Kd.R_types HO_213002.out BK242.out (by decide)) (fun _ hk => hk.2) (.int .i64 t235)) (fun _ hk => hk.2) (.slice Ao104 t236.length co104)) (fun _ hk => hk.2) (.slice Ao105 t239.length co105)) (fun _ h_ => h_.1))) hb); have n6_ := Aside0.mk (Kd.R_below (by (with_reducible repeat (first | apply Kd.R_alloc | apply Kd.R_drewN | apply Kd.R_drew)); exact (Kd.R_mono (Kd.R_far (p := ⟨gb242, 2, none⟩) (Kd.R_far (p := ⟨gb242, 1, none⟩) (Kd.R_far (p := ⟨gb242, 0, none⟩) (Kd.R_types HO231.out BK242.out (by decide)) (fun _ hk => hk.2) (.int .i64 t235)) (fun _ hk => hk.2) (.slice Ao104 t236.length co104)) (fun _ hk => hk.2) (.slice Ao105 t239.length co105)) (fun _ h_ => h_.1))) hb); have n7_ := Aside0.mk (Kd.R_below (by (with_reducible repeat (first | apply Kd.R_alloc | apply Kd.R_drewN | apply Kd.R_drew)); exact (Kd.R_mono (Kd.R_far (p := ⟨gb242, 2, none⟩) (Kd.R_far (p := ⟨gb242, 1, none⟩) (Kd.R_far (p := ⟨gb242, 0, none⟩) (Kd.R_types HO234.out BK242.out (by decide)) (fun _ hk => hk.2) (.int .i64 t235)) (fun _ hk => hk.2) (.slice Ao104 t236.length co104)) (fun _ hk => hk.2) (.slice Ao105 t239.length co105)) (fun _ h_ => h_.1))) hb); have n8_ := Aside0.mk (Kd.R_below (by (with_reducible repeat (first | apply Kd.R_alloc | apply Kd.R_drewN | apply Kd.R_drew)); exact (Kd.R_mono (Kd.R_far (p := ⟨gb242, 2, none⟩) (Kd.R_far (p := ⟨gb242, 1, none⟩) (Kd.R_far (p := ⟨gb242, 0, none⟩) (Kd.R_types HO238.out BK242.out (by decide)) (fun _ hk => hk.2) (.int .i64 t235)) (fun _ hk => hk.2) (.slice Ao104 t236.length co104)) (fun _ hk => hk.2) (.slice Ao105 t239.length co105)) (fun _ h_ => h_.1))) hb); have n9_ := Aside0.mk (Kd.R_below (by (with_reducible repeat (first | apply Kd.R_alloc | apply Kd.R_drewN | apply Kd.R_drew)); exact (Kd.R_mono (Kd.R_far (p := ⟨gb242, 2, none⟩) (Kd.R_far (p := ⟨gb242, 1, none⟩) (Kd.R_far (p := ⟨gb242, 0, none⟩) (Kd.R_types HO241.out BK242.out (by decide)) (fun _ hk => hk.2) (.int .i64 t235)) (fun _ hk => hk.2) (.slice Ao104 t236.length co104)) (fun _ hk => hk.2) (.slice Ao105 t239.length co105)) (fun _ h_ => h_.1))) hb); have n10_ := Aside0.mk (blk_below (g := gb182) (o := .cells #[.slice A0_0 l0_0.length c0_0, .slice A0_1 l0_1.length c0_1] 24 (0, 0)) (by (with_reducible repeat (first | refine blk_drewN ?_ _ | refine blk_drew ?_ | refine blk_alloc ?_ _)); refine blk_far ?_ NB182_242.out _; (with_reducible repeat (first | refine blk_drewN ?_ _ | refine blk_drew ?_ | refine blk_alloc ?_ _)); refine blk_far ?_ NB182_242.out _; (with_reducible repeat (first | refine blk_drewN ?_ _ | refine blk_drew ?_ | refine blk_alloc ?_ _)); refine blk_far ?_ NB182_242.out _; (with_reducible repeat (first | refine blk_drewN ?_ _ | refine blk_drew ?_ | refine blk_alloc ?_ _)); exact BK182.out) hb); have n11_ := Aside0.mk (blk_below (g := gb197) (o := .cells #[.int .i64 t190, .slice Ao22 t191.length co22, .slice Ao23 t194.length co23] 46 (0, 0)) (by (with_reducible repeat (first | refine blk_drewN ?_ _ | refine blk_drew ?_ | refine blk_alloc ?_ _)); refine blk_far ?_ NB197_242.out _; (with_reducible repeat (first | refine blk_drewN ?_ _ | refine blk_drew ?_ | refine blk_alloc ?_ _)); refine blk_far ?_ NB197_242.out _; (with_reducible repeat (first | refine blk_drewN ?_ _ | refine blk_drew ?_ | refine blk_alloc ?_ _)); refine blk_far ?_ NB197_242.out _; (with_reducible repeat (first | refine blk_drewN ?_ _ | refine blk_drew ?_ | refine blk_alloc ?_ _)); exact BK197.out) hb); have n12_ := Aside0.mk (blk_below (g := gb204) (o := .cells #[.slice Ao27 t222.length co27, .slice Ao31 t223.length co31] 27 (0, 0)) (by (with_reducible repeat (first | refine blk_drewN ?_ _ | refine blk_drew ?_ | refine blk_alloc ?_ _)); refine blk_far ?_ NB204_242.out _; (with_reducible repeat (first | refine blk_drewN ?_ _ | refine blk_drew ?_ | refine blk_alloc ?_ _)); refine blk_far ?_ NB204_242.out _; (with_reducible repeat (first | refine blk_drewN ?_ _ | refine blk_drew ?_ | refine blk_alloc ?_ _)); refine blk_far ?_ NB204_242.out _; (with_reducible repeat (first | refine blk_drewN ?_ _ | refine blk_drew ?_ | refine blk_alloc ?_ _)); exact BK204.out) hb); have n13_ := Aside0.mk (blk_below (g := gb212) (o := .cells #[.int .i64 t205, .slice Ao40 t226.length co40, .slice Ao41 t227.length co41] 46 (0, 0)) (by (with_reducible repeat (first | refine blk_drewN ?_ _ | refine blk_drew ?_ | refine blk_alloc ?_ _)); refine blk_far ?_ NB212_242.out _; (with_reducible repeat (first | refine blk_drewN ?_ _ | refine blk_drew ?_ | refine blk_alloc ?_ _)); refine blk_far ?_ NB212_242.out _; (with_reducible repeat (first | refine blk_drewN ?_ _ | refine blk_drew ?_ | refine blk_alloc ?_ _)); refine blk_far ?_ NB212_242.out _; (with_reducible repeat (first | refine blk_drewN ?_ _ | refine blk_drew ?_ | refine blk_alloc ?_ _)); exact BK212.out) hb); have n14_ := Aside0.mk (blk_below (g := gb242) (o := .cells #[.int .i64 t235, .slice Ao104 t236.length co104, .slice Ao105 t239.length co105] 46 (0, 0)) (by (with_reducible repeat (first | refine blk_drewN ?_ _ | refine blk_drew ?_ | refine blk_alloc ?_ _)); refine blk_put (cs := #[.int .i64 t235, .slice Ao104 t236.length co104, .slice none 0 0]) ?_ 2 _ rfl; (with_reducible repeat (first | refine blk_drewN ?_ _ | refine blk_drew ?_ | refine blk_alloc ?_ _)); refine blk_put (cs := #[.int .i64 t235, .slice none 0 0, .slice none 0 0]) ?_ 1 _ rfl; (with_reducible repeat (first | refine blk_drewN ?_ _ | refine blk_drew ?_ | refine blk_alloc ?_ _)); refine blk_put (cs := #[.int .i64 0, .slice none 0 0, .slice none 0 0]) ?_ 0 _ rfl; (with_reducible repeat (first | refine blk_drewN ?_ _ | refine blk_drew ?_ | refine blk_alloc ?_ _)); exact BK242.out) hb); have n15_ := Aside0.mk (below_step (by repeat (first | (with_reducible first | exact HB.out | apply below_alloc | apply pw_below_drewN | apply below_drew1 | refine below_set ?_ GE182.out | refine below_set ?_ GE197.out | refine below_set ?_ GE204.out | refine below_set ?_ GE212.out | refine below_set ?_ GE242.out) | exact HB.out)) hb); clear HO_198001; clear HO_198002; clear HO_205000; clear HO_205001; clear HO_213001; clear HO_213002; clear HO231; clear HO234; clear HO238; clear HO241; clear BK182; clear BK197; clear BK204; clear BK212; clear BK242; clear HB; have HO_198001 := n0_; have HO_198002 := n1_; have HO_205000 := n2_; have HO_205001 := n3_; have HO_213001 := n4_; have HO_213002 := n5_; have HO231 := n6_; have HO234 := n7_; have HO238 := n8_; have HO241 := n9_; have BK182 := n10_; have BK197 := n11_; have BK204 := n12_; have BK212 := n13_; have BK242 := n14_; have HB := n15_; clear n0_ n1_ n2_ n3_ n4_ n5_ n6_ n7_ n8_ n9_ n10_ n11_ n12_ n13_ n14_ n15_; (try clear hb); (try clear hb2); (try clear hk); (try clear hi)))
                              (try simp only [Act.put, List.setIfInBounds_toArray, List.set_cons_zero, List.set_cons_succ])
                              go_cut [] (fun wc => ∃ (kq : Nat), Aside0 (laws_FnExactSyncLog.j7 kq t225 t205 t226 t227 = some r) ∧ Aside0 (kq ≤ kj83) ∧ Aside0 (Kd.R (Kd.int .u8) 5 wc w.heap.size (fun k_ => some k_ ≠ ((.slice Ao23 t194.length co23) : Value).ownBlock ∧ some k_ ≠ ((.slice Ao27 t222.length co27) : Value).ownBlock ∧ some k_ ≠ ((.slice Ao31 t223.length co31) : Value).ownBlock ∧ some k_ ≠ ((.slice Ao40 t226.length co40) : Value).ownBlock ∧ some k_ ≠ ((.slice Ao41 t227.length co41) : Value).ownBlock ∧ some k_ ≠ ((.slice Ao104 t236.length co104) : Value).ownBlock ∧ some k_ ≠ ((.slice Ao105 t239.length co105) : Value).ownBlock) (.slice Ao22 t191.length co22) t191) ∧ Aside0 (Kd.R (Kd.int .u8) 5 wc w.heap.size (fun k_ => some k_ ≠ ((.slice Ao22 t191.length co22) : Value).ownBlock ∧ some k_ ≠ ((.slice Ao27 t222.length co27) : Value).ownBlock ∧ some k_ ≠ ((.slice Ao31 t223.length co31) : Value).ownBlock ∧ some k_ ≠ ((.slice Ao40 t226.length co40) : Value).ownBlock ∧ some k_ ≠ ((.slice Ao41 t227.length co41) : Value).ownBlock ∧ some k_ ≠ ((.slice Ao104 t236.length co104) : Value).ownBlock ∧ some k_ ≠ ((.slice Ao105 t239.length co105) : Value).ownBlock) (.slice Ao23 t194.length co23) t194) ∧ Aside0 (Kd.R (Kd.int .u8) 5 wc w.heap.size (fun k_ => some k_ ≠ ((.slice Ao22 t191.length co22) : Value).ownBlock ∧ some k_ ≠ ((.slice Ao23 t194.length co23) : Value).ownBlock ∧ some k_ ≠ ((.slice Ao31 t223.length co31) : Value).ownBlock ∧ some k_ ≠ ((.slice Ao40 t226.length co40) : Value).ownBlock ∧ some k_ ≠ ((.slice Ao41 t227.length co41) : Value).ownBlock ∧ some k_ ≠ ((.slice Ao104 t236.length co104) : Value).ownBlock ∧ some k_ ≠ ((.slice Ao105 t239.length co105) : Value).ownBlock) (.slice Ao27 t222.length co27) t222) ∧ Aside0 (Kd.R (Kd.int .u8) 5 wc w.heap.size (fun k_ => some k_ ≠ ((.slice Ao22 t191.length co22) : Value).ownBlock ∧ some k_ ≠ ((.slice Ao23 t194.length co23) : Value).ownBlock ∧ some k_ ≠ ((.slice Ao27 t222.length co27) : Value).ownBlock ∧ some k_ ≠ ((.slice Ao40 t226.length co40) : Value).ownBlock ∧ some k_ ≠ ((.slice Ao41 t227.length co41) : Value).ownBlock ∧ some k_ ≠ ((.slice Ao104 t236.length co104) : Value).ownBlock ∧ some k_ ≠ ((.slice Ao105 t239.length co105) : Value).ownBlock) (.slice Ao31 t223.length co31) t223) ∧ Aside0 (Kd.R (Kd.int .u8) 5 wc w.heap.size (fun k_ => some k_ ≠ ((.slice Ao22 t191.length co22) : Value).ownBlock ∧ some k_ ≠ ((.slice Ao23 t194.length co23) : Value).ownBlock ∧ some k_ ≠ ((.slice Ao27 t222.length co27) : Value).ownBlock ∧ some k_ ≠ ((.slice Ao31 t223.length co31) : Value).ownBlock ∧ some k_ ≠ ((.slice Ao41 t227.length co41) : Value).ownBlock ∧ some k_ ≠ ((.slice Ao104 t236.length co104) : Value).ownBlock ∧ some k_ ≠ ((.slice Ao105 t239.length co105) : Value).ownBlock) (.slice Ao40 t226.length co40) t226) ∧ Aside0 (Kd.R (Kd.int .u8) 5 wc w.heap.size (fun k_ => some k_ ≠ ((.slice Ao22 t191.length co22) : Value).ownBlock ∧ some k_ ≠ ((.slice Ao23 t194.length co23) : Value).ownBlock ∧ some k_ ≠ ((.slice Ao27 t222.length co27) : Value).ownBlock ∧ some k_ ≠ ((.slice Ao31 t223.length co31) : Value).ownBlock ∧ some k_ ≠ ((.slice Ao40 t226.length co40) : Value).ownBlock ∧ some k_ ≠ ((.slice Ao104 t236.length co104) : Value).ownBlock ∧ some k_ ≠ ((.slice Ao105 t239.length co105) : Value).ownBlock) (.slice Ao41 t227.length co41) t227) ∧ Aside0 (Kd.R (Kd.int .u8) 5 wc w.heap.size (fun k_ => some k_ ≠ ((.slice Ao22 t191.length co22) : Value).ownBlock ∧ some k_ ≠ ((.slice Ao23 t194.length co23) : Value).ownBlock ∧ some k_ ≠ ((.slice Ao27 t222.length co27) : Value).ownBlock ∧ some k_ ≠ ((.slice Ao31 t223.length co31) : Value).ownBlock ∧ some k_ ≠ ((.slice Ao40 t226.length co40) : Value).ownBlock ∧ some k_ ≠ ((.slice Ao41 t227.length co41) : Value).ownBlock ∧ some k_ ≠ ((.slice Ao105 t239.length co105) : Value).ownBlock) (.slice Ao104 t236.length co104) t236) ∧ Aside0 (Kd.R (Kd.int .u8) 5 wc w.heap.size (fun k_ => some k_ ≠ ((.slice Ao22 t191.length co22) : Value).ownBlock ∧ some k_ ≠ ((.slice Ao23 t194.length co23) : Value).ownBlock ∧ some k_ ≠ ((.slice Ao27 t222.length co27) : Value).ownBlock ∧ some k_ ≠ ((.slice Ao31 t223.length co31) : Value).ownBlock ∧ some k_ ≠ ((.slice Ao40 t226.length co40) : Value).ownBlock ∧ some k_ ≠ ((.slice Ao41 t227.length co41) : Value).ownBlock ∧ some k_ ≠ ((.slice Ao104 t236.length co104) : Value).ownBlock) (.slice Ao105 t239.length co105) t239) ∧ Aside0 (wc.heap[gb182]? = some (.cells #[(.slice A0_0 l0_0.length c0_0), (.slice A0_1 l0_1.length c0_1)] 24 (0, 0))) ∧ Aside0 (wc.heap[gb197]? = some (.cells #[.int .i64 t190, (.slice Ao22 t191.length co22), (.slice Ao23 t194.length co23)] 46 (0, 0))) ∧ Aside0 (wc.heap[gb204]? = some (.cells #[(.slice Ao27 t222.length co27), (.slice Ao31 t223.length co31)] 27 (0, 0))) ∧ Aside0 (wc.heap[gb212]? = some (.cells #[.int .i64 t205, (.slice Ao40 t226.length co40), (.slice Ao41 t227.length co41)] 46 (0, 0))) ∧ Aside0 (wc.heap[gb242]? = some (.cells #[.int .i64 t235, (.slice Ao104 t236.length co104), (.slice Ao105 t239.length co105)] 46 (0, 0))) ∧ Aside0 (Below w.heap.size w wc))
                              case first =>
                                have H := HC89.out
                                clear HC89
                                by_cases c110 : t243 = true
                                · subst c110
                                  have H1 : (laws_FnExactSyncLog.j7 kj83 t225 t205 t226 t227) = some r := by rw [if_pos rfl] at H; exact H
                                  clear H
                                  have H := H1
                                  clear H1
                                  have H' := Aside0.mk H
                                  clear H
                                  go_wp2
                                  go_meet
                                  case rel => exact ⟨_, H', ⟨by have := HJ2.out; have := HJ12.out; have := HJ46.out; have := HJ54.out; have := HJ70.out; have := HJ74.out; have := HJ83.out; first | omega | exact Nat.le_refl _⟩, ⟨by (try simp only [hl205000_54]); (try simp only [hl205001_54]); (try simp only [hl213001_74]); (try simp only [hl213002_74]); (with_reducible repeat (first | apply Kd.R_alloc | apply Kd.R_drewN | apply Kd.R_drew)); exact Kd.R_mono HO_198001.out (fun _ hk => ⟨hk.1.1.1.1.1, ⟨hk.1.1.1.1.2.1, ⟨hk.1.1.1.1.2.2.1, ⟨hk.1.1.1.1.2.2.2.1, ⟨hk.1.1.1.1.2.2.2.2, ⟨hk.1.2, hk.2⟩⟩⟩⟩⟩⟩)⟩, ⟨by (try simp only [hl205000_54]); (try simp only [hl205001_54]); (try simp only [hl213001_74]); (try simp only [hl213002_74]); (with_reducible repeat (first | apply Kd.R_alloc | apply Kd.R_drewN | apply Kd.R_drew)); exact Kd.R_mono HO_198002.out (fun _ hk => ⟨hk.1.1.1.1.1, ⟨hk.1.1.1.1.2.1, ⟨hk.1.1.1.1.2.2.1, ⟨hk.1.1.1.1.2.2.2.1, ⟨hk.1.1.1.1.2.2.2.2, ⟨hk.1.2, hk.2⟩⟩⟩⟩⟩⟩)⟩, ⟨by (try simp only [hl205000_54]); (try simp only [hl205001_54]); (try simp only [hl213001_74]); (try simp only [hl213002_74]); (with_reducible repeat (first | apply Kd.R_alloc | apply Kd.R_drewN | apply Kd.R_drew)); exact Kd.R_mono HO_205000.out (fun _ hk => ⟨hk.1.1.1.1.1, ⟨hk.1.1.1.1.2.1, ⟨hk.1.1.1.1.2.2.1, ⟨hk.1.1.1.1.2.2.2.1, ⟨hk.1.1.1.1.2.2.2.2, ⟨hk.1.2, hk.2⟩⟩⟩⟩⟩⟩)⟩, ⟨by (try simp only [hl205000_54]); (try simp only [hl205001_54]); (try simp only [hl213001_74]); (try simp only [hl213002_74]); (with_reducible repeat (first | apply Kd.R_alloc | apply Kd.R_drewN | apply Kd.R_drew)); exact Kd.R_mono HO_205001.out (fun _ hk => ⟨hk.1.1.1.1.1, ⟨hk.1.1.1.1.2.1, ⟨hk.1.1.1.1.2.2.1, ⟨hk.1.1.1.1.2.2.2.1, ⟨hk.1.1.1.1.2.2.2.2, ⟨hk.1.2, hk.2⟩⟩⟩⟩⟩⟩)⟩, ⟨by (try simp only [hl205000_54]); (try simp only [hl205001_54]); (try simp only [hl213001_74]); (try simp only [hl213002_74]); (with_reducible repeat (first | apply Kd.R_alloc | apply Kd.R_drewN | apply Kd.R_drew)); exact Kd.R_mono HO_213001.out (fun _ hk => ⟨hk.1.1.1.1.1, ⟨hk.1.1.1.1.2.1, ⟨hk.1.1.1.1.2.2.1, ⟨hk.1.1.1.1.2.2.2.1, ⟨hk.1.1.1.1.2.2.2.2, ⟨hk.1.2, hk.2⟩⟩⟩⟩⟩⟩)⟩, ⟨by (try simp only [hl205000_54]); (try simp only [hl205001_54]); (try simp only [hl213001_74]); (try simp only [hl213002_74]); (with_reducible repeat (first | apply Kd.R_alloc | apply Kd.R_drewN | apply Kd.R_drew)); exact Kd.R_mono HO_213002.out (fun _ hk => ⟨hk.1.1.1.1.1, ⟨hk.1.1.1.1.2.1, ⟨hk.1.1.1.1.2.2.1, ⟨hk.1.1.1.1.2.2.2.1, ⟨hk.1.1.1.1.2.2.2.2, ⟨hk.1.2, hk.2⟩⟩⟩⟩⟩⟩)⟩, ⟨by (try simp only [hl205000_54]); (try simp only [hl205001_54]); (try simp only [hl213001_74]); (try simp only [hl213002_74]); (with_reducible repeat (first | apply Kd.R_alloc | apply Kd.R_drewN | apply Kd.R_drew)); exact Kd.R_mono HO238.out (fun _ hk => ⟨hk.1.1.1.1.1.1.1.2, ⟨hk.1.1.1.1.1.1.2, ⟨hk.1.1.1.1.1.2, ⟨hk.1.1.1.1.2, ⟨hk.1.1.1.2, ⟨hk.1.1.2, hk.1.1.1.1.1.1.1.1⟩⟩⟩⟩⟩⟩)⟩, ⟨by (try simp only [hl205000_54]); (try simp only [hl205001_54]); (try simp only [hl213001_74]); (try simp only [hl213002_74]); (with_reducible repeat (first | apply Kd.R_alloc | apply Kd.R_drewN | apply Kd.R_drew)); exact Kd.R_mono HO241.out (fun _ hk => ⟨hk.1.1.1.1.1.1.1.2, ⟨hk.1.1.1.1.1.1.2, ⟨hk.1.1.1.1.1.2, ⟨hk.1.1.1.1.2, ⟨hk.1.1.1.2, ⟨hk.1.1.2, hk.1.1.1.1.1.1.1.1⟩⟩⟩⟩⟩⟩)⟩, ⟨by (try simp only [hl205000_54]); (try simp only [hl205001_54]); (try simp only [hl213001_74]); (try simp only [hl213002_74]); (with_reducible repeat (first | refine blk_drewN ?_ _ | refine blk_drew ?_ | refine blk_alloc ?_ _)); exact BK182.out⟩, ⟨by (try simp only [hl205000_54]); (try simp only [hl205001_54]); (try simp only [hl213001_74]); (try simp only [hl213002_74]); (with_reducible repeat (first | refine blk_drewN ?_ _ | refine blk_drew ?_ | refine blk_alloc ?_ _)); exact BK197.out⟩, ⟨by (try simp only [hl205000_54]); (try simp only [hl205001_54]); (try simp only [hl213001_74]); (try simp only [hl213002_74]); (with_reducible repeat (first | refine blk_drewN ?_ _ | refine blk_drew ?_ | refine blk_alloc ?_ _)); exact BK204.out⟩, ⟨by (try simp only [hl205000_54]); (try simp only [hl205001_54]); (try simp only [hl213001_74]); (try simp only [hl213002_74]); (with_reducible repeat (first | refine blk_drewN ?_ _ | refine blk_drew ?_ | refine blk_alloc ?_ _)); exact BK212.out⟩, ⟨by (try simp only [hl205000_54]); (try simp only [hl205001_54]); (try simp only [hl213001_74]); (try simp only [hl213002_74]); (with_reducible repeat (first | refine blk_drewN ?_ _ | refine blk_drew ?_ | refine blk_alloc ?_ _)); exact BK242.out⟩, ⟨by repeat (first | (with_reducible first | exact HB.out | apply below_alloc | apply pw_below_drewN | apply below_drew1 | refine below_set ?_ GE182.out | refine below_set ?_ GE197.out | refine below_set ?_ GE204.out | refine below_set ?_ GE212.out | refine below_set ?_ GE242.out) | exact HB.out)⟩⟩
                                · replace c110 := Bool.eq_false_iff.mpr c110
                                  subst c110
                                  have H1 : (some false) = some r := by rw [if_neg (show ¬ (false = true) by decide)] at H; exact H
                                  clear H
                                  have H := H1
                                  clear H1
                                  obtain rfl := Option.some.inj H
                                  go_wp2
                                  go_ret
                                  exact ⟨by first | rfl | (simp [errW_none, errW_some] <;> rfl) | (simp [*, errW_none, errW_some] <;> rfl), by repeat (first | (with_reducible first | exact HB.out | apply below_alloc | apply pw_below_drewN | apply below_drew1 | refine below_set ?_ GE182.out | refine below_set ?_ GE197.out | refine below_set ?_ GE204.out | refine below_set ?_ GE212.out | refine below_set ?_ GE242.out) | exact HB.out)⟩
                              case rest =>
                                clear HC89
                                try clear c1
                                try clear c2
                                try clear p2
                                try clear c3
                                try clear c4
                                try clear c5
                                try clear c6
                                try clear c7
                                try clear c7b0
                                try clear c8
                                try clear c9
                                try clear c10
                                try clear c11
                                try clear c14
                                try clear c16
                                try clear c18
                                try clear c20
                                try clear c28
                                try clear c29
                                try clear c31
                                try clear c32
                                try clear c33
                                try clear c34
                                try clear c35
                                try clear c36
                                try clear c37
                                try clear c38
                                try clear c44
                                try clear c53
                                try clear c56
                                try clear c57
                                try clear c58
                                try clear c61
                                try clear c61b0
                                try clear c63
                                try clear c64
                                try clear c65
                                try clear c67
                                try clear c68
                                try clear c72
                                try clear c76
                                try clear c77
                                try clear c78
                                try clear c83
                                try clear c83b0
                                try clear c85
                                try clear c85b0
                                try clear c85b1
                                try clear c90
                                try clear c91
                                try clear c92
                                try clear c99
                                try clear c100
                                try clear c101
                                try clear c102
                                try clear c106
                                try clear c107
                                try clear c110
                                try clear hcz103_0
                                try clear hcz103_1
                                try clear hcz103_2
                                try clear hcz108_0
                                try clear hcz108_1
                                try clear hcz108_2
                                try clear hcz14_0
                                try clear hcz14_1
                                try clear hcz21_0
                                try clear hcz21_1
                                try clear hcz21_2
                                try clear hcz24_0
                                try clear hcz24_1
                                try clear hcz30_0
                                try clear hcz30_1
                                try clear hcz33_0
                                try clear hcz33_1
                                try clear hcz39_0
                                try clear hcz39_1
                                try clear hcz39_2
                                try clear hcz42_0
                                try clear hcz42_1
                                try clear hcz42_2
                                try clear hcz59_0
                                try clear hcz59_1
                                try clear hcz5_0
                                try clear hcz5_1
                                try clear hcz66_0
                                try clear hcz66_1
                                try clear hcz66_2
                                try clear hcz69_0
                                try clear hcz69_1
                                try clear hcz69_2
                                try clear hcz79_0
                                try clear hcz79_1
                                try clear hcz79_2
                                try clear hcz81_0
                                try clear hcz81_1
                                try clear hcz81_2
                                try clear hcz93_0
                                try clear hcz93_1
                                try clear hfz103_0
                                try clear hfz103_1
                                try clear hfz103_2
                                try clear hfz108_0
                                try clear hfz108_1
                                try clear hfz108_2
                                try clear hfz14_0
                                try clear hfz14_1
                                try clear hfz21_0
                                try clear hfz21_1
                                try clear hfz21_2
                                try clear hfz24_0
                                try clear hfz24_1
                                try clear hfz30_0
                                try clear hfz30_1
                                try clear hfz33_0
                                try clear hfz33_1
                                try clear hfz39_0
                                try clear hfz39_1
                                try clear hfz39_2
                                try clear hfz42_0
                                try clear hfz42_1
                                try clear hfz42_2
                                try clear hfz59_0
                                try clear hfz59_1
                                try clear hfz5_0
                                try clear hfz5_1
                                try clear hfz66_0
                                try clear hfz66_1
                                try clear hfz66_2
                                try clear hfz69_0
                                try clear hfz69_1
                                try clear hfz69_2
                                try clear hfz79_0
                                try clear hfz79_1
                                try clear hfz79_2
                                try clear hfz81_0
                                try clear hfz81_1
                                try clear hfz81_2
                                try clear hfz93_0
                                try clear hfz93_1
                                try clear p2
                                obtain ⟨kq, HA, HJ88, HO_198001, HO_198002, HO_205000, HO_205001, HO_213001, HO_213002, HO_243001, HO_243002, BK182, BK197, BK204, BK212, BK242, HB⟩ := hcut
                                cases kq with
                                | zero => exact absurd HA.out (by simp [laws_FnExactSyncLog.j7])
                                | succ kj88 =>
                                  have H := HA.out
                                  clear HA
                                  simp only [laws_FnExactSyncLog.j7] at H
                                  replace H := Option.bind_eq_some_iff.mp H
                                  obtain ⟨t244, A1110, H⟩ := H
                                  replace H : (if t244 < 0 then (some false) else (if t244 = t225 then (some true) else (some false))) = some r := H
                                  have A111 := Aside0.mk A1110
                                  clear A1110
                                  by_cases c112 : t244 < 0
                                  · rw [if_pos c112] at H
                                    have c112b0 : decide (t244 < 0) = true := decide_eq_true c112
                                    clear c112
                                    obtain rfl := Option.some.inj H
                                    have hnb113 := NB212_182.out
                                    have hnc113 := NB182_212.out
                                    have hnb114 := NB212_197.out
                                    have hnc114 := NB197_212.out
                                    have hnb115 := NB212_204.out
                                    have hnc115 := NB204_212.out
                                    have hnb116 := NB212_242.out
                                    have hnc116 := NB242_212.out
                                    have hcz117_0 : wc.cell? ⟨gb212, 0, none⟩ = some (.int .i64 t205) := (blk_cell BK212.out 0).trans rfl
                                    have hcz117_1 : wc.cell? ⟨gb212, 1, none⟩ = some (.slice Ao40 t226.length co40) := (blk_cell BK212.out 1).trans rfl
                                    have hcz117_2 : wc.cell? ⟨gb212, 2, none⟩ = some (.slice Ao41 t227.length co41) := (blk_cell BK212.out 2).trans rfl
                                    have hfz117_0 := blk_frozen BK212.out 0
                                    have hfz117_1 := blk_frozen BK212.out 1
                                    have hfz117_2 := blk_frozen BK212.out 2
                                    go_wp2_with (first | ((with_reducible refine gate_callee (f := 36) rfl ?_); refine goesL_ (some 63) rfl rfl Try.func36 (by kernel_rfl) rfl #[.agg #[.int .i64 t205, .slice Ao40 t226.length co40, .slice Ao41 t227.length co41], .int .i64 1] rfl (by (try simp only [List.map_toArray, List.map_cons, List.map_nil]); first | done | rfl | (simp only [List.length_drop, List.length_take]; rfl)) ?_; (with_reducible refine (laws_heldLogResult.calls kj88 t205 _ _ t226 _ _ t227 1 t244 _ ?side1 ?side2 ?side3 ?side4 A111.out).mono ?_); (case side1 => repeat (first | exact (Kd.R_reads' HO_213001.out).2.2 | (with_reducible refine Kd.C_alloc ?_ _) | (with_reducible refine Kd.C_drewN ?_ _) | (with_reducible refine Kd.C_drew ?_))); (case side2 => exact (Kd.R_reads' HO_213001.out).2.1); (case side3 => repeat (first | exact (Kd.R_reads' HO_213002.out).2.2 | (with_reducible refine Kd.C_alloc ?_ _) | (with_reducible refine Kd.C_drewN ?_ _) | (with_reducible refine Kd.C_drew ?_))); (case side4 => exact (Kd.R_reads' HO_213002.out).2.1); rintro e w118 ⟨rfl, hb⟩; refine ⟨_, rfl, ?_⟩; have n0_ := Aside0.mk (Kd.R_below (by (with_reducible repeat (first | apply Kd.R_alloc | apply Kd.R_drewN | apply Kd.R_drew)); exact HO_198001.out) hb); have n1_ := Aside0.mk (Kd.R_below (by (with_reducible repeat (first | apply Kd.R_alloc | apply Kd.R_drewN | apply Kd.R_drew)); exact HO_198002.out) hb); have n2_ := Aside0.mk (Kd.R_below (by (with_reducible repeat (first | apply Kd.R_alloc | apply Kd.R_drewN | apply Kd.R_drew)); exact HO_205000.out) hb); have n3_ := Aside0.mk (Kd.R_below (by (with_reducible repeat (first | apply Kd.R_alloc | apply Kd.R_drewN | apply Kd.R_drew)); exact HO_205001.out) hb); have n4_ := Aside0.mk (Kd.R_below (by (with_reducible repeat (first | apply Kd.R_alloc | apply Kd.R_drewN | apply Kd.R_drew)); exact HO_213001.out) hb); have n5_ := Aside0.mk (Kd.R_below (by (with_reducible repeat (first | apply Kd.R_alloc | apply Kd.R_drewN | apply Kd.R_drew)); exact HO_213002.out) hb); have n6_ := Aside0.mk (Kd.R_below (by (with_reducible repeat (first | apply Kd.R_alloc | apply Kd.R_drewN | apply Kd.R_drew)); exact HO_243001.out) hb); have n7_ := Aside0.mk (Kd.R_below (by (with_reducible repeat (first | apply Kd.R_alloc | apply Kd.R_drewN | apply Kd.R_drew)); exact HO_243002.out) hb); have n8_ := Aside0.mk (blk_below (g := gb182) (o := .cells #[.slice A0_0 l0_0.length c0_0, .slice A0_1 l0_1.length c0_1] 24 (0, 0)) (by (with_reducible repeat (first | refine blk_drewN ?_ _ | refine blk_drew ?_ | refine blk_alloc ?_ _)); exact BK182.out) hb); have n9_ := Aside0.mk (blk_below (g := gb197) (o := .cells #[.int .i64 t190, .slice Ao22 t191.length co22, .slice Ao23 t194.length co23] 46 (0, 0)) (by (with_reducible repeat (first | refine blk_drewN ?_ _ | refine blk_drew ?_ | refine blk_alloc ?_ _)); exact BK197.out) hb); have n10_ := Aside0.mk (blk_below (g := gb204) (o := .cells #[.slice Ao27 t222.length co27, .slice Ao31 t223.length co31] 27 (0, 0)) (by (with_reducible repeat (first | refine blk_drewN ?_ _ | refine blk_drew ?_ | refine blk_alloc ?_ _)); exact BK204.out) hb); have n11_ := Aside0.mk (blk_below (g := gb212) (o := .cells #[.int .i64 t205, .slice Ao40 t226.length co40, .slice Ao41 t227.length co41] 46 (0, 0)) (by (with_reducible repeat (first | refine blk_drewN ?_ _ | refine blk_drew ?_ | refine blk_alloc ?_ _)); exact BK212.out) hb); have n12_ := Aside0.mk (blk_below (g := gb242) (o := .cells #[.int .i64 t235, .slice Ao104 t236.length co104, .slice Ao105 t239.length co105] 46 (0, 0)) (by (with_reducible repeat (first | refine blk_drewN ?_ _ | refine blk_drew ?_ | refine blk_alloc ?_ _)); exact BK242.out) hb); have n13_ := Aside0.mk (below_step (by repeat (first | (with_reducible first | exact HB.out | apply below_alloc | apply pw_below_drewN | apply below_drew1 | refine below_set ?_ GE182.out | refine below_set ?_ GE197.out | refine below_set ?_ GE204.out | refine below_set ?_ GE212.out | refine below_set ?_ GE242.out) | exact HB.out)) hb); clear HO_198001; clear HO_198002; clear HO_205000; clear HO_205001; clear HO_213001; clear HO_213002; clear HO_243001; clear HO_243002; clear BK182; clear BK197; clear BK204; clear BK212; clear BK242; clear HB; have HO_198001 := n0_; have HO_198002 := n1_; have HO_205000 := n2_; have HO_205001 := n3_; have HO_213001 := n4_; have HO_213002 := n5_; have HO_243001 := n6_; have HO_243002 := n7_; have BK182 := n8_; have BK197 := n9_; have BK204 := n10_; have BK212 := n11_; have BK242 := n12_; have HB := n13_; clear n0_ n1_ n2_ n3_ n4_ n5_ n6_ n7_ n8_ n9_ n10_ n11_ n12_ n13_; (try clear hb); (try clear hb2); (try clear hk); (try clear hi)))
                                    go_ret
                                    exact ⟨by first | rfl | (simp [errW_none, errW_some] <;> rfl) | (simp [*, errW_none, errW_some] <;> rfl), by repeat (first | (with_reducible first | exact HB.out | apply below_alloc | apply pw_below_drewN | apply below_drew1 | refine below_set ?_ GE182.out | refine below_set ?_ GE197.out | refine below_set ?_ GE204.out | refine below_set ?_ GE212.out | refine below_set ?_ GE242.out) | exact HB.out)⟩
                                  · rw [if_neg c112] at H
                                    have c112b0 : decide (t244 < 0) = false := decide_eq_false c112
                                    clear c112
                                    by_cases c119 : t244 = t225
                                    · rw [if_pos c119] at H
                                      have c119b0 : (t244 == t225) = true := beq_iff_eq.mpr c119
                                      have c119b1 : (t244 != t225) = false := bne_eq_false_iff_eq.mpr c119
                                      clear c119
                                      obtain rfl := Option.some.inj H
                                      have hnb120 := NB212_182.out
                                      have hnc120 := NB182_212.out
                                      have hnb121 := NB212_197.out
                                      have hnc121 := NB197_212.out
                                      have hnb122 := NB212_204.out
                                      have hnc122 := NB204_212.out
                                      have hnb123 := NB212_242.out
                                      have hnc123 := NB242_212.out
                                      have hcz124_0 : wc.cell? ⟨gb212, 0, none⟩ = some (.int .i64 t205) := (blk_cell BK212.out 0).trans rfl
                                      have hcz124_1 : wc.cell? ⟨gb212, 1, none⟩ = some (.slice Ao40 t226.length co40) := (blk_cell BK212.out 1).trans rfl
                                      have hcz124_2 : wc.cell? ⟨gb212, 2, none⟩ = some (.slice Ao41 t227.length co41) := (blk_cell BK212.out 2).trans rfl
                                      have hfz124_0 := blk_frozen BK212.out 0
                                      have hfz124_1 := blk_frozen BK212.out 1
                                      have hfz124_2 := blk_frozen BK212.out 2
                                      go_wp2_with (first | ((with_reducible refine gate_callee (f := 36) rfl ?_); refine goesL_ (some 63) rfl rfl Try.func36 (by kernel_rfl) rfl #[.agg #[.int .i64 t205, .slice Ao40 t226.length co40, .slice Ao41 t227.length co41], .int .i64 1] rfl (by (try simp only [List.map_toArray, List.map_cons, List.map_nil]); first | done | rfl | (simp only [List.length_drop, List.length_take]; rfl)) ?_; (with_reducible refine (laws_heldLogResult.calls kj88 t205 _ _ t226 _ _ t227 1 t244 _ ?side1 ?side2 ?side3 ?side4 A111.out).mono ?_); (case side1 => repeat (first | exact (Kd.R_reads' HO_213001.out).2.2 | (with_reducible refine Kd.C_alloc ?_ _) | (with_reducible refine Kd.C_drewN ?_ _) | (with_reducible refine Kd.C_drew ?_))); (case side2 => exact (Kd.R_reads' HO_213001.out).2.1); (case side3 => repeat (first | exact (Kd.R_reads' HO_213002.out).2.2 | (with_reducible refine Kd.C_alloc ?_ _) | (with_reducible refine Kd.C_drewN ?_ _) | (with_reducible refine Kd.C_drew ?_))); (case side4 => exact (Kd.R_reads' HO_213002.out).2.1); rintro e w125 ⟨rfl, hb⟩; refine ⟨_, rfl, ?_⟩; have n0_ := Aside0.mk (Kd.R_below (by (with_reducible repeat (first | apply Kd.R_alloc | apply Kd.R_drewN | apply Kd.R_drew)); exact HO_198001.out) hb); have n1_ := Aside0.mk (Kd.R_below (by (with_reducible repeat (first | apply Kd.R_alloc | apply Kd.R_drewN | apply Kd.R_drew)); exact HO_198002.out) hb); have n2_ := Aside0.mk (Kd.R_below (by (with_reducible repeat (first | apply Kd.R_alloc | apply Kd.R_drewN | apply Kd.R_drew)); exact HO_205000.out) hb); have n3_ := Aside0.mk (Kd.R_below (by (with_reducible repeat (first | apply Kd.R_alloc | apply Kd.R_drewN | apply Kd.R_drew)); exact HO_205001.out) hb); have n4_ := Aside0.mk (Kd.R_below (by (with_reducible repeat (first | apply Kd.R_alloc | apply Kd.R_drewN | apply Kd.R_drew)); exact HO_213001.out) hb); have n5_ := Aside0.mk (Kd.R_below (by (with_reducible repeat (first | apply Kd.R_alloc | apply Kd.R_drewN | apply Kd.R_drew)); exact HO_213002.out) hb); have n6_ := Aside0.mk (Kd.R_below (by (with_reducible repeat (first | apply Kd.R_alloc | apply Kd.R_drewN | apply Kd.R_drew)); exact HO_243001.out) hb); have n7_ := Aside0.mk (Kd.R_below (by (with_reducible repeat (first | apply Kd.R_alloc | apply Kd.R_drewN | apply Kd.R_drew)); exact HO_243002.out) hb); have n8_ := Aside0.mk (blk_below (g := gb182) (o := .cells #[.slice A0_0 l0_0.length c0_0, .slice A0_1 l0_1.length c0_1] 24 (0, 0)) (by (with_reducible repeat (first | refine blk_drewN ?_ _ | refine blk_drew ?_ | refine blk_alloc ?_ _)); exact BK182.out) hb); have n9_ := Aside0.mk (blk_below (g := gb197) (o := .cells #[.int .i64 t190, .slice Ao22 t191.length co22, .slice Ao23 t194.length co23] 46 (0, 0)) (by (with_reducible repeat (first | refine blk_drewN ?_ _ | refine blk_drew ?_ | refine blk_alloc ?_ _)); exact BK197.out) hb); have n10_ := Aside0.mk (blk_below (g := gb204) (o := .cells #[.slice Ao27 t222.length co27, .slice Ao31 t223.length co31] 27 (0, 0)) (by (with_reducible repeat (first | refine blk_drewN ?_ _ | refine blk_drew ?_ | refine blk_alloc ?_ _)); exact BK204.out) hb); have n11_ := Aside0.mk (blk_below (g := gb212) (o := .cells #[.int .i64 t205, .slice Ao40 t226.length co40, .slice Ao41 t227.length co41] 46 (0, 0)) (by (with_reducible repeat (first | refine blk_drewN ?_ _ | refine blk_drew ?_ | refine blk_alloc ?_ _)); exact BK212.out) hb); have n12_ := Aside0.mk (blk_below (g := gb242) (o := .cells #[.int .i64 t235, .slice Ao104 t236.length co104, .slice Ao105 t239.length co105] 46 (0, 0)) (by (with_reducible repeat (first | refine blk_drewN ?_ _ | refine blk_drew ?_ | refine blk_alloc ?_ _)); exact BK242.out) hb); have n13_ := Aside0.mk (below_step (by repeat (first | (with_reducible first | exact HB.out | apply below_alloc | apply pw_below_drewN | apply below_drew1 | refine below_set ?_ GE182.out | refine below_set ?_ GE197.out | refine below_set ?_ GE204.out | refine below_set ?_ GE212.out | refine below_set ?_ GE242.out) | exact HB.out)) hb); clear HO_198001; clear HO_198002; clear HO_205000; clear HO_205001; clear HO_213001; clear HO_213002; clear HO_243001; clear HO_243002; clear BK182; clear BK197; clear BK204; clear BK212; clear BK242; clear HB; have HO_198001 := n0_; have HO_198002 := n1_; have HO_205000 := n2_; have HO_205001 := n3_; have HO_213001 := n4_; have HO_213002 := n5_; have HO_243001 := n6_; have HO_243002 := n7_; have BK182 := n8_; have BK197 := n9_; have BK204 := n10_; have BK212 := n11_; have BK242 := n12_; have HB := n13_; clear n0_ n1_ n2_ n3_ n4_ n5_ n6_ n7_ n8_ n9_ n10_ n11_ n12_ n13_; (try clear hb); (try clear hb2); (try clear hk); (try clear hi)))
                                      go_ret
                                      exact ⟨by first | rfl | (simp [errW_none, errW_some] <;> rfl) | (simp [*, errW_none, errW_some] <;> rfl), by repeat (first | (with_reducible first | exact HB.out | apply below_alloc | apply pw_below_drewN | apply below_drew1 | refine below_set ?_ GE182.out | refine below_set ?_ GE197.out | refine below_set ?_ GE204.out | refine below_set ?_ GE212.out | refine below_set ?_ GE242.out) | exact HB.out)⟩
                                    · rw [if_neg c119] at H
                                      have c119b0 : (t244 == t225) = false := beq_eq_false_iff_ne.mpr c119
                                      have c119b1 : (t244 != t225) = true := bne_iff_ne.mpr c119
                                      obtain rfl := Option.some.inj H
                                      have hnb126 := NB212_182.out
                                      have hnc126 := NB182_212.out
                                      have hnb127 := NB212_197.out
                                      have hnc127 := NB197_212.out
                                      have hnb128 := NB212_204.out
                                      have hnc128 := NB204_212.out
                                      have hnb129 := NB212_242.out
                                      have hnc129 := NB242_212.out
                                      have hcz130_0 : wc.cell? ⟨gb212, 0, none⟩ = some (.int .i64 t205) := (blk_cell BK212.out 0).trans rfl
                                      have hcz130_1 : wc.cell? ⟨gb212, 1, none⟩ = some (.slice Ao40 t226.length co40) := (blk_cell BK212.out 1).trans rfl
                                      have hcz130_2 : wc.cell? ⟨gb212, 2, none⟩ = some (.slice Ao41 t227.length co41) := (blk_cell BK212.out 2).trans rfl
                                      have hfz130_0 := blk_frozen BK212.out 0
                                      have hfz130_1 := blk_frozen BK212.out 1
                                      have hfz130_2 := blk_frozen BK212.out 2
                                      go_wp2_with (first | ((with_reducible refine gate_callee (f := 36) rfl ?_); refine goesL_ (some 63) rfl rfl Try.func36 (by kernel_rfl) rfl #[.agg #[.int .i64 t205, .slice Ao40 t226.length co40, .slice Ao41 t227.length co41], .int .i64 1] rfl (by (try simp only [List.map_toArray, List.map_cons, List.map_nil]); first | done | rfl | (simp only [List.length_drop, List.length_take]; rfl)) ?_; (with_reducible refine (laws_heldLogResult.calls kj88 t205 _ _ t226 _ _ t227 1 t244 _ ?side1 ?side2 ?side3 ?side4 A111.out).mono ?_); (case side1 => repeat (first | exact (Kd.R_reads' HO_213001.out).2.2 | (with_reducible refine Kd.C_alloc ?_ _) | (with_reducible refine Kd.C_drewN ?_ _) | (with_reducible refine Kd.C_drew ?_))); (case side2 => exact (Kd.R_reads' HO_213001.out).2.1); (case side3 => repeat (first | exact (Kd.R_reads' HO_213002.out).2.2 | (with_reducible refine Kd.C_alloc ?_ _) | (with_reducible refine Kd.C_drewN ?_ _) | (with_reducible refine Kd.C_drew ?_))); (case side4 => exact (Kd.R_reads' HO_213002.out).2.1); rintro e w131 ⟨rfl, hb⟩; refine ⟨_, rfl, ?_⟩; have n0_ := Aside0.mk (Kd.R_below (by (with_reducible repeat (first | apply Kd.R_alloc | apply Kd.R_drewN | apply Kd.R_drew)); exact HO_198001.out) hb); have n1_ := Aside0.mk (Kd.R_below (by (with_reducible repeat (first | apply Kd.R_alloc | apply Kd.R_drewN | apply Kd.R_drew)); exact HO_198002.out) hb); have n2_ := Aside0.mk (Kd.R_below (by (with_reducible repeat (first | apply Kd.R_alloc | apply Kd.R_drewN | apply Kd.R_drew)); exact HO_205000.out) hb); have n3_ := Aside0.mk (Kd.R_below (by (with_reducible repeat (first | apply Kd.R_alloc | apply Kd.R_drewN | apply Kd.R_drew)); exact HO_205001.out) hb); have n4_ := Aside0.mk (Kd.R_below (by (with_reducible repeat (first | apply Kd.R_alloc | apply Kd.R_drewN | apply Kd.R_drew)); exact HO_213001.out) hb); have n5_ := Aside0.mk (Kd.R_below (by (with_reducible repeat (first | apply Kd.R_alloc | apply Kd.R_drewN | apply Kd.R_drew)); exact HO_213002.out) hb); have n6_ := Aside0.mk (Kd.R_below (by (with_reducible repeat (first | apply Kd.R_alloc | apply Kd.R_drewN | apply Kd.R_drew)); exact HO_243001.out) hb); have n7_ := Aside0.mk (Kd.R_below (by (with_reducible repeat (first | apply Kd.R_alloc | apply Kd.R_drewN | apply Kd.R_drew)); exact HO_243002.out) hb); have n8_ := Aside0.mk (blk_below (g := gb182) (o := .cells #[.slice A0_0 l0_0.length c0_0, .slice A0_1 l0_1.length c0_1] 24 (0, 0)) (by (with_reducible repeat (first | refine blk_drewN ?_ _ | refine blk_drew ?_ | refine blk_alloc ?_ _)); exact BK182.out) hb); have n9_ := Aside0.mk (blk_below (g := gb197) (o := .cells #[.int .i64 t190, .slice Ao22 t191.length co22, .slice Ao23 t194.length co23] 46 (0, 0)) (by (with_reducible repeat (first | refine blk_drewN ?_ _ | refine blk_drew ?_ | refine blk_alloc ?_ _)); exact BK197.out) hb); have n10_ := Aside0.mk (blk_below (g := gb204) (o := .cells #[.slice Ao27 t222.length co27, .slice Ao31 t223.length co31] 27 (0, 0)) (by (with_reducible repeat (first | refine blk_drewN ?_ _ | refine blk_drew ?_ | refine blk_alloc ?_ _)); exact BK204.out) hb); have n11_ := Aside0.mk (blk_below (g := gb212) (o := .cells #[.int .i64 t205, .slice Ao40 t226.length co40, .slice Ao41 t227.length co41] 46 (0, 0)) (by (with_reducible repeat (first | refine blk_drewN ?_ _ | refine blk_drew ?_ | refine blk_alloc ?_ _)); exact BK212.out) hb); have n12_ := Aside0.mk (blk_below (g := gb242) (o := .cells #[.int .i64 t235, .slice Ao104 t236.length co104, .slice Ao105 t239.length co105] 46 (0, 0)) (by (with_reducible repeat (first | refine blk_drewN ?_ _ | refine blk_drew ?_ | refine blk_alloc ?_ _)); exact BK242.out) hb); have n13_ := Aside0.mk (below_step (by repeat (first | (with_reducible first | exact HB.out | apply below_alloc | apply pw_below_drewN | apply below_drew1 | refine below_set ?_ GE182.out | refine below_set ?_ GE197.out | refine below_set ?_ GE204.out | refine below_set ?_ GE212.out | refine below_set ?_ GE242.out) | exact HB.out)) hb); clear HO_198001; clear HO_198002; clear HO_205000; clear HO_205001; clear HO_213001; clear HO_213002; clear HO_243001; clear HO_243002; clear BK182; clear BK197; clear BK204; clear BK212; clear BK242; clear HB; have HO_198001 := n0_; have HO_198002 := n1_; have HO_205000 := n2_; have HO_205001 := n3_; have HO_213001 := n4_; have HO_213002 := n5_; have HO_243001 := n6_; have HO_243002 := n7_; have BK182 := n8_; have BK197 := n9_; have BK204 := n10_; have BK212 := n11_; have BK242 := n12_; have HB := n13_; clear n0_ n1_ n2_ n3_ n4_ n5_ n6_ n7_ n8_ n9_ n10_ n11_ n12_ n13_; (try clear hb); (try clear hb2); (try clear hk); (try clear hi)))
                                      go_ret
                                      exact ⟨by first | rfl | (simp [errW_none, errW_some] <;> rfl) | (simp [*, errW_none, errW_some] <;> rfl), by repeat (first | (with_reducible first | exact HB.out | apply below_alloc | apply pw_below_drewN | apply below_drew1 | refine below_set ?_ GE182.out | refine below_set ?_ GE197.out | refine below_set ?_ GE204.out | refine below_set ?_ GE212.out | refine below_set ?_ GE242.out) | exact HB.out)⟩

end Go.Proofs.Ytcdpiejcdeedoaa.PFnExactSyncLog
