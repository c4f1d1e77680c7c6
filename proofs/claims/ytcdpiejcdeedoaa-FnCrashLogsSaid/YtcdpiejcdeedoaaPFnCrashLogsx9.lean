/- The functions that a law reaches, each as a plain Lean function with the proof that the machine comes to its answer: written by program (the kit's print, turned by wip/gen). No conditions. -/
import Derived.Test.YtcdpiejcdeedoaaPFnCrashLogsx0
import Derived.Test.YtcdpiejcdeedoaaPFnCrashLogsx1
import Derived.Test.YtcdpiejcdeedoaaPFnCrashLogsx2
import Derived.Test.YtcdpiejcdeedoaaPFnCrashLogsx4
import Derived.Test.YtcdpiejcdeedoaaPFnCrashLogsx8
namespace Go.Proofs.Ytcdpiejcdeedoaa.PFnCrashLogs
open Go.RowKit Go.Proofs.YtcdpiejcdeedoaaW.PrintWords Go.Proofs.YtcdpiejcdeedoaaW.PrintLast Go.Proofs.YtcdpiejcdeedoaaW.PrintMore
attribute [local go_sem] max2_int min2_int max_two min_two max_three min_three max_four min_four   -- for this text's walks alone
set_option linter.unusedVariables false
set_option linter.unusedSimpArgs false

/-! ### laws_FnCrashLogs: function 11 -/
def laws_FnCrashLogs.l0 : Nat → Int → List Int → List Int → Int → Int → List (List Int) → Int → Int → List (List Int) → Option (Bool)
  | 0, _, _, _, _, _, _, _, _, _ => none
  | k + 1, x10, x442000, x442001, x462000, x462001, x462002, x468000, x468001, x468002 => if x10 < (x468002.length : Int) then (if 0 ≤ x10 then (if x10 < (x462002.length : Int) then (if (strOfNums (rd_L1 x468002 x10)).toList = (strOfNums (rd_L1 x462002 x10)).toList then (laws_FnCrashLogs.l0 k (wrap64 (x10 + 1)) x442000 x442001 x462000 x462001 x462002 x468000 x468001 x468002) else (none)) else (none)) else (none)) else ((spec_ReadLog.f k x442000 x442001).bind fun bt483 => (some ((x462002.length : Int) == (bt483.2.2.length : Int))))
def laws_FnCrashLogs.f (k : Nat) (l0 : List Int) : Option (Bool) := (laws_lwBig.f l0).bind fun t433 => (if t433 = true then (some true) else ((spec_DrawCrashLog.f k l0).bind fun bt434 => ((impl_CrashLog.f k bt434.1 bt434.2.1 bt434.2.2).bind fun bt442 => (if bt442.1 = 0 then ((impl_ReadLog.f k bt434.1 ([] : List Int)).bind fun bt450 => ((impl_ReadLog.f k bt434.1 bt434.2.1).bind fun bt456 => ((impl_ReadLog.f k bt442.2.1 bt442.2.2).bind fun bt462 => ((impl_TrimLog.f k bt442.2.1 bt442.2.2).bind fun bt468 => (if bt450.1 = 0 then (if bt456.1 = 0 then (if bt462.1 = 0 then (if (bt462.2.2.length : Int) < (bt450.2.2.length : Int) then (none) else (if (bt462.2.2.length : Int) > (bt456.2.2.length : Int) then (none) else (if bt468.1 = 0 then ((impl_ReadLog.f k bt468.2.1 bt468.2.2).bind fun bt476 => (if bt476.2.1 = (bt468.2.1.length : Int) then (laws_FnCrashLogs.l0 k 0 bt434.1 bt434.2.1 bt456.1 bt456.2.1 bt456.2.2 bt462.1 bt462.2.1 bt462.2.2) else (none))) else (none)))) else (none)) else (none)) else (none)))))) else ((spec_CrashLog.f bt434.1 bt434.2.1 bt434.2.2).bind fun bt488 => (some (bt488.1 == bt442.1)))))))
def laws_FnCrashLogs.T6 : Bool × List (List Nat × List Nat) := (true, [([], []), ([], []), ([0, 1], [0, 1]), ([2], [2]), ([], []), ([4], [4]), ([3, 5], [3, 5]), ([6, 2, 0, 1, 2, 3, 4, 5, 6], [6])])
def laws_FnCrashLogs.B6 : List Nat := [0, 0, 3, 7, 0, 16, 63, 127]
theorem laws_FnCrashLogs.tab6 : rtab .any (opsOf Try.f11 6) = laws_FnCrashLogs.T6 := by kernel_rfl
theorem laws_FnCrashLogs.bits6 : waitsOk laws_FnCrashLogs.T6.2 laws_FnCrashLogs.B6 = true := by kernel_rfl
def laws_FnCrashLogs.T11 : Bool × List (List Nat × List Nat) := (true, [([], []), ([0], [0]), ([1], [1]), ([2], [2]), ([3], [3]), ([4, 3], [3, 4]), ([5, 3], [3, 5]), ([3, 6], [3, 6]), ([7, 3], [7]), ([8], [8]), ([9, 8], [8, 9]), ([10, 8], [8, 10]), ([8, 11], [8, 11]), ([12, 8], [12]), ([13], [13]), ([14, 13], [13, 14]), ([15, 13], [13, 15]), ([13], [13]), ([17, 13], [13, 17]), ([18, 13], [13, 18]), ([16, 19, 13], [13, 16, 19]), ([13, 20], [13, 20]), ([21, 13], [21]), ([22], [22]), ([23, 22], [22, 23]), ([24, 22], [22, 24]), ([22], [22]), ([26, 22], [22, 26]), ([27, 22], [22, 27]), ([25, 28, 22], [22, 25, 28]), ([22, 29], [22, 29]), ([30, 22], [30]), ([31], [31]), ([32, 31], [31, 32]), ([33, 31], [31, 33]), ([31, 34], [31, 34]), ([35, 31], [35]), ([36], [36]), ([37, 36], [36, 37]), ([38, 36, 36], [36, 38]), ([39, 36], [36, 39]), ([36], [36]), ([41, 36], [36, 41]), ([42, 36], [36, 42]), ([43, 36], [36, 43]), ([40, 44, 36], [36, 40, 44]), ([36, 45], [36, 45])])
def laws_FnCrashLogs.B11 : List Nat := [0, 1, 3, 7, 15, 31, 63, 127, 255, 511, 1023, 2047, 4095, 8191, 16383, 32767, 65535, 16383, 147455, 409599, 1048575, 2097151, 4194303, 8388607, 16777215, 33554431, 8388607, 75497471, 209715199, 536870911, 1073741823, 2147483647, 4294967295, 8589934591, 17179869183, 34359738367, 68719476735, 137438953471, 274877906943, 549755813887, 1099511627775, 137438953471, 2336462209023, 6734508720127, 15530601742335, 35184372088831, 70368744177663]
theorem laws_FnCrashLogs.tab11 : rtab .any (opsOf Try.f11 11) = laws_FnCrashLogs.T11 := by kernel_rfl
theorem laws_FnCrashLogs.bits11 : waitsOk laws_FnCrashLogs.T11.2 laws_FnCrashLogs.B11 = true := by kernel_rfl
def laws_FnCrashLogs.T16 : Bool × List (List Nat × List Nat) := (true, [([], []), ([0], [0]), ([], []), ([1, 2], [1, 2]), ([3], [3]), ([4], [4]), ([], []), ([6], [6]), ([], []), ([7, 8], [7, 8]), ([9], [9]), ([10], [10]), ([5, 11], [5, 11])])
def laws_FnCrashLogs.B16 : List Nat := [0, 1, 0, 7, 15, 31, 0, 64, 0, 448, 960, 1984, 4095]
theorem laws_FnCrashLogs.tab16 : rtab .any (opsOf Try.f11 16) = laws_FnCrashLogs.T16 := by kernel_rfl
theorem laws_FnCrashLogs.bits16 : waitsOk laws_FnCrashLogs.T16.2 laws_FnCrashLogs.B16 = true := by kernel_rfl
def laws_FnCrashLogs.T18 : Bool × List (List Nat × List Nat) := (true, [([], []), ([0], [0]), ([1], [1]), ([], []), ([3], [3]), ([4], [4]), ([5], [5]), ([2, 6], [2, 6]), ([7, 4, 0, 1, 2, 3, 4, 5, 6, 7], [7])])
def laws_FnCrashLogs.B18 : List Nat := [0, 1, 3, 0, 8, 24, 56, 127, 255]
theorem laws_FnCrashLogs.tab18 : rtab .any (opsOf Try.f11 18) = laws_FnCrashLogs.T18 := by kernel_rfl
theorem laws_FnCrashLogs.bits18 : waitsOk laws_FnCrashLogs.T18.2 laws_FnCrashLogs.B18 = true := by kernel_rfl
attribute [local go_sem] Instr.field asAgg
set_option maxHeartbeats 8000000 in
set_option maxRecDepth 100000 in
theorem laws_FnCrashLogs.calls (k : Nat) (A0 : Option Addr) (c0 : Nat) (l0 : List Int) (r : Bool) (w : World) (hr0 : Kd.C (Kd.int .u8) w A0 l0.length l0) (hc0 : l0.length ≤ c0) (h : laws_FnCrashLogs.f k l0 = some r) :
  Calls Try.prog 11 #[.slice A0 l0.length c0] w fun e w' => e = .returned (.bool r) ∧ Below w.heap.size w w' := by
 have hu27 := Try.underlying27
 have hu46 := Try.underlying46
 have hu43 := Try.underlying43
 have HR0 := Aside0.mk hr0
 have HC0 := Aside0.mk hc0
 clear hr0 hc0
 have HB := Aside0.mk (Below.refl w.heap.size w)
 have H : ((laws_lwBig.f l0).bind fun t433 => (if t433 = true then (some true) else ((spec_DrawCrashLog.f k l0).bind fun bt434 => ((impl_CrashLog.f k bt434.1 bt434.2.1 bt434.2.2).bind fun bt442 => (if bt442.1 = 0 then ((impl_ReadLog.f k bt434.1 ([] : List Int)).bind fun bt450 => ((impl_ReadLog.f k bt434.1 bt434.2.1).bind fun bt456 => ((impl_ReadLog.f k bt442.2.1 bt442.2.2).bind fun bt462 => ((impl_TrimLog.f k bt442.2.1 bt442.2.2).bind fun bt468 => (if bt450.1 = 0 then (if bt456.1 = 0 then (if bt462.1 = 0 then (if (bt462.2.2.length : Int) < (bt450.2.2.length : Int) then (none) else (if (bt462.2.2.length : Int) > (bt456.2.2.length : Int) then (none) else (if bt468.1 = 0 then ((impl_ReadLog.f k bt468.2.1 bt468.2.2).bind fun bt476 => (if bt476.2.1 = (bt468.2.1.length : Int) then (laws_FnCrashLogs.l0 k 0 bt434.1 bt434.2.1 bt456.1 bt456.2.1 bt456.2.2 bt462.1 bt462.2.1 bt462.2.2) else (none))) else (none)))) else (none)) else (none)) else (none)))))) else ((spec_CrashLog.f bt434.1 bt434.2.1 bt434.2.2).bind fun bt488 => (some (bt488.1 == bt442.1)))))))) = some r := h
 clear h
 replace H := Option.bind_eq_some_iff.mp H
 obtain ⟨t433, A20, H⟩ := H
 replace H : (if t433 = true then (some true) else ((spec_DrawCrashLog.f k l0).bind fun bt434 => ((impl_CrashLog.f k bt434.1 bt434.2.1 bt434.2.2).bind fun bt442 => (if bt442.1 = 0 then ((impl_ReadLog.f k bt434.1 ([] : List Int)).bind fun bt450 => ((impl_ReadLog.f k bt434.1 bt434.2.1).bind fun bt456 => ((impl_ReadLog.f k bt442.2.1 bt442.2.2).bind fun bt462 => ((impl_TrimLog.f k bt442.2.1 bt442.2.2).bind fun bt468 => (if bt450.1 = 0 then (if bt456.1 = 0 then (if bt462.1 = 0 then (if (bt462.2.2.length : Int) < (bt450.2.2.length : Int) then (none) else (if (bt462.2.2.length : Int) > (bt456.2.2.length : Int) then (none) else (if bt468.1 = 0 then ((impl_ReadLog.f k bt468.2.1 bt468.2.2).bind fun bt476 => (if bt476.2.1 = (bt468.2.1.length : Int) then (laws_FnCrashLogs.l0 k 0 bt434.1 bt434.2.1 bt456.1 bt456.2.1 bt456.2.2 bt462.1 bt462.2.1 bt462.2.2) else (none))) else (none)))) else (none)) else (none)) else (none)))))) else ((spec_CrashLog.f bt434.1 bt434.2.1 bt434.2.2).bind fun bt488 => (some (bt488.1 == bt442.1))))))) = some r := H
 have A2 := Aside0.mk A20
 clear A20
 by_cases c3 : t433 = true
 ·subst c3
  have H1 : (some true) = some r := by rw [if_pos rfl] at H; exact H
  clear H
  have H := H1
  clear H1
  obtain rfl := Option.some.inj H
  go_enter Try.func11, Try.ntmps11
  go_wp2_with (first | ((with_reducible refine gate_callee (f := 27) rfl ?_); refine goesLq (some 12) rfl rfl Try.func27 (by kernel_rfl) rfl #[.slice A0 l0.length c0] rfl ?_; (with_reducible refine (laws_lwBig.calls _ _ l0 true _ ?side1 ?side2 A2.out).mono ?_); (case side1 => exact q_c (HR0.out)); (case side2 => exact HC0.out); rintro e w' ⟨rfl, ⟨nd, rfl⟩⟩; refine ⟨_, rfl, ?_⟩))
  go_ret
  exact ⟨q_e, bq⟩
 ·replace c3 := Bool.eq_false_iff.mpr c3
  subst c3
  have H1 : ((spec_DrawCrashLog.f k l0).bind fun bt434 => ((impl_CrashLog.f k bt434.1 bt434.2.1 bt434.2.2).bind fun bt442 => (if bt442.1 = 0 then ((impl_ReadLog.f k bt434.1 ([] : List Int)).bind fun bt450 => ((impl_ReadLog.f k bt434.1 bt434.2.1).bind fun bt456 => ((impl_ReadLog.f k bt442.2.1 bt442.2.2).bind fun bt462 => ((impl_TrimLog.f k bt442.2.1 bt442.2.2).bind fun bt468 => (if bt450.1 = 0 then (if bt456.1 = 0 then (if bt462.1 = 0 then (if (bt462.2.2.length : Int) < (bt450.2.2.length : Int) then (none) else (if (bt462.2.2.length : Int) > (bt456.2.2.length : Int) then (none) else (if bt468.1 = 0 then ((impl_ReadLog.f k bt468.2.1 bt468.2.2).bind fun bt476 => (if bt476.2.1 = (bt468.2.1.length : Int) then (laws_FnCrashLogs.l0 k 0 bt434.1 bt434.2.1 bt456.1 bt456.2.1 bt456.2.2 bt462.1 bt462.2.1 bt462.2.2) else (none))) else (none)))) else (none)) else (none)) else (none)))))) else ((spec_CrashLog.f bt434.1 bt434.2.1 bt434.2.2).bind fun bt488 => (some (bt488.1 == bt442.1)))))) = some r := by rw [if_neg (show ¬ (false = true) by decide)] at H; exact H
  clear H
  have H := H1
  clear H1
  replace H := Option.bind_eq_some_iff.mp H
  obtain ⟨⟨t434, t437, t440⟩, A40, H⟩ := H
  replace H : ((impl_CrashLog.f k t434 t437 t440).bind fun bt442 => (if bt442.1 = 0 then ((impl_ReadLog.f k t434 ([] : List Int)).bind fun bt450 => ((impl_ReadLog.f k t434 t437).bind fun bt456 => ((impl_ReadLog.f k bt442.2.1 bt442.2.2).bind fun bt462 => ((impl_TrimLog.f k bt442.2.1 bt442.2.2).bind fun bt468 => (if bt450.1 = 0 then (if bt456.1 = 0 then (if bt462.1 = 0 then (if (bt462.2.2.length : Int) < (bt450.2.2.length : Int) then (none) else (if (bt462.2.2.length : Int) > (bt456.2.2.length : Int) then (none) else (if bt468.1 = 0 then ((impl_ReadLog.f k bt468.2.1 bt468.2.2).bind fun bt476 => (if bt476.2.1 = (bt468.2.1.length : Int) then (laws_FnCrashLogs.l0 k 0 t434 t437 bt456.1 bt456.2.1 bt456.2.2 bt462.1 bt462.2.1 bt462.2.2) else (none))) else (none)))) else (none)) else (none)) else (none)))))) else ((spec_CrashLog.f t434 t437 t440).bind fun bt488 => (some (bt488.1 == bt442.1))))) = some r := H
  have A4 := Aside0.mk A40
  clear A40
  replace H := Option.bind_eq_some_iff.mp H
  obtain ⟨⟨t442, t443, t446⟩, A50, H⟩ := H
  replace H : (if t442 = 0 then ((impl_ReadLog.f k t434 ([] : List Int)).bind fun bt450 => ((impl_ReadLog.f k t434 t437).bind fun bt456 => ((impl_ReadLog.f k t443 t446).bind fun bt462 => ((impl_TrimLog.f k t443 t446).bind fun bt468 => (if bt450.1 = 0 then (if bt456.1 = 0 then (if bt462.1 = 0 then (if (bt462.2.2.length : Int) < (bt450.2.2.length : Int) then (none) else (if (bt462.2.2.length : Int) > (bt456.2.2.length : Int) then (none) else (if bt468.1 = 0 then ((impl_ReadLog.f k bt468.2.1 bt468.2.2).bind fun bt476 => (if bt476.2.1 = (bt468.2.1.length : Int) then (laws_FnCrashLogs.l0 k 0 t434 t437 bt456.1 bt456.2.1 bt456.2.2 bt462.1 bt462.2.1 bt462.2.2) else (none))) else (none)))) else (none)) else (none)) else (none)))))) else ((spec_CrashLog.f t434 t437 t440).bind fun bt488 => (some (bt488.1 == t442)))) = some r := H
  have A5 := Aside0.mk A50
  clear A50
  by_cases c6 : t442 = 0
  ·rw [if_pos c6] at H
   have c6b0 : (t442 == 0) = true := beq_iff_eq.mpr c6
   have c6b1 : (t442 != 0) = false := bne_eq_false_iff_eq.mpr c6
   clear c6
   replace H := Option.bind_eq_some_iff.mp H
   obtain ⟨⟨t450, t451, t452⟩, A70, H⟩ := H
   replace H : ((impl_ReadLog.f k t434 t437).bind fun bt456 => ((impl_ReadLog.f k t443 t446).bind fun bt462 => ((impl_TrimLog.f k t443 t446).bind fun bt468 => (if t450 = 0 then (if bt456.1 = 0 then (if bt462.1 = 0 then (if (bt462.2.2.length : Int) < (t452.length : Int) then (none) else (if (bt462.2.2.length : Int) > (bt456.2.2.length : Int) then (none) else (if bt468.1 = 0 then ((impl_ReadLog.f k bt468.2.1 bt468.2.2).bind fun bt476 => (if bt476.2.1 = (bt468.2.1.length : Int) then (laws_FnCrashLogs.l0 k 0 t434 t437 bt456.1 bt456.2.1 bt456.2.2 bt462.1 bt462.2.1 bt462.2.2) else (none))) else (none)))) else (none)) else (none)) else (none))))) = some r := H
   have A7 := Aside0.mk A70
   clear A70
   replace H := Option.bind_eq_some_iff.mp H
   obtain ⟨⟨t456, t457, t458⟩, A80, H⟩ := H
   replace H : ((impl_ReadLog.f k t443 t446).bind fun bt462 => ((impl_TrimLog.f k t443 t446).bind fun bt468 => (if t450 = 0 then (if t456 = 0 then (if bt462.1 = 0 then (if (bt462.2.2.length : Int) < (t452.length : Int) then (none) else (if (bt462.2.2.length : Int) > (t458.length : Int) then (none) else (if bt468.1 = 0 then ((impl_ReadLog.f k bt468.2.1 bt468.2.2).bind fun bt476 => (if bt476.2.1 = (bt468.2.1.length : Int) then (laws_FnCrashLogs.l0 k 0 t434 t437 t456 t457 t458 bt462.1 bt462.2.1 bt462.2.2) else (none))) else (none)))) else (none)) else (none)) else (none)))) = some r := H
   have A8 := Aside0.mk A80
   clear A80
   replace H := Option.bind_eq_some_iff.mp H
   obtain ⟨⟨t462, t463, t464⟩, A90, H⟩ := H
   replace H : ((impl_TrimLog.f k t443 t446).bind fun bt468 => (if t450 = 0 then (if t456 = 0 then (if t462 = 0 then (if (t464.length : Int) < (t452.length : Int) then (none) else (if (t464.length : Int) > (t458.length : Int) then (none) else (if bt468.1 = 0 then ((impl_ReadLog.f k bt468.2.1 bt468.2.2).bind fun bt476 => (if bt476.2.1 = (bt468.2.1.length : Int) then (laws_FnCrashLogs.l0 k 0 t434 t437 t456 t457 t458 t462 t463 t464) else (none))) else (none)))) else (none)) else (none)) else (none))) = some r := H
   have A9 := Aside0.mk A90
   clear A90
   replace H := Option.bind_eq_some_iff.mp H
   obtain ⟨⟨t468, t469, t472⟩, A100, H⟩ := H
   replace H : (if t450 = 0 then (if t456 = 0 then (if t462 = 0 then (if (t464.length : Int) < (t452.length : Int) then (none) else (if (t464.length : Int) > (t458.length : Int) then (none) else (if t468 = 0 then ((impl_ReadLog.f k t469 t472).bind fun bt476 => (if bt476.2.1 = (t469.length : Int) then (laws_FnCrashLogs.l0 k 0 t434 t437 t456 t457 t458 t462 t463 t464) else (none))) else (none)))) else (none)) else (none)) else (none)) = some r := H
   have A10 := Aside0.mk A100
   clear A100
   by_cases c11 : t450 = 0
   ·rw [if_pos c11] at H
    have c11b0 : (t450 == 0) = true := beq_iff_eq.mpr c11
    have c11b1 : (t450 != 0) = false := bne_eq_false_iff_eq.mpr c11
    clear c11
    by_cases c12 : t456 = 0
    ·rw [if_pos c12] at H
     have c12b0 : (t456 == 0) = true := beq_iff_eq.mpr c12
     have c12b1 : (t456 != 0) = false := bne_eq_false_iff_eq.mpr c12
     clear c12
     by_cases c13 : t462 = 0
     ·rw [if_pos c13] at H
      have c13b0 : (t462 == 0) = true := beq_iff_eq.mpr c13
      have c13b1 : (t462 != 0) = false := bne_eq_false_iff_eq.mpr c13
      clear c13
      by_cases c14 : (t464.length : Int) < (t452.length : Int)
      ·rw [if_pos c14] at H
       have c14b0 := decide_eq_true c14
       have c14b1 : decide (t464.length < t452.length) = true := decide_eq_true (Int.ofNat_lt.mp c14)
       clear c14
       exact absurd H (by simp)
      ·rw [if_neg c14] at H
       have c14b0 := decide_eq_false c14
       have c14b1 : decide (t464.length < t452.length) = false := decide_eq_false (fun h => c14 (Int.ofNat_lt.mpr h))
       clear c14
       by_cases c15 : (t464.length : Int) > (t458.length : Int)
       ·rw [if_pos c15] at H
        have c15b0 := decide_eq_true c15
        have c15b1 : decide (t458.length < t464.length) = true := decide_eq_true (Int.ofNat_lt.mp c15)
        clear c15
        exact absurd H (by simp)
       ·rw [if_neg c15] at H
        have c15b0 := decide_eq_false c15
        have c15b1 : decide (t458.length < t464.length) = false := decide_eq_false (fun h => c15 (Int.ofNat_lt.mpr h))
        clear c15
        by_cases c16 : t468 = 0
        ·rw [if_pos c16] at H
         have c16b0 : (t468 == 0) = true := beq_iff_eq.mpr c16
         have c16b1 : (t468 != 0) = false := bne_eq_false_iff_eq.mpr c16
         clear c16
         replace H := Option.bind_eq_some_iff.mp H
         obtain ⟨⟨t476, t477, t478⟩, A170, H⟩ := H
         replace H : (if t477 = (t469.length : Int) then (laws_FnCrashLogs.l0 k 0 t434 t437 t456 t457 t458 t462 t463 t464) else (none)) = some r := H
         have A17 := Aside0.mk A170
         clear A170
         by_cases c18 : t477 = (t469.length : Int)
         ·rw [if_pos c18] at H
          have c18b0 : (t477 == (t469.length : Int)) = true := beq_iff_eq.mpr c18
          have c18b1 : (t477 != (t469.length : Int)) = false := bne_eq_false_iff_eq.mpr c18
          clear c18
          have H' := Aside0.mk H
          clear H
          go_enter Try.func11, Try.ntmps11
          try go_wp2_with (first | ((with_reducible refine gate_callee (f := 27) rfl ?_); refine goesLq (some 12) rfl rfl Try.func27 (by kernel_rfl) rfl #[.slice A0 l0.length c0] rfl ?_; (with_reducible refine (laws_lwBig.calls _ _ l0 false _ ?side1 ?side2 A2.out).mono ?_); (case side1 => exact q_c (HR0.out)); (case side2 => exact HC0.out); rintro e w' ⟨rfl, ⟨nd, rfl⟩⟩; refine ⟨_, rfl, ?_⟩) | ((with_reducible refine gate_callee (f := 47) rfl ?_); refine goesLq (some 15) rfl rfl Try.func47 (by kernel_rfl) rfl #[.slice A0 l0.length c0] rfl ?_; (with_reducible refine (spec_DrawCrashLog.calls k _ _ l0 t434 t437 t440 _ ?side1 ?side2 A4.out).mono ?_); (case side1 => exact q_c (HR0.out)); (case side2 => exact HC0.out); rintro e w19 ⟨v435, v438, rfl, ho0, ho1, hb⟩; refine ⟨_, rfl, ?_⟩; have n0_ := Aside0.mk (Kd.R_lower ho0 (below_size bq)); have n1_ := Aside0.mk (Kd.R_lower ho1 (below_size bq)); have n2_ := Aside0.mk (below_step bq hb); revert n0_ n1_ n2_; clear HB; intro HO436 HO439 HB; (try clear hb); (try clear hb2); (try clear hk); (try clear hi); (try clear ho0); (try clear ho1)) | ((with_reducible refine gate_dst (N := 3) rfl ?_); (try (refine gate_guard (by rfl) ?_; dsimp only)); refine q_box (N := 3) (cs := #[.slice none 0 0, .slice none 0 0]) (t := 27) ?_; intro gb441 hg w20 hbox hb; have n0_ := Aside0.mk (Kd.R_below (q_r (HO436.out)) hb); have n1_ := Aside0.mk (Kd.R_below (q_r (HO439.out)) hb); have n2_ := Aside0.mk (below_step bq hb); have n3_ := Aside0.mk (hbox); have n4_ := Aside0.mk ((q_g hg bq : w.heap.size ≤ gb441)); have n5_ := Aside0.mk ((q_g hg bq : w.heap.size ≤ gb441)); revert n0_ n1_ n2_ n3_ n4_ n5_; clear HO436 HO439 HB; intro HO436 HO439 HB BK441 GW441 GE441; clear hb hbox hg; obtain ⟨Ao21, co21, eo21⟩ := Kd.R_slice HO436.out; subst eo21; obtain ⟨hcz22_0, hcz22_1, hfz22_0, hfz22_1⟩ := q_2 BK441.out; obtain ⟨Ao23, co23, eo23⟩ := Kd.R_slice HO439.out; subst eo23) | ((with_reducible refine gate_store (t := 27) (p := 3) rfl ?_); refine store_event (t := 27) (p := 3) (v := ?vo_w24) (w1 := ((w20.setCell ⟨gb441, 0, none⟩ (.slice Ao21 t434.length co21)).setCell ⟨gb441, 1, none⟩ (.slice Ao23 t437.length co23))) ?hg ?ho ?hn ?hr ?_; (case ho => rfl); (case hg => rfl); (case hn => rfl); (case hr => first | (go_simp; done) | (go_simp; rfl)); intro w24 hw; have n0_ : Aside0 (Kd.R (Kd.int .u8) 5 w24 w.heap.size (fun k_ => some k_ ≠ (.slice Ao23 t437.length co23 : Value).ownBlock) (.slice Ao21 t434.length co21) t434) := ⟨(by rw [hw]; exact (by (with_reducible repeat (first | apply Kd.R_alloc | apply Kd.R_drewN | apply Kd.R_drew)); exact Kd.R_mono (Kd.R_far (p := ⟨gb441, 1, none⟩) (Kd.R_far (p := ⟨gb441, 0, none⟩) (Kd.R_types HO436.out BK441.out (by decide)) (fun _ hk => hk.2) (.slice Ao21 t434.length co21)) (fun _ hk => hk.2) (.slice Ao23 t437.length co23)) (fun _ hk => hk.1)))⟩; have n1_ : Aside0 (Kd.R (Kd.int .u8) 5 w24 w.heap.size (fun k_ => some k_ ≠ (.slice Ao21 t434.length co21 : Value).ownBlock) (.slice Ao23 t437.length co23) t437) := ⟨(by rw [hw]; exact (by (with_reducible repeat (first | apply Kd.R_alloc | apply Kd.R_drewN | apply Kd.R_drew)); exact Kd.R_mono (Kd.R_far (p := ⟨gb441, 1, none⟩) (Kd.R_far (p := ⟨gb441, 0, none⟩) (Kd.R_types HO439.out BK441.out (by decide)) (fun _ hk => hk.2) (.slice Ao21 t434.length co21)) (fun _ hk => hk.2) (.slice Ao23 t437.length co23)) (fun _ hk => hk.1)))⟩; have n2_ : Aside0 (w24.heap[gb441]? = some (.cells #[.slice Ao21 t434.length co21, .slice Ao23 t437.length co23] 27 (0, 0))) := ⟨(by rw [hw]; exact (by (with_reducible repeat (first | refine blk_drewN ?_ _ | refine blk_drew ?_ | refine blk_alloc ?_ _)); refine blk_put (cs := #[.slice Ao21 t434.length co21, .slice none 0 0]) ?_ 1 _ rfl; (with_reducible repeat (first | refine blk_drewN ?_ _ | refine blk_drew ?_ | refine blk_alloc ?_ _)); refine blk_put (cs := #[.slice none 0 0, .slice none 0 0]) ?_ 0 _ rfl; (with_reducible repeat (first | refine blk_drewN ?_ _ | refine blk_drew ?_ | refine blk_alloc ?_ _)); exact BK441.out))⟩; have n3_ : Aside0 (Below w.heap.size w w24) := ⟨(by rw [hw]; exact bq)⟩; revert n0_ n1_ n2_ n3_; clear hw HO436 HO439 BK441 HB; intro HO436 HO439 BK441 HB; obtain ⟨hcz25_0, hcz25_1, hfz25_0, hfz25_1⟩ := q_2 BK441.out) | ((with_reducible refine gate_callee (f := 42) rfl ?_); refine goesLq (some 20) rfl rfl Try.func42 (by kernel_rfl) rfl #[.agg #[.slice Ao21 t434.length co21, .slice Ao23 t437.length co23], .int .i64 t440] rfl ?_; (with_reducible refine (impl_CrashLog.calls k (fun k_ => some k_ = (.slice Ao21 t434.length co21 : Value).ownBlock) _ _ t434 (fun k_ => some k_ = (.slice Ao23 t437.length co23 : Value).ownBlock) _ _ t437 t440 t442 t443 t446 _ ?side1 ?side2 A5.out).mono ?_); (case side1 => exact Kd.R_V (Kd.R_tight rfl (Kd.R_types (HO436.out) BK441.out (by decide)))); (case side2 => exact Kd.R_V (Kd.R_tight rfl (Kd.R_types (HO439.out) BK441.out (by decide)))); rintro e w26 ⟨v444, v447, rfl, ho0, ho1, hb⟩; refine ⟨_, rfl, ?_⟩; have n0_ := Aside0.mk (Kd.R_mono (Kd.R_told (Kd.R_told (Kd.R_old (q_r (HO436.out)) hb) (Kd.R_base ho0)) (Kd.R_base ho1)) (fun _ h_ => h_.1)); have n1_ := Aside0.mk (Kd.R_mono (Kd.R_told (Kd.R_told (Kd.R_old (q_r (HO439.out)) hb) (Kd.R_base ho0)) (Kd.R_base ho1)) (fun _ h_ => h_.1)); have n2_ := Aside0.mk (Kd.R_lower (Kd.R_new' (Kd.R_new' (Kd.R_mono (ok' := fun k_ => some k_ ≠ (v447 : Value).ownBlock) ho0 (fun _ hk_ => hk_.2)) (Kd.R_lt (q_r (HO436.out)))) (Kd.R_lt (q_r (HO439.out)))) (below_size bq)); have n3_ := Aside0.mk (Kd.R_lower (Kd.R_new' (Kd.R_new' (Kd.R_mono (ok' := fun k_ => some k_ ≠ (v444 : Value).ownBlock) ho1 (fun _ hk_ => hk_.2)) (Kd.R_lt (q_r (HO436.out)))) (Kd.R_lt (q_r (HO439.out)))) (below_size bq)); have n4_ := Aside0.mk (blk_below (q_b BK441.out) hb); have n5_ := Aside0.mk (below_step bq hb); revert n0_ n1_ n2_ n3_ n4_ n5_; clear HO436 HO439 BK441 HB; intro HO436 HO439 HO445 HO448 BK441 HB; (try clear hb); (try clear hb2); (try clear hk); (try clear hi); (try clear ho0); (try clear ho1)) | ((with_reducible refine gate_dst (N := 5) rfl ?_); (try (refine gate_guard (by rfl) ?_; dsimp only)); refine q_box (N := 5) (cs := #[.int .i64 0, .slice none 0 0, .slice none 0 0]) (t := 46) ?_; intro gb449 hg w27 hbox hb; have n0_ := Aside0.mk (Kd.R_below (q_r (HO436.out)) hb); have n1_ := Aside0.mk (Kd.R_below (q_r (HO439.out)) hb); have n2_ := Aside0.mk (Kd.R_below (q_r (HO445.out)) hb); have n3_ := Aside0.mk (Kd.R_below (q_r (HO448.out)) hb); have n4_ := Aside0.mk (blk_below (q_b BK441.out) hb); have n5_ := Aside0.mk (below_step bq hb); have n6_ := Aside0.mk (hbox); have n7_ := Aside0.mk ((q_g hg bq : w.heap.size ≤ gb449)); have n8_ := Aside0.mk ((q_g hg bq : w.heap.size ≤ gb449)); have n9_ := Aside0.mk ((q_n hg (q_b BK441.out) : gb441 ≠ gb449)); have n10_ := Aside0.mk ((q_m hg (q_b BK441.out) : gb449 ≠ gb441)); revert n0_ n1_ n2_ n3_ n4_ n5_ n6_ n7_ n8_ n9_ n10_; clear HO436 HO439 HO445 HO448 BK441 HB; intro HO436 HO439 HO445 HO448 BK441 HB BK449 GW449 GE449 NB441_449 NB449_441; clear hb hbox hg; have hnb28 := NB449_441.out; have hnc28 := NB441_449.out; obtain ⟨hcz29_0, hcz29_1, hcz29_2, hfz29_0, hfz29_1, hfz29_2⟩ := q_3 BK449.out; obtain ⟨Ao30, co30, eo30⟩ := Kd.R_slice HO445.out; subst eo30; obtain ⟨Ao31, co31, eo31⟩ := Kd.R_slice HO448.out; subst eo31) | ((with_reducible refine gate_store (t := 46) (p := 5) rfl ?_); refine store_event (t := 46) (p := 5) (v := ?vo_w32) (w1 := (((w27.setCell ⟨gb449, 0, none⟩ (.int .i64 t442)).setCell ⟨gb449, 1, none⟩ (.slice Ao30 t443.length co30)).setCell ⟨gb449, 2, none⟩ (.slice Ao31 t446.length co31))) ?hg ?ho ?hn ?hr ?_; (case ho => rfl); (case hg => rfl); (case hn => rfl); (case hr => first | (go_simp; done) | (go_simp; rfl)); intro w32 hw; have n0_ : Aside0 (Kd.R (Kd.int .u8) 5 w32 w.heap.size (fun k_ => some k_ ≠ (.slice Ao23 t437.length co23 : Value).ownBlock ∧ some k_ ≠ (.slice Ao30 t443.length co30 : Value).ownBlock ∧ some k_ ≠ (.slice Ao31 t446.length co31 : Value).ownBlock) (.slice Ao21 t434.length co21) t434) := ⟨(by rw [hw]; exact (by (with_reducible repeat (first | apply Kd.R_alloc | apply Kd.R_drewN | apply Kd.R_drew)); exact Kd.R_mono (Kd.R_far (p := ⟨gb449, 2, none⟩) (Kd.R_far (p := ⟨gb449, 1, none⟩) (Kd.R_far (p := ⟨gb449, 0, none⟩) (Kd.R_types HO436.out BK449.out (by decide)) (fun _ hk => hk.2) (.int .i64 t442)) (fun _ hk => hk.2) (.slice Ao30 t443.length co30)) (fun _ hk => hk.2) (.slice Ao31 t446.length co31)) (fun _ hk => ⟨hk.1.1.1, ⟨hk.1.1.2, hk.1.2⟩⟩)))⟩; have n1_ : Aside0 (Kd.R (Kd.int .u8) 5 w32 w.heap.size (fun k_ => some k_ ≠ (.slice Ao21 t434.length co21 : Value).ownBlock ∧ some k_ ≠ (.slice Ao30 t443.length co30 : Value).ownBlock ∧ some k_ ≠ (.slice Ao31 t446.length co31 : Value).ownBlock) (.slice Ao23 t437.length co23) t437) := ⟨(by rw [hw]; exact (by (with_reducible repeat (first | apply Kd.R_alloc | apply Kd.R_drewN | apply Kd.R_drew)); exact Kd.R_mono (Kd.R_far (p := ⟨gb449, 2, none⟩) (Kd.R_far (p := ⟨gb449, 1, none⟩) (Kd.R_far (p := ⟨gb449, 0, none⟩) (Kd.R_types HO439.out BK449.out (by decide)) (fun _ hk => hk.2) (.int .i64 t442)) (fun _ hk => hk.2) (.slice Ao30 t443.length co30)) (fun _ hk => hk.2) (.slice Ao31 t446.length co31)) (fun _ hk => ⟨hk.1.1.1, ⟨hk.1.1.2, hk.1.2⟩⟩)))⟩; have n2_ : Aside0 (Kd.R (Kd.int .u8) 5 w32 w.heap.size (fun k_ => some k_ ≠ (.slice Ao21 t434.length co21 : Value).ownBlock ∧ some k_ ≠ (.slice Ao23 t437.length co23 : Value).ownBlock ∧ some k_ ≠ (.slice Ao31 t446.length co31 : Value).ownBlock) (.slice Ao30 t443.length co30) t443) := ⟨(by rw [hw]; exact (by (with_reducible repeat (first | apply Kd.R_alloc | apply Kd.R_drewN | apply Kd.R_drew)); exact Kd.R_mono (Kd.R_far (p := ⟨gb449, 2, none⟩) (Kd.R_far (p := ⟨gb449, 1, none⟩) (Kd.R_far (p := ⟨gb449, 0, none⟩) (Kd.R_types HO445.out BK449.out (by decide)) (fun _ hk => hk.2) (.int .i64 t442)) (fun _ hk => hk.2) (.slice Ao30 t443.length co30)) (fun _ hk => hk.2) (.slice Ao31 t446.length co31)) (fun _ hk => ⟨hk.1.1.2, ⟨hk.1.2, hk.1.1.1⟩⟩)))⟩; have n3_ : Aside0 (Kd.R (Kd.int .u8) 5 w32 w.heap.size (fun k_ => some k_ ≠ (.slice Ao21 t434.length co21 : Value).ownBlock ∧ some k_ ≠ (.slice Ao23 t437.length co23 : Value).ownBlock ∧ some k_ ≠ (.slice Ao30 t443.length co30 : Value).ownBlock) (.slice Ao31 t446.length co31) t446) := ⟨(by rw [hw]; exact (by (with_reducible repeat (first | apply Kd.R_alloc | apply Kd.R_drewN | apply Kd.R_drew)); exact Kd.R_mono (Kd.R_far (p := ⟨gb449, 2, none⟩) (Kd.R_far (p := ⟨gb449, 1, none⟩) (Kd.R_far (p := ⟨gb449, 0, none⟩) (Kd.R_types HO448.out BK449.out (by decide)) (fun _ hk => hk.2) (.int .i64 t442)) (fun _ hk => hk.2) (.slice Ao30 t443.length co30)) (fun _ hk => hk.2) (.slice Ao31 t446.length co31)) (fun _ hk => ⟨hk.1.1.2, ⟨hk.1.2, hk.1.1.1⟩⟩)))⟩; have n4_ : Aside0 (w32.heap[gb441]? = some (.cells #[.slice Ao21 t434.length co21, .slice Ao23 t437.length co23] 27 (0, 0))) := ⟨(by rw [hw]; exact (by (with_reducible repeat (first | refine blk_drewN ?_ _ | refine blk_drew ?_ | refine blk_alloc ?_ _)); refine blk_far ?_ NB441_449.out _; (with_reducible repeat (first | refine blk_drewN ?_ _ | refine blk_drew ?_ | refine blk_alloc ?_ _)); refine blk_far ?_ NB441_449.out _; (with_reducible repeat (first | refine blk_drewN ?_ _ | refine blk_drew ?_ | refine blk_alloc ?_ _)); refine blk_far ?_ NB441_449.out _; (with_reducible repeat (first | refine blk_drewN ?_ _ | refine blk_drew ?_ | refine blk_alloc ?_ _)); exact BK441.out))⟩; have n5_ : Aside0 (w32.heap[gb449]? = some (.cells #[.int .i64 t442, .slice Ao30 t443.length co30, .slice Ao31 t446.length co31] 46 (0, 0))) := ⟨(by rw [hw]; exact (by (with_reducible repeat (first | refine blk_drewN ?_ _ | refine blk_drew ?_ | refine blk_alloc ?_ _)); refine blk_put (cs := #[.int .i64 t442, .slice Ao30 t443.length co30, .slice none 0 0]) ?_ 2 _ rfl; (with_reducible repeat (first | refine blk_drewN ?_ _ | refine blk_drew ?_ | refine blk_alloc ?_ _)); refine blk_put (cs := #[.int .i64 t442, .slice none 0 0, .slice none 0 0]) ?_ 1 _ rfl; (with_reducible repeat (first | refine blk_drewN ?_ _ | refine blk_drew ?_ | refine blk_alloc ?_ _)); refine blk_put (cs := #[.int .i64 0, .slice none 0 0, .slice none 0 0]) ?_ 0 _ rfl; (with_reducible repeat (first | refine blk_drewN ?_ _ | refine blk_drew ?_ | refine blk_alloc ?_ _)); exact BK449.out))⟩; have n6_ : Aside0 (Below w.heap.size w w32) := ⟨(by rw [hw]; exact bq)⟩; revert n0_ n1_ n2_ n3_ n4_ n5_ n6_; clear hw HO436 HO439 HO445 HO448 BK441 BK449 HB; intro HO436 HO439 HO445 HO448 BK441 BK449 HB; obtain ⟨hcz33_0, hcz33_1, hcz33_2, hfz33_0, hfz33_1, hfz33_2⟩ := q_3 BK449.out; obtain ⟨hcz34_0, hcz34_1, hfz34_0, hfz34_1⟩ := q_2 BK441.out) | ((with_reducible refine gate_callee (f := 48) rfl ?_); refine goesLq (some 34) rfl rfl Try.func48 (by kernel_rfl) rfl #[.agg #[.slice Ao21 t434.length co21, .slice none 0 0]] rfl ?_; (refine (impl_ReadLog.calls k (fun k_ => some k_ = (.slice Ao21 t434.length co21 : Value).ownBlock) _ _ t434 (fun k_ => False) _ _ ([] : List Int) t450 t451 t452 _ ?side1 ?side2 A7.out).mono ?_); (case side1 => exact Kd.R_V (Kd.R_tight rfl (Kd.R_types (Kd.R_types (HO436.out) BK441.out (by decide)) BK449.out (by decide)))); (case side2 => exact Kd.V_nil _ _ _ _ _); rintro e w35 ⟨v453, rfl, ho0, hb⟩; refine ⟨_, rfl, ?_⟩; have n0_ := Aside0.mk (Kd.R_below (q_r (HO436.out)) hb); have n1_ := Aside0.mk (Kd.R_below (q_r (HO439.out)) hb); have n2_ := Aside0.mk (Kd.R_below (q_r (HO445.out)) hb); have n3_ := Aside0.mk (Kd.R_below (q_r (HO448.out)) hb); have n4_ := Aside0.mk (Kd.N_lower (Kd.N_mono (ok' := fun k_ => some k_ ≠ (.slice Ao23 t437.length co23 : Value).ownBlock ∧ some k_ ≠ (.slice Ao30 t443.length co30 : Value).ownBlock ∧ some k_ ≠ (.slice Ao31 t446.length co31 : Value).ownBlock ∧ k_ ≠ gb441 ∧ k_ ≠ gb449) ho0 (fun k_ hk_ => ⟨Or.elim hk_ (fun hs_ => Or.elim hs_ (fun hs_ => ((Kd.R_types (Kd.R_types (HO436.out) BK441.out (by decide)) BK449.out (by decide)).1 k_ hs_.symm).1.1.1) (fun hs_ => (hs_).elim)) (fun hn_ => (Kd.fresh' (Kd.R_lt (q_r (HO439.out))) k_ hn_)), Or.elim hk_ (fun hs_ => Or.elim hs_ (fun hs_ => ((Kd.R_types (Kd.R_types (HO436.out) BK441.out (by decide)) BK449.out (by decide)).1 k_ hs_.symm).1.1.2.1) (fun hs_ => (hs_).elim)) (fun hn_ => (Kd.fresh' (Kd.R_lt (q_r (HO445.out))) k_ hn_)), Or.elim hk_ (fun hs_ => Or.elim hs_ (fun hs_ => ((Kd.R_types (Kd.R_types (HO436.out) BK441.out (by decide)) BK449.out (by decide)).1 k_ hs_.symm).1.1.2.2) (fun hs_ => (hs_).elim)) (fun hn_ => (Kd.fresh' (Kd.R_lt (q_r (HO448.out))) k_ hn_)), Or.elim hk_ (fun hs_ => Or.elim hs_ (fun hs_ => ((Kd.R_types (Kd.R_types (HO436.out) BK441.out (by decide)) BK449.out (by decide)).1 k_ hs_.symm).1.2) (fun hs_ => (hs_).elim)) (fun hn_ => (Kd.freshB (q_b BK441.out) k_ hn_)), Or.elim hk_ (fun hs_ => Or.elim hs_ (fun hs_ => ((Kd.R_types (Kd.R_types (HO436.out) BK441.out (by decide)) BK449.out (by decide)).1 k_ hs_.symm).2) (fun hs_ => (hs_).elim)) (fun hn_ => (Kd.freshB (q_b BK449.out) k_ hn_))⟩)) (below_size bq)); have n5_ := Aside0.mk (blk_below (q_b BK441.out) hb); have n6_ := Aside0.mk (blk_below (q_b BK449.out) hb); have n7_ := Aside0.mk (below_step bq hb); revert n0_ n1_ n2_ n3_ n4_ n5_ n6_ n7_; clear HO436 HO439 HO445 HO448 BK441 BK449 HB; intro HO436 HO439 HO445 HO448 HO454 BK441 BK449 HB; (try clear hb); (try clear hb2); (try clear hk); (try clear hi); (try clear ho0)) | ((with_reducible refine gate_dst (N := 6) rfl ?_); (try (refine gate_guard (by rfl) ?_; dsimp only)); refine q_box (N := 6) (cs := #[.int .i64 0, .int .i64 0, .slice none 0 0]) (t := 43) ?_; intro gb455 hg w36 hbox hb; have n0_ := Aside0.mk (Kd.R_below (q_r (HO436.out)) hb); have n1_ := Aside0.mk (Kd.R_below (q_r (HO439.out)) hb); have n2_ := Aside0.mk (Kd.R_below (q_r (HO445.out)) hb); have n3_ := Aside0.mk (Kd.R_below (q_r (HO448.out)) hb); have n4_ := Aside0.mk (Kd.N_below (Kd.N_elderB (by (with_reducible repeat (first | apply Kd.N_alloc | apply Kd.N_drewN | apply Kd.N_drew)); exact HO454.out) gb455 (Nat.le_of_eq hg.symm)) hb); have n5_ := Aside0.mk (blk_below (q_b BK441.out) hb); have n6_ := Aside0.mk (blk_below (q_b BK449.out) hb); have n7_ := Aside0.mk (below_step bq hb); have n8_ := Aside0.mk (hbox); have n9_ := Aside0.mk ((q_g hg bq : w.heap.size ≤ gb455)); have n10_ := Aside0.mk ((q_g hg bq : w.heap.size ≤ gb455)); have n11_ := Aside0.mk ((q_n hg (q_b BK441.out) : gb441 ≠ gb455)); have n12_ := Aside0.mk ((q_m hg (q_b BK441.out) : gb455 ≠ gb441)); have n13_ := Aside0.mk ((q_n hg (q_b BK449.out) : gb449 ≠ gb455)); have n14_ := Aside0.mk ((q_m hg (q_b BK449.out) : gb455 ≠ gb449)); revert n0_ n1_ n2_ n3_ n4_ n5_ n6_ n7_ n8_ n9_ n10_ n11_ n12_ n13_ n14_; clear HO436 HO439 HO445 HO448 HO454 BK441 BK449 HB; intro HO436 HO439 HO445 HO448 HO454 BK441 BK449 HB BK455 GW455 GE455 NB441_455 NB455_441 NB449_455 NB455_449; clear hb hbox hg; have hnb37 := NB455_441.out; have hnc37 := NB441_455.out; have hnb38 := NB455_449.out; have hnc38 := NB449_455.out; obtain ⟨hcz39_0, hcz39_1, hcz39_2, hfz39_0, hfz39_1, hfz39_2⟩ := q_3 BK455.out; obtain ⟨Ao40, co40, eo40⟩ := Kd.N_slice HO454.out; subst eo40) | ((with_reducible refine gate_store (t := 43) (p := 6) rfl ?_); refine store_event (t := 43) (p := 6) (v := ?vo_w41) (w1 := (((w36.setCell ⟨gb455, 0, none⟩ (.int .i64 t450)).setCell ⟨gb455, 1, none⟩ (.int .i64 t451)).setCell ⟨gb455, 2, none⟩ (.slice Ao40 t452.length co40))) ?hg ?ho ?hn ?hr ?_; (case ho => rfl); (case hg => rfl); (case hn => rfl); (case hr => first | (go_simp; done) | (go_simp; rfl)); intro w41 hw; have n0_ : Aside0 (Kd.R (Kd.int .u8) 5 w41 w.heap.size (fun k_ => some k_ ≠ (.slice Ao23 t437.length co23 : Value).ownBlock ∧ some k_ ≠ (.slice Ao30 t443.length co30 : Value).ownBlock ∧ some k_ ≠ (.slice Ao31 t446.length co31 : Value).ownBlock) (.slice Ao21 t434.length co21) t434) := ⟨(by rw [hw]; exact (by (with_reducible repeat (first | apply Kd.R_alloc | apply Kd.R_drewN | apply Kd.R_drew)); exact Kd.R_mono (Kd.R_far (p := ⟨gb455, 2, none⟩) (Kd.R_far (p := ⟨gb455, 1, none⟩) (Kd.R_far (p := ⟨gb455, 0, none⟩) (Kd.R_types HO436.out BK455.out (by decide)) (fun _ hk => hk.2) (.int .i64 t450)) (fun _ hk => hk.2) (.int .i64 t451)) (fun _ hk => hk.2) (.slice Ao40 t452.length co40)) (fun _ hk => ⟨hk.1.1, ⟨hk.1.2.1, hk.1.2.2⟩⟩)))⟩; have n1_ : Aside0 (Kd.R (Kd.int .u8) 5 w41 w.heap.size (fun k_ => some k_ ≠ (.slice Ao21 t434.length co21 : Value).ownBlock ∧ some k_ ≠ (.slice Ao30 t443.length co30 : Value).ownBlock ∧ some k_ ≠ (.slice Ao31 t446.length co31 : Value).ownBlock) (.slice Ao23 t437.length co23) t437) := ⟨(by rw [hw]; exact (by (with_reducible repeat (first | apply Kd.R_alloc | apply Kd.R_drewN | apply Kd.R_drew)); exact Kd.R_mono (Kd.R_far (p := ⟨gb455, 2, none⟩) (Kd.R_far (p := ⟨gb455, 1, none⟩) (Kd.R_far (p := ⟨gb455, 0, none⟩) (Kd.R_types HO439.out BK455.out (by decide)) (fun _ hk => hk.2) (.int .i64 t450)) (fun _ hk => hk.2) (.int .i64 t451)) (fun _ hk => hk.2) (.slice Ao40 t452.length co40)) (fun _ hk => ⟨hk.1.1, ⟨hk.1.2.1, hk.1.2.2⟩⟩)))⟩; have n2_ : Aside0 (Kd.R (Kd.int .u8) 5 w41 w.heap.size (fun k_ => some k_ ≠ (.slice Ao21 t434.length co21 : Value).ownBlock ∧ some k_ ≠ (.slice Ao23 t437.length co23 : Value).ownBlock ∧ some k_ ≠ (.slice Ao31 t446.length co31 : Value).ownBlock) (.slice Ao30 t443.length co30) t443) := ⟨(by rw [hw]; exact (by (with_reducible repeat (first | apply Kd.R_alloc | apply Kd.R_drewN | apply Kd.R_drew)); exact Kd.R_mono (Kd.R_far (p := ⟨gb455, 2, none⟩) (Kd.R_far (p := ⟨gb455, 1, none⟩) (Kd.R_far (p := ⟨gb455, 0, none⟩) (Kd.R_types HO445.out BK455.out (by decide)) (fun _ hk => hk.2) (.int .i64 t450)) (fun _ hk => hk.2) (.int .i64 t451)) (fun _ hk => hk.2) (.slice Ao40 t452.length co40)) (fun _ hk => ⟨hk.1.1, ⟨hk.1.2.1, hk.1.2.2⟩⟩)))⟩; have n3_ : Aside0 (Kd.R (Kd.int .u8) 5 w41 w.heap.size (fun k_ => some k_ ≠ (.slice Ao21 t434.length co21 : Value).ownBlock ∧ some k_ ≠ (.slice Ao23 t437.length co23 : Value).ownBlock ∧ some k_ ≠ (.slice Ao30 t443.length co30 : Value).ownBlock) (.slice Ao31 t446.length co31) t446) := ⟨(by rw [hw]; exact (by (with_reducible repeat (first | apply Kd.R_alloc | apply Kd.R_drewN | apply Kd.R_drew)); exact Kd.R_mono (Kd.R_far (p := ⟨gb455, 2, none⟩) (Kd.R_far (p := ⟨gb455, 1, none⟩) (Kd.R_far (p := ⟨gb455, 0, none⟩) (Kd.R_types HO448.out BK455.out (by decide)) (fun _ hk => hk.2) (.int .i64 t450)) (fun _ hk => hk.2) (.int .i64 t451)) (fun _ hk => hk.2) (.slice Ao40 t452.length co40)) (fun _ hk => ⟨hk.1.1, ⟨hk.1.2.1, hk.1.2.2⟩⟩)))⟩; have n4_ : Aside0 (Kd.N (Kd.slice 5 (Kd.int .u8)) 22 w41 w.heap.size (fun k_ => some k_ ≠ (.slice Ao23 t437.length co23 : Value).ownBlock ∧ some k_ ≠ (.slice Ao30 t443.length co30 : Value).ownBlock ∧ some k_ ≠ (.slice Ao31 t446.length co31 : Value).ownBlock ∧ k_ ≠ gb441 ∧ k_ ≠ gb449 ∧ k_ ≠ gb455) (.slice Ao40 t452.length co40) t452) := ⟨(by rw [hw]; exact (by (with_reducible repeat (first | apply Kd.N_alloc | apply Kd.N_drewN | apply Kd.N_drew)); exact Kd.N_mono (Kd.N_far (p := ⟨gb455, 2, none⟩) (Kd.N_far (p := ⟨gb455, 1, none⟩) (Kd.N_far (p := ⟨gb455, 0, none⟩) (Kd.N_mono HO454.out (fun k_ hk => (⟨hk, hk.2⟩ : _ ∧ k_ ≠ gb455))) (fun _ hk => hk.2) (.int .i64 t450)) (fun _ hk => hk.2) (.int .i64 t451)) (fun _ hk => hk.2) (.slice Ao40 t452.length co40)) (fun _ hk => ⟨hk.1.1.1, ⟨hk.1.1.2.1, ⟨hk.1.1.2.2.1, ⟨hk.1.1.2.2.2.1, ⟨hk.1.1.2.2.2.2, hk.1.2⟩⟩⟩⟩⟩)))⟩; have n5_ : Aside0 (w41.heap[gb441]? = some (.cells #[.slice Ao21 t434.length co21, .slice Ao23 t437.length co23] 27 (0, 0))) := ⟨(by rw [hw]; exact (by (with_reducible repeat (first | refine blk_drewN ?_ _ | refine blk_drew ?_ | refine blk_alloc ?_ _)); refine blk_far ?_ NB441_455.out _; (with_reducible repeat (first | refine blk_drewN ?_ _ | refine blk_drew ?_ | refine blk_alloc ?_ _)); refine blk_far ?_ NB441_455.out _; (with_reducible repeat (first | refine blk_drewN ?_ _ | refine blk_drew ?_ | refine blk_alloc ?_ _)); refine blk_far ?_ NB441_455.out _; (with_reducible repeat (first | refine blk_drewN ?_ _ | refine blk_drew ?_ | refine blk_alloc ?_ _)); exact BK441.out))⟩; have n6_ : Aside0 (w41.heap[gb449]? = some (.cells #[.int .i64 t442, .slice Ao30 t443.length co30, .slice Ao31 t446.length co31] 46 (0, 0))) := ⟨(by rw [hw]; exact (by (with_reducible repeat (first | refine blk_drewN ?_ _ | refine blk_drew ?_ | refine blk_alloc ?_ _)); refine blk_far ?_ NB449_455.out _; (with_reducible repeat (first | refine blk_drewN ?_ _ | refine blk_drew ?_ | refine blk_alloc ?_ _)); refine blk_far ?_ NB449_455.out _; (with_reducible repeat (first | refine blk_drewN ?_ _ | refine blk_drew ?_ | refine blk_alloc ?_ _)); refine blk_far ?_ NB449_455.out _; (with_reducible repeat (first | refine blk_drewN ?_ _ | refine blk_drew ?_ | refine blk_alloc ?_ _)); exact BK449.out))⟩; have n7_ : Aside0 (w41.heap[gb455]? = some (.cells #[.int .i64 t450, .int .i64 t451, .slice Ao40 t452.length co40] 43 (0, 0))) := ⟨(by rw [hw]; exact (by (with_reducible repeat (first | refine blk_drewN ?_ _ | refine blk_drew ?_ | refine blk_alloc ?_ _)); refine blk_put (cs := #[.int .i64 t450, .int .i64 t451, .slice none 0 0]) ?_ 2 _ rfl; (with_reducible repeat (first | refine blk_drewN ?_ _ | refine blk_drew ?_ | refine blk_alloc ?_ _)); refine blk_put (cs := #[.int .i64 t450, .int .i64 0, .slice none 0 0]) ?_ 1 _ rfl; (with_reducible repeat (first | refine blk_drewN ?_ _ | refine blk_drew ?_ | refine blk_alloc ?_ _)); refine blk_put (cs := #[.int .i64 0, .int .i64 0, .slice none 0 0]) ?_ 0 _ rfl; (with_reducible repeat (first | refine blk_drewN ?_ _ | refine blk_drew ?_ | refine blk_alloc ?_ _)); exact BK455.out))⟩; have n8_ : Aside0 (Below w.heap.size w w41) := ⟨(by rw [hw]; exact bq)⟩; revert n0_ n1_ n2_ n3_ n4_ n5_ n6_ n7_ n8_; clear hw HO436 HO439 HO445 HO448 HO454 BK441 BK449 BK455 HB; intro HO436 HO439 HO445 HO448 HO454 BK441 BK449 BK455 HB; obtain ⟨hcz42_0, hcz42_1, hfz42_0, hfz42_1⟩ := q_2 BK441.out) | ((with_reducible refine gate_callee (f := 48) rfl ?_); refine goesLq (some 36) rfl rfl Try.func48 (by kernel_rfl) rfl #[.agg #[.slice Ao21 t434.length co21, .slice Ao23 t437.length co23]] rfl ?_; (with_reducible refine (impl_ReadLog.calls k (fun k_ => some k_ = (.slice Ao21 t434.length co21 : Value).ownBlock) _ _ t434 (fun k_ => some k_ = (.slice Ao23 t437.length co23 : Value).ownBlock) _ _ t437 t456 t457 t458 _ ?side1 ?side2 A8.out).mono ?_); (case side1 => exact Kd.R_V (Kd.R_tight rfl (Kd.R_types (Kd.R_types (Kd.R_types (Kd.R_apart' (HO436.out) (Kd.N_typed HO454.out) (by decide)) BK441.out (by decide)) BK449.out (by decide)) BK455.out (by decide)))); (case side2 => exact Kd.R_V (Kd.R_tight rfl (Kd.R_types (Kd.R_types (Kd.R_types (Kd.R_apart' (HO439.out) (Kd.N_typed HO454.out) (by decide)) BK441.out (by decide)) BK449.out (by decide)) BK455.out (by decide)))); rintro e w43 ⟨v459, rfl, ho0, hb⟩; refine ⟨_, rfl, ?_⟩; have n0_ := Aside0.mk (Kd.R_below (q_r (HO436.out)) hb); have n1_ := Aside0.mk (Kd.R_below (q_r (HO439.out)) hb); have n2_ := Aside0.mk (Kd.R_below (q_r (HO445.out)) hb); have n3_ := Aside0.mk (Kd.R_below (q_r (HO448.out)) hb); have n4_ := Aside0.mk (Kd.N_elder' (by (with_reducible repeat (first | apply Kd.N_alloc | apply Kd.N_drewN | apply Kd.N_drew)); exact HO454.out) (by first | exact Kd.N_base ho0 | exact Kd.R_base (Kd.S_R ho0)) hb); have n5_ := Aside0.mk (Kd.N_lower (Kd.N_mono (ok' := fun k_ => some k_ ≠ (.slice Ao30 t443.length co30 : Value).ownBlock ∧ some k_ ≠ (.slice Ao31 t446.length co31 : Value).ownBlock ∧ some k_ ≠ (.slice Ao40 t452.length co40 : Value).ownBlock ∧ k_ ≠ gb441 ∧ k_ ≠ gb449 ∧ k_ ≠ gb455) ho0 (fun k_ hk_ => ⟨Or.elim hk_ (fun hs_ => Or.elim hs_ (fun hs_ => ((Kd.R_types (Kd.R_types (Kd.R_types (Kd.R_apart' (HO436.out) (Kd.N_typed HO454.out) (by decide)) BK441.out (by decide)) BK449.out (by decide)) BK455.out (by decide)).1 k_ hs_.symm).1.1.1.1.2.1) (fun hs_ => ((Kd.R_types (Kd.R_types (Kd.R_types (Kd.R_apart' (HO439.out) (Kd.N_typed HO454.out) (by decide)) BK441.out (by decide)) BK449.out (by decide)) BK455.out (by decide)).1 k_ hs_.symm).1.1.1.1.2.1)) (fun hn_ => (Kd.fresh' (Kd.R_lt (q_r (HO445.out))) k_ hn_)), Or.elim hk_ (fun hs_ => Or.elim hs_ (fun hs_ => ((Kd.R_types (Kd.R_types (Kd.R_types (Kd.R_apart' (HO436.out) (Kd.N_typed HO454.out) (by decide)) BK441.out (by decide)) BK449.out (by decide)) BK455.out (by decide)).1 k_ hs_.symm).1.1.1.1.2.2) (fun hs_ => ((Kd.R_types (Kd.R_types (Kd.R_types (Kd.R_apart' (HO439.out) (Kd.N_typed HO454.out) (by decide)) BK441.out (by decide)) BK449.out (by decide)) BK455.out (by decide)).1 k_ hs_.symm).1.1.1.1.2.2)) (fun hn_ => (Kd.fresh' (Kd.R_lt (q_r (HO448.out))) k_ hn_)), Or.elim hk_ (fun hs_ => Or.elim hs_ (fun hs_ => ((Kd.R_types (Kd.R_types (Kd.R_types (Kd.R_apart' (HO436.out) (Kd.N_typed HO454.out) (by decide)) BK441.out (by decide)) BK449.out (by decide)) BK455.out (by decide)).1 k_ hs_.symm).1.1.1.2) (fun hs_ => ((Kd.R_types (Kd.R_types (Kd.R_types (Kd.R_apart' (HO439.out) (Kd.N_typed HO454.out) (by decide)) BK441.out (by decide)) BK449.out (by decide)) BK455.out (by decide)).1 k_ hs_.symm).1.1.1.2)) (fun hn_ => (Kd.fresh' (Kd.N_lt (by (with_reducible repeat (first | apply Kd.N_alloc | apply Kd.N_drewN | apply Kd.N_drew)); exact HO454.out)) k_ hn_)), Or.elim hk_ (fun hs_ => Or.elim hs_ (fun hs_ => ((Kd.R_types (Kd.R_types (Kd.R_types (Kd.R_apart' (HO436.out) (Kd.N_typed HO454.out) (by decide)) BK441.out (by decide)) BK449.out (by decide)) BK455.out (by decide)).1 k_ hs_.symm).1.1.2) (fun hs_ => ((Kd.R_types (Kd.R_types (Kd.R_types (Kd.R_apart' (HO439.out) (Kd.N_typed HO454.out) (by decide)) BK441.out (by decide)) BK449.out (by decide)) BK455.out (by decide)).1 k_ hs_.symm).1.1.2)) (fun hn_ => (Kd.freshB (q_b BK441.out) k_ hn_)), Or.elim hk_ (fun hs_ => Or.elim hs_ (fun hs_ => ((Kd.R_types (Kd.R_types (Kd.R_types (Kd.R_apart' (HO436.out) (Kd.N_typed HO454.out) (by decide)) BK441.out (by decide)) BK449.out (by decide)) BK455.out (by decide)).1 k_ hs_.symm).1.2) (fun hs_ => ((Kd.R_types (Kd.R_types (Kd.R_types (Kd.R_apart' (HO439.out) (Kd.N_typed HO454.out) (by decide)) BK441.out (by decide)) BK449.out (by decide)) BK455.out (by decide)).1 k_ hs_.symm).1.2)) (fun hn_ => (Kd.freshB (q_b BK449.out) k_ hn_)), Or.elim hk_ (fun hs_ => Or.elim hs_ (fun hs_ => ((Kd.R_types (Kd.R_types (Kd.R_types (Kd.R_apart' (HO436.out) (Kd.N_typed HO454.out) (by decide)) BK441.out (by decide)) BK449.out (by decide)) BK455.out (by decide)).1 k_ hs_.symm).2) (fun hs_ => ((Kd.R_types (Kd.R_types (Kd.R_types (Kd.R_apart' (HO439.out) (Kd.N_typed HO454.out) (by decide)) BK441.out (by decide)) BK449.out (by decide)) BK455.out (by decide)).1 k_ hs_.symm).2)) (fun hn_ => (Kd.freshB (q_b BK455.out) k_ hn_))⟩)) (below_size bq)); have n6_ := Aside0.mk (blk_below (q_b BK441.out) hb); have n7_ := Aside0.mk (blk_below (q_b BK449.out) hb); have n8_ := Aside0.mk (blk_below (q_b BK455.out) hb); have n9_ := Aside0.mk (below_step bq hb); revert n0_ n1_ n2_ n3_ n4_ n5_ n6_ n7_ n8_ n9_; clear HO436 HO439 HO445 HO448 HO454 BK441 BK449 BK455 HB; intro HO436 HO439 HO445 HO448 HO454 HO460 BK441 BK449 BK455 HB; (try clear hb); (try clear hb2); (try clear hk); (try clear hi); (try clear ho0)) | ((with_reducible refine gate_dst (N := 7) rfl ?_); (try (refine gate_guard (by rfl) ?_; dsimp only)); refine q_box (N := 7) (cs := #[.int .i64 0, .int .i64 0, .slice none 0 0]) (t := 43) ?_; intro gb461 hg w44 hbox hb; have n0_ := Aside0.mk (Kd.R_below (q_r (HO436.out)) hb); have n1_ := Aside0.mk (Kd.R_below (q_r (HO439.out)) hb); have n2_ := Aside0.mk (Kd.R_below (q_r (HO445.out)) hb); have n3_ := Aside0.mk (Kd.R_below (q_r (HO448.out)) hb); have n4_ := Aside0.mk (Kd.N_below (Kd.N_elderB (by (with_reducible repeat (first | apply Kd.N_alloc | apply Kd.N_drewN | apply Kd.N_drew)); exact HO454.out) gb461 (Nat.le_of_eq hg.symm)) hb); have n5_ := Aside0.mk (Kd.N_below (Kd.N_elderB (by (with_reducible repeat (first | apply Kd.N_alloc | apply Kd.N_drewN | apply Kd.N_drew)); exact HO460.out) gb461 (Nat.le_of_eq hg.symm)) hb); have n6_ := Aside0.mk (blk_below (q_b BK441.out) hb); have n7_ := Aside0.mk (blk_below (q_b BK449.out) hb); have n8_ := Aside0.mk (blk_below (q_b BK455.out) hb); have n9_ := Aside0.mk (below_step bq hb); have n10_ := Aside0.mk (hbox); have n11_ := Aside0.mk ((q_g hg bq : w.heap.size ≤ gb461)); have n12_ := Aside0.mk ((q_g hg bq : w.heap.size ≤ gb461)); have n13_ := Aside0.mk ((q_n hg (q_b BK441.out) : gb441 ≠ gb461)); have n14_ := Aside0.mk ((q_m hg (q_b BK441.out) : gb461 ≠ gb441)); have n15_ := Aside0.mk ((q_n hg (q_b BK449.out) : gb449 ≠ gb461)); have n16_ := Aside0.mk ((q_m hg (q_b BK449.out) : gb461 ≠ gb449)); have n17_ := Aside0.mk ((q_n hg (q_b BK455.out) : gb455 ≠ gb461)); have n18_ := Aside0.mk ((q_m hg (q_b BK455.out) : gb461 ≠ gb455)); revert n0_ n1_ n2_ n3_ n4_ n5_ n6_ n7_ n8_ n9_ n10_ n11_ n12_ n13_ n14_ n15_ n16_ n17_ n18_; clear HO436 HO439 HO445 HO448 HO454 HO460 BK441 BK449 BK455 HB; intro HO436 HO439 HO445 HO448 HO454 HO460 BK441 BK449 BK455 HB BK461 GW461 GE461 NB441_461 NB461_441 NB449_461 NB461_449 NB455_461 NB461_455; clear hb hbox hg; have hnb45 := NB461_441.out; have hnc45 := NB441_461.out; have hnb46 := NB461_449.out; have hnc46 := NB449_461.out; have hnb47 := NB461_455.out; have hnc47 := NB455_461.out; obtain ⟨hcz48_0, hcz48_1, hcz48_2, hfz48_0, hfz48_1, hfz48_2⟩ := q_3 BK461.out; obtain ⟨Ao49, co49, eo49⟩ := Kd.N_slice HO460.out; subst eo49) | ((with_reducible refine gate_store (t := 43) (p := 7) rfl ?_); refine store_event (t := 43) (p := 7) (v := ?vo_w50) (w1 := (((w44.setCell ⟨gb461, 0, none⟩ (.int .i64 t456)).setCell ⟨gb461, 1, none⟩ (.int .i64 t457)).setCell ⟨gb461, 2, none⟩ (.slice Ao49 t458.length co49))) ?hg ?ho ?hn ?hr ?_; (case ho => rfl); (case hg => rfl); (case hn => rfl); (case hr => first | (go_simp; done) | (go_simp; rfl)); intro w50 hw; have n0_ : Aside0 (Kd.R (Kd.int .u8) 5 w50 w.heap.size (fun k_ => some k_ ≠ (.slice Ao23 t437.length co23 : Value).ownBlock ∧ some k_ ≠ (.slice Ao30 t443.length co30 : Value).ownBlock ∧ some k_ ≠ (.slice Ao31 t446.length co31 : Value).ownBlock) (.slice Ao21 t434.length co21) t434) := ⟨(by rw [hw]; exact (by (with_reducible repeat (first | apply Kd.R_alloc | apply Kd.R_drewN | apply Kd.R_drew)); exact Kd.R_mono (Kd.R_far (p := ⟨gb461, 2, none⟩) (Kd.R_far (p := ⟨gb461, 1, none⟩) (Kd.R_far (p := ⟨gb461, 0, none⟩) (Kd.R_types HO436.out BK461.out (by decide)) (fun _ hk => hk.2) (.int .i64 t456)) (fun _ hk => hk.2) (.int .i64 t457)) (fun _ hk => hk.2) (.slice Ao49 t458.length co49)) (fun _ hk => ⟨hk.1.1, ⟨hk.1.2.1, hk.1.2.2⟩⟩)))⟩; have n1_ : Aside0 (Kd.R (Kd.int .u8) 5 w50 w.heap.size (fun k_ => some k_ ≠ (.slice Ao21 t434.length co21 : Value).ownBlock ∧ some k_ ≠ (.slice Ao30 t443.length co30 : Value).ownBlock ∧ some k_ ≠ (.slice Ao31 t446.length co31 : Value).ownBlock) (.slice Ao23 t437.length co23) t437) := ⟨(by rw [hw]; exact (by (with_reducible repeat (first | apply Kd.R_alloc | apply Kd.R_drewN | apply Kd.R_drew)); exact Kd.R_mono (Kd.R_far (p := ⟨gb461, 2, none⟩) (Kd.R_far (p := ⟨gb461, 1, none⟩) (Kd.R_far (p := ⟨gb461, 0, none⟩) (Kd.R_types HO439.out BK461.out (by decide)) (fun _ hk => hk.2) (.int .i64 t456)) (fun _ hk => hk.2) (.int .i64 t457)) (fun _ hk => hk.2) (.slice Ao49 t458.length co49)) (fun _ hk => ⟨hk.1.1, ⟨hk.1.2.1, hk.1.2.2⟩⟩)))⟩; have n2_ : Aside0 (Kd.R (Kd.int .u8) 5 w50 w.heap.size (fun k_ => some k_ ≠ (.slice Ao21 t434.length co21 : Value).ownBlock ∧ some k_ ≠ (.slice Ao23 t437.length co23 : Value).ownBlock ∧ some k_ ≠ (.slice Ao31 t446.length co31 : Value).ownBlock) (.slice Ao30 t443.length co30) t443) := ⟨(by rw [hw]; exact (by (with_reducible repeat (first | apply Kd.R_alloc | apply Kd.R_drewN | apply Kd.R_drew)); exact Kd.R_mono (Kd.R_far (p := ⟨gb461, 2, none⟩) (Kd.R_far (p := ⟨gb461, 1, none⟩) (Kd.R_far (p := ⟨gb461, 0, none⟩) (Kd.R_types HO445.out BK461.out (by decide)) (fun _ hk => hk.2) (.int .i64 t456)) (fun _ hk => hk.2) (.int .i64 t457)) (fun _ hk => hk.2) (.slice Ao49 t458.length co49)) (fun _ hk => ⟨hk.1.1, ⟨hk.1.2.1, hk.1.2.2⟩⟩)))⟩; have n3_ : Aside0 (Kd.R (Kd.int .u8) 5 w50 w.heap.size (fun k_ => some k_ ≠ (.slice Ao21 t434.length co21 : Value).ownBlock ∧ some k_ ≠ (.slice Ao23 t437.length co23 : Value).ownBlock ∧ some k_ ≠ (.slice Ao30 t443.length co30 : Value).ownBlock) (.slice Ao31 t446.length co31) t446) := ⟨(by rw [hw]; exact (by (with_reducible repeat (first | apply Kd.R_alloc | apply Kd.R_drewN | apply Kd.R_drew)); exact Kd.R_mono (Kd.R_far (p := ⟨gb461, 2, none⟩) (Kd.R_far (p := ⟨gb461, 1, none⟩) (Kd.R_far (p := ⟨gb461, 0, none⟩) (Kd.R_types HO448.out BK461.out (by decide)) (fun _ hk => hk.2) (.int .i64 t456)) (fun _ hk => hk.2) (.int .i64 t457)) (fun _ hk => hk.2) (.slice Ao49 t458.length co49)) (fun _ hk => ⟨hk.1.1, ⟨hk.1.2.1, hk.1.2.2⟩⟩)))⟩; have n4_ : Aside0 (Kd.N (Kd.slice 5 (Kd.int .u8)) 22 w50 w.heap.size (fun k_ => some k_ ≠ (.slice Ao23 t437.length co23 : Value).ownBlock ∧ some k_ ≠ (.slice Ao30 t443.length co30 : Value).ownBlock ∧ some k_ ≠ (.slice Ao31 t446.length co31 : Value).ownBlock ∧ some k_ ≠ (.slice Ao49 t458.length co49 : Value).ownBlock ∧ k_ ≠ gb441 ∧ k_ ≠ gb449 ∧ k_ ≠ gb455 ∧ k_ ≠ gb461) (.slice Ao40 t452.length co40) t452) := ⟨(by rw [hw]; exact (by (with_reducible repeat (first | apply Kd.N_alloc | apply Kd.N_drewN | apply Kd.N_drew)); exact Kd.N_mono (Kd.N_far (p := ⟨gb461, 2, none⟩) (Kd.N_far (p := ⟨gb461, 1, none⟩) (Kd.N_far (p := ⟨gb461, 0, none⟩) (Kd.N_mono HO454.out (fun k_ hk => (⟨hk, hk.2⟩ : _ ∧ k_ ≠ gb461))) (fun _ hk => hk.2) (.int .i64 t456)) (fun _ hk => hk.2) (.int .i64 t457)) (fun _ hk => hk.2) (.slice Ao49 t458.length co49)) (fun _ hk => ⟨hk.1.1.1.1, ⟨hk.1.1.1.2.1, ⟨hk.1.1.1.2.2.1, ⟨hk.1.1.2, ⟨hk.1.1.1.2.2.2.1, ⟨hk.1.1.1.2.2.2.2.1, ⟨hk.1.1.1.2.2.2.2.2, hk.1.2⟩⟩⟩⟩⟩⟩⟩)))⟩; have n5_ : Aside0 (Kd.N (Kd.slice 5 (Kd.int .u8)) 22 w50 w.heap.size (fun k_ => some k_ ≠ (.slice Ao30 t443.length co30 : Value).ownBlock ∧ some k_ ≠ (.slice Ao31 t446.length co31 : Value).ownBlock ∧ some k_ ≠ (.slice Ao40 t452.length co40 : Value).ownBlock ∧ k_ ≠ gb441 ∧ k_ ≠ gb449 ∧ k_ ≠ gb455 ∧ k_ ≠ gb461) (.slice Ao49 t458.length co49) t458) := ⟨(by rw [hw]; exact (by (with_reducible repeat (first | apply Kd.N_alloc | apply Kd.N_drewN | apply Kd.N_drew)); exact Kd.N_mono (Kd.N_far (p := ⟨gb461, 2, none⟩) (Kd.N_far (p := ⟨gb461, 1, none⟩) (Kd.N_far (p := ⟨gb461, 0, none⟩) (Kd.N_mono HO460.out (fun k_ hk => (⟨hk, hk.2⟩ : _ ∧ k_ ≠ gb461))) (fun _ hk => hk.2) (.int .i64 t456)) (fun _ hk => hk.2) (.int .i64 t457)) (fun _ hk => hk.2) (.slice Ao49 t458.length co49)) (fun _ hk => ⟨hk.1.1.1, ⟨hk.1.1.2.1, ⟨hk.1.1.2.2.1, ⟨hk.1.1.2.2.2.1, ⟨hk.1.1.2.2.2.2.1, ⟨hk.1.1.2.2.2.2.2, hk.1.2⟩⟩⟩⟩⟩⟩)))⟩; have n6_ : Aside0 (w50.heap[gb441]? = some (.cells #[.slice Ao21 t434.length co21, .slice Ao23 t437.length co23] 27 (0, 0))) := ⟨(by rw [hw]; exact (by (with_reducible repeat (first | refine blk_drewN ?_ _ | refine blk_drew ?_ | refine blk_alloc ?_ _)); refine blk_far ?_ NB441_461.out _; (with_reducible repeat (first | refine blk_drewN ?_ _ | refine blk_drew ?_ | refine blk_alloc ?_ _)); refine blk_far ?_ NB441_461.out _; (with_reducible repeat (first | refine blk_drewN ?_ _ | refine blk_drew ?_ | refine blk_alloc ?_ _)); refine blk_far ?_ NB441_461.out _; (with_reducible repeat (first | refine blk_drewN ?_ _ | refine blk_drew ?_ | refine blk_alloc ?_ _)); exact BK441.out))⟩; have n7_ : Aside0 (w50.heap[gb449]? = some (.cells #[.int .i64 t442, .slice Ao30 t443.length co30, .slice Ao31 t446.length co31] 46 (0, 0))) := ⟨(by rw [hw]; exact (by (with_reducible repeat (first | refine blk_drewN ?_ _ | refine blk_drew ?_ | refine blk_alloc ?_ _)); refine blk_far ?_ NB449_461.out _; (with_reducible repeat (first | refine blk_drewN ?_ _ | refine blk_drew ?_ | refine blk_alloc ?_ _)); refine blk_far ?_ NB449_461.out _; (with_reducible repeat (first | refine blk_drewN ?_ _ | refine blk_drew ?_ | refine blk_alloc ?_ _)); refine blk_far ?_ NB449_461.out _; (with_reducible repeat (first | refine blk_drewN ?_ _ | refine blk_drew ?_ | refine blk_alloc ?_ _)); exact BK449.out))⟩; have n8_ : Aside0 (w50.heap[gb455]? = some (.cells #[.int .i64 t450, .int .i64 t451, .slice Ao40 t452.length co40] 43 (0, 0))) := ⟨(by rw [hw]; exact (by (with_reducible repeat (first | refine blk_drewN ?_ _ | refine blk_drew ?_ | refine blk_alloc ?_ _)); refine blk_far ?_ NB455_461.out _; (with_reducible repeat (first | refine blk_drewN ?_ _ | refine blk_drew ?_ | refine blk_alloc ?_ _)); refine blk_far ?_ NB455_461.out _; (with_reducible repeat (first | refine blk_drewN ?_ _ | refine blk_drew ?_ | refine blk_alloc ?_ _)); refine blk_far ?_ NB455_461.out _; (with_reducible repeat (first | refine blk_drewN ?_ _ | refine blk_drew ?_ | refine blk_alloc ?_ _)); exact BK455.out))⟩; have n9_ : Aside0 (w50.heap[gb461]? = some (.cells #[.int .i64 t456, .int .i64 t457, .slice Ao49 t458.length co49] 43 (0, 0))) := ⟨(by rw [hw]; exact (by (with_reducible repeat (first | refine blk_drewN ?_ _ | refine blk_drew ?_ | refine blk_alloc ?_ _)); refine blk_put (cs := #[.int .i64 t456, .int .i64 t457, .slice none 0 0]) ?_ 2 _ rfl; (with_reducible repeat (first | refine blk_drewN ?_ _ | refine blk_drew ?_ | refine blk_alloc ?_ _)); refine blk_put (cs := #[.int .i64 t456, .int .i64 0, .slice none 0 0]) ?_ 1 _ rfl; (with_reducible repeat (first | refine blk_drewN ?_ _ | refine blk_drew ?_ | refine blk_alloc ?_ _)); refine blk_put (cs := #[.int .i64 0, .int .i64 0, .slice none 0 0]) ?_ 0 _ rfl; (with_reducible repeat (first | refine blk_drewN ?_ _ | refine blk_drew ?_ | refine blk_alloc ?_ _)); exact BK461.out))⟩; have n10_ : Aside0 (Below w.heap.size w w50) := ⟨(by rw [hw]; exact bq)⟩; revert n0_ n1_ n2_ n3_ n4_ n5_ n6_ n7_ n8_ n9_ n10_; clear hw HO436 HO439 HO445 HO448 HO454 HO460 BK441 BK449 BK455 BK461 HB; intro HO436 HO439 HO445 HO448 HO454 HO460 BK441 BK449 BK455 BK461 HB; obtain ⟨hcz51_0, hcz51_1, hcz51_2, hfz51_0, hfz51_1, hfz51_2⟩ := q_3 BK449.out) | ((with_reducible refine gate_callee (f := 48) rfl ?_); refine goesLq (some 39) rfl rfl Try.func48 (by kernel_rfl) rfl #[.agg #[.slice Ao30 t443.length co30, .slice Ao31 t446.length co31]] rfl ?_; (with_reducible refine (impl_ReadLog.calls k (fun k_ => some k_ = (.slice Ao30 t443.length co30 : Value).ownBlock) _ _ t443 (fun k_ => some k_ = (.slice Ao31 t446.length co31 : Value).ownBlock) _ _ t446 t462 t463 t464 _ ?side1 ?side2 A9.out).mono ?_); (case side1 => exact Kd.R_V (Kd.R_tight rfl (Kd.R_types (Kd.R_types (Kd.R_types (Kd.R_types (Kd.R_apart' (Kd.R_apart' (HO445.out) (Kd.N_typed HO454.out) (by decide)) (Kd.N_typed HO460.out) (by decide)) BK441.out (by decide)) BK449.out (by decide)) BK455.out (by decide)) BK461.out (by decide)))); (case side2 => exact Kd.R_V (Kd.R_tight rfl (Kd.R_types (Kd.R_types (Kd.R_types (Kd.R_types (Kd.R_apart' (Kd.R_apart' (HO448.out) (Kd.N_typed HO454.out) (by decide)) (Kd.N_typed HO460.out) (by decide)) BK441.out (by decide)) BK449.out (by decide)) BK455.out (by decide)) BK461.out (by decide)))); rintro e w52 ⟨v465, rfl, ho0, hb⟩; refine ⟨_, rfl, ?_⟩; have n0_ := Aside0.mk (Kd.R_below (q_r (HO436.out)) hb); have n1_ := Aside0.mk (Kd.R_below (q_r (HO439.out)) hb); have n2_ := Aside0.mk (Kd.R_below (q_r (HO445.out)) hb); have n3_ := Aside0.mk (Kd.R_below (q_r (HO448.out)) hb); have n4_ := Aside0.mk (Kd.N_elder' (by (with_reducible repeat (first | apply Kd.N_alloc | apply Kd.N_drewN | apply Kd.N_drew)); exact HO454.out) (by first | exact Kd.N_base ho0 | exact Kd.R_base (Kd.S_R ho0)) hb); have n5_ := Aside0.mk (Kd.N_elder' (by (with_reducible repeat (first | apply Kd.N_alloc | apply Kd.N_drewN | apply Kd.N_drew)); exact HO460.out) (by first | exact Kd.N_base ho0 | exact Kd.R_base (Kd.S_R ho0)) hb); have n6_ := Aside0.mk (Kd.N_lower (Kd.N_mono (ok' := fun k_ => some k_ ≠ (.slice Ao21 t434.length co21 : Value).ownBlock ∧ some k_ ≠ (.slice Ao23 t437.length co23 : Value).ownBlock ∧ some k_ ≠ (.slice Ao40 t452.length co40 : Value).ownBlock ∧ some k_ ≠ (.slice Ao49 t458.length co49 : Value).ownBlock ∧ k_ ≠ gb441 ∧ k_ ≠ gb449 ∧ k_ ≠ gb455 ∧ k_ ≠ gb461) ho0 (fun k_ hk_ => ⟨Or.elim hk_ (fun hs_ => Or.elim hs_ (fun hs_ => ((Kd.R_types (Kd.R_types (Kd.R_types (Kd.R_types (Kd.R_apart' (Kd.R_apart' (HO445.out) (Kd.N_typed HO454.out) (by decide)) (Kd.N_typed HO460.out) (by decide)) BK441.out (by decide)) BK449.out (by decide)) BK455.out (by decide)) BK461.out (by decide)).1 k_ hs_.symm).1.1.1.1.1.1.1) (fun hs_ => ((Kd.R_types (Kd.R_types (Kd.R_types (Kd.R_types (Kd.R_apart' (Kd.R_apart' (HO448.out) (Kd.N_typed HO454.out) (by decide)) (Kd.N_typed HO460.out) (by decide)) BK441.out (by decide)) BK449.out (by decide)) BK455.out (by decide)) BK461.out (by decide)).1 k_ hs_.symm).1.1.1.1.1.1.1)) (fun hn_ => (Kd.fresh' (Kd.R_lt (q_r (HO436.out))) k_ hn_)), Or.elim hk_ (fun hs_ => Or.elim hs_ (fun hs_ => ((Kd.R_types (Kd.R_types (Kd.R_types (Kd.R_types (Kd.R_apart' (Kd.R_apart' (HO445.out) (Kd.N_typed HO454.out) (by decide)) (Kd.N_typed HO460.out) (by decide)) BK441.out (by decide)) BK449.out (by decide)) BK455.out (by decide)) BK461.out (by decide)).1 k_ hs_.symm).1.1.1.1.1.1.2.1) (fun hs_ => ((Kd.R_types (Kd.R_types (Kd.R_types (Kd.R_types (Kd.R_apart' (Kd.R_apart' (HO448.out) (Kd.N_typed HO454.out) (by decide)) (Kd.N_typed HO460.out) (by decide)) BK441.out (by decide)) BK449.out (by decide)) BK455.out (by decide)) BK461.out (by decide)).1 k_ hs_.symm).1.1.1.1.1.1.2.1)) (fun hn_ => (Kd.fresh' (Kd.R_lt (q_r (HO439.out))) k_ hn_)), Or.elim hk_ (fun hs_ => Or.elim hs_ (fun hs_ => ((Kd.R_types (Kd.R_types (Kd.R_types (Kd.R_types (Kd.R_apart' (Kd.R_apart' (HO445.out) (Kd.N_typed HO454.out) (by decide)) (Kd.N_typed HO460.out) (by decide)) BK441.out (by decide)) BK449.out (by decide)) BK455.out (by decide)) BK461.out (by decide)).1 k_ hs_.symm).1.1.1.1.1.2) (fun hs_ => ((Kd.R_types (Kd.R_types (Kd.R_types (Kd.R_types (Kd.R_apart' (Kd.R_apart' (HO448.out) (Kd.N_typed HO454.out) (by decide)) (Kd.N_typed HO460.out) (by decide)) BK441.out (by decide)) BK449.out (by decide)) BK455.out (by decide)) BK461.out (by decide)).1 k_ hs_.symm).1.1.1.1.1.2)) (fun hn_ => (Kd.fresh' (Kd.N_lt (by (with_reducible repeat (first | apply Kd.N_alloc | apply Kd.N_drewN | apply Kd.N_drew)); exact HO454.out)) k_ hn_)), Or.elim hk_ (fun hs_ => Or.elim hs_ (fun hs_ => ((Kd.R_types (Kd.R_types (Kd.R_types (Kd.R_types (Kd.R_apart' (Kd.R_apart' (HO445.out) (Kd.N_typed HO454.out) (by decide)) (Kd.N_typed HO460.out) (by decide)) BK441.out (by decide)) BK449.out (by decide)) BK455.out (by decide)) BK461.out (by decide)).1 k_ hs_.symm).1.1.1.1.2) (fun hs_ => ((Kd.R_types (Kd.R_types (Kd.R_types (Kd.R_types (Kd.R_apart' (Kd.R_apart' (HO448.out) (Kd.N_typed HO454.out) (by decide)) (Kd.N_typed HO460.out) (by decide)) BK441.out (by decide)) BK449.out (by decide)) BK455.out (by decide)) BK461.out (by decide)).1 k_ hs_.symm).1.1.1.1.2)) (fun hn_ => (Kd.fresh' (Kd.N_lt (by (with_reducible repeat (first | apply Kd.N_alloc | apply Kd.N_drewN | apply Kd.N_drew)); exact HO460.out)) k_ hn_)), Or.elim hk_ (fun hs_ => Or.elim hs_ (fun hs_ => ((Kd.R_types (Kd.R_types (Kd.R_types (Kd.R_types (Kd.R_apart' (Kd.R_apart' (HO445.out) (Kd.N_typed HO454.out) (by decide)) (Kd.N_typed HO460.out) (by decide)) BK441.out (by decide)) BK449.out (by decide)) BK455.out (by decide)) BK461.out (by decide)).1 k_ hs_.symm).1.1.1.2) (fun hs_ => ((Kd.R_types (Kd.R_types (Kd.R_types (Kd.R_types (Kd.R_apart' (Kd.R_apart' (HO448.out) (Kd.N_typed HO454.out) (by decide)) (Kd.N_typed HO460.out) (by decide)) BK441.out (by decide)) BK449.out (by decide)) BK455.out (by decide)) BK461.out (by decide)).1 k_ hs_.symm).1.1.1.2)) (fun hn_ => (Kd.freshB (q_b BK441.out) k_ hn_)), Or.elim hk_ (fun hs_ => Or.elim hs_ (fun hs_ => ((Kd.R_types (Kd.R_types (Kd.R_types (Kd.R_types (Kd.R_apart' (Kd.R_apart' (HO445.out) (Kd.N_typed HO454.out) (by decide)) (Kd.N_typed HO460.out) (by decide)) BK441.out (by decide)) BK449.out (by decide)) BK455.out (by decide)) BK461.out (by decide)).1 k_ hs_.symm).1.1.2) (fun hs_ => ((Kd.R_types (Kd.R_types (Kd.R_types (Kd.R_types (Kd.R_apart' (Kd.R_apart' (HO448.out) (Kd.N_typed HO454.out) (by decide)) (Kd.N_typed HO460.out) (by decide)) BK441.out (by decide)) BK449.out (by decide)) BK455.out (by decide)) BK461.out (by decide)).1 k_ hs_.symm).1.1.2)) (fun hn_ => (Kd.freshB (q_b BK449.out) k_ hn_)), Or.elim hk_ (fun hs_ => Or.elim hs_ (fun hs_ => ((Kd.R_types (Kd.R_types (Kd.R_types (Kd.R_types (Kd.R_apart' (Kd.R_apart' (HO445.out) (Kd.N_typed HO454.out) (by decide)) (Kd.N_typed HO460.out) (by decide)) BK441.out (by decide)) BK449.out (by decide)) BK455.out (by decide)) BK461.out (by decide)).1 k_ hs_.symm).1.2) (fun hs_ => ((Kd.R_types (Kd.R_types (Kd.R_types (Kd.R_types (Kd.R_apart' (Kd.R_apart' (HO448.out) (Kd.N_typed HO454.out) (by decide)) (Kd.N_typed HO460.out) (by decide)) BK441.out (by decide)) BK449.out (by decide)) BK455.out (by decide)) BK461.out (by decide)).1 k_ hs_.symm).1.2)) (fun hn_ => (Kd.freshB (q_b BK455.out) k_ hn_)), Or.elim hk_ (fun hs_ => Or.elim hs_ (fun hs_ => ((Kd.R_types (Kd.R_types (Kd.R_types (Kd.R_types (Kd.R_apart' (Kd.R_apart' (HO445.out) (Kd.N_typed HO454.out) (by decide)) (Kd.N_typed HO460.out) (by decide)) BK441.out (by decide)) BK449.out (by decide)) BK455.out (by decide)) BK461.out (by decide)).1 k_ hs_.symm).2) (fun hs_ => ((Kd.R_types (Kd.R_types (Kd.R_types (Kd.R_types (Kd.R_apart' (Kd.R_apart' (HO448.out) (Kd.N_typed HO454.out) (by decide)) (Kd.N_typed HO460.out) (by decide)) BK441.out (by decide)) BK449.out (by decide)) BK455.out (by decide)) BK461.out (by decide)).1 k_ hs_.symm).2)) (fun hn_ => (Kd.freshB (q_b BK461.out) k_ hn_))⟩)) (below_size bq)); have n7_ := Aside0.mk (blk_below (q_b BK441.out) hb); have n8_ := Aside0.mk (blk_below (q_b BK449.out) hb); have n9_ := Aside0.mk (blk_below (q_b BK455.out) hb); have n10_ := Aside0.mk (blk_below (q_b BK461.out) hb); have n11_ := Aside0.mk (below_step bq hb); revert n0_ n1_ n2_ n3_ n4_ n5_ n6_ n7_ n8_ n9_ n10_ n11_; clear HO436 HO439 HO445 HO448 HO454 HO460 BK441 BK449 BK455 BK461 HB; intro HO436 HO439 HO445 HO448 HO454 HO460 HO466 BK441 BK449 BK455 BK461 HB; (try clear hb); (try clear hb2); (try clear hk); (try clear hi); (try clear ho0)) | ((with_reducible refine gate_dst (N := 8) rfl ?_); (try (refine gate_guard (by rfl) ?_; dsimp only)); refine q_box (N := 8) (cs := #[.int .i64 0, .int .i64 0, .slice none 0 0]) (t := 43) ?_; intro gb467 hg w53 hbox hb; have n0_ := Aside0.mk (Kd.R_below (q_r (HO436.out)) hb); have n1_ := Aside0.mk (Kd.R_below (q_r (HO439.out)) hb); have n2_ := Aside0.mk (Kd.R_below (q_r (HO445.out)) hb); have n3_ := Aside0.mk (Kd.R_below (q_r (HO448.out)) hb); have n4_ := Aside0.mk (Kd.N_below (Kd.N_elderB (by (with_reducible repeat (first | apply Kd.N_alloc | apply Kd.N_drewN | apply Kd.N_drew)); exact HO454.out) gb467 (Nat.le_of_eq hg.symm)) hb); have n5_ := Aside0.mk (Kd.N_below (Kd.N_elderB (by (with_reducible repeat (first | apply Kd.N_alloc | apply Kd.N_drewN | apply Kd.N_drew)); exact HO460.out) gb467 (Nat.le_of_eq hg.symm)) hb); have n6_ := Aside0.mk (Kd.N_below (Kd.N_elderB (by (with_reducible repeat (first | apply Kd.N_alloc | apply Kd.N_drewN | apply Kd.N_drew)); exact HO466.out) gb467 (Nat.le_of_eq hg.symm)) hb); have n7_ := Aside0.mk (blk_below (q_b BK441.out) hb); have n8_ := Aside0.mk (blk_below (q_b BK449.out) hb); have n9_ := Aside0.mk (blk_below (q_b BK455.out) hb); have n10_ := Aside0.mk (blk_below (q_b BK461.out) hb); have n11_ := Aside0.mk (below_step bq hb); have n12_ := Aside0.mk (hbox); have n13_ := Aside0.mk ((q_g hg bq : w.heap.size ≤ gb467)); have n14_ := Aside0.mk ((q_g hg bq : w.heap.size ≤ gb467)); have n15_ := Aside0.mk ((q_n hg (q_b BK441.out) : gb441 ≠ gb467)); have n16_ := Aside0.mk ((q_m hg (q_b BK441.out) : gb467 ≠ gb441)); have n17_ := Aside0.mk ((q_n hg (q_b BK449.out) : gb449 ≠ gb467)); have n18_ := Aside0.mk ((q_m hg (q_b BK449.out) : gb467 ≠ gb449)); have n19_ := Aside0.mk ((q_n hg (q_b BK455.out) : gb455 ≠ gb467)); have n20_ := Aside0.mk ((q_m hg (q_b BK455.out) : gb467 ≠ gb455)); have n21_ := Aside0.mk ((q_n hg (q_b BK461.out) : gb461 ≠ gb467)); have n22_ := Aside0.mk ((q_m hg (q_b BK461.out) : gb467 ≠ gb461)); revert n0_ n1_ n2_ n3_ n4_ n5_ n6_ n7_ n8_ n9_ n10_ n11_ n12_ n13_ n14_ n15_ n16_ n17_ n18_ n19_ n20_ n21_ n22_; clear HO436 HO439 HO445 HO448 HO454 HO460 HO466 BK441 BK449 BK455 BK461 HB; intro HO436 HO439 HO445 HO448 HO454 HO460 HO466 BK441 BK449 BK455 BK461 HB BK467 GW467 GE467 NB441_467 NB467_441 NB449_467 NB467_449 NB455_467 NB467_455 NB461_467 NB467_461; clear hb hbox hg; have hnb54 := NB467_441.out; have hnc54 := NB441_467.out; have hnb55 := NB467_449.out; have hnc55 := NB449_467.out; have hnb56 := NB467_455.out; have hnc56 := NB455_467.out; have hnb57 := NB467_461.out; have hnc57 := NB461_467.out; obtain ⟨hcz58_0, hcz58_1, hcz58_2, hfz58_0, hfz58_1, hfz58_2⟩ := q_3 BK467.out; obtain ⟨Ao59, co59, eo59⟩ := Kd.N_slice HO466.out; subst eo59; obtain ⟨hcz60_0, hcz60_1, hcz60_2, hfz60_0, hfz60_1, hfz60_2⟩ := q_3 BK449.out) | ((with_reducible refine gate_callee (f := 44) rfl ?_); refine goesLq (some 42) rfl rfl Try.func44 (by kernel_rfl) rfl #[.agg #[.slice Ao30 t443.length co30, .slice Ao31 t446.length co31]] rfl ?_; (with_reducible refine (impl_TrimLog.calls k _ _ t443 _ _ t446 t468 t469 t472 _ ?side1 ?side2 ?side3 ?side4 A10.out).mono ?_); (case side1 => refine (Kd.R_reads' (e := 5) (base := w.heap.size) (ok := fun k_ => (some k_ ≠ (.slice Ao21 t434.length co21 : Value).ownBlock ∧ (some k_ ≠ (.slice Ao23 t437.length co23 : Value).ownBlock ∧ some k_ ≠ (.slice Ao31 t446.length co31 : Value).ownBlock))) (n := t443.length) (c := co30) ?_).2.2; exact (by (with_reducible repeat (first | apply Kd.R_alloc | apply Kd.R_drewN | apply Kd.R_drew)); exact (Kd.R_mono (Kd.R_far (p := ⟨gb467, 2, none⟩) (Kd.R_far (p := ⟨gb467, 1, none⟩) (Kd.R_far (p := ⟨gb467, 0, none⟩) (Kd.R_types HO445.out BK467.out (by decide)) (fun _ hk => hk.2) (.int .i64 t462)) (fun _ hk => hk.2) (.int .i64 t463)) (fun _ hk => hk.2) (.slice Ao59 t464.length co59)) (fun _ h_ => h_.1)))); (case side2 => exact (Kd.R_reads' HO445.out).2.1); (case side3 => refine (Kd.R_reads' (e := 5) (base := w.heap.size) (ok := fun k_ => (some k_ ≠ (.slice Ao21 t434.length co21 : Value).ownBlock ∧ (some k_ ≠ (.slice Ao23 t437.length co23 : Value).ownBlock ∧ some k_ ≠ (.slice Ao30 t443.length co30 : Value).ownBlock))) (n := t446.length) (c := co31) ?_).2.2; exact (by (with_reducible repeat (first | apply Kd.R_alloc | apply Kd.R_drewN | apply Kd.R_drew)); exact (Kd.R_mono (Kd.R_far (p := ⟨gb467, 2, none⟩) (Kd.R_far (p := ⟨gb467, 1, none⟩) (Kd.R_far (p := ⟨gb467, 0, none⟩) (Kd.R_types HO448.out BK467.out (by decide)) (fun _ hk => hk.2) (.int .i64 t462)) (fun _ hk => hk.2) (.int .i64 t463)) (fun _ hk => hk.2) (.slice Ao59 t464.length co59)) (fun _ h_ => h_.1)))); (case side4 => exact (Kd.R_reads' HO448.out).2.1); rintro e w61 ⟨v470, v473, rfl, ho0, ho1, hb⟩; refine ⟨_, rfl, ?_⟩; have n0_ := Aside0.mk (Kd.R_mono (Kd.R_told (Kd.R_told (Kd.R_old (by (with_reducible repeat (first | apply Kd.R_alloc | apply Kd.R_drewN | apply Kd.R_drew)); exact (Kd.R_mono (Kd.R_far (p := ⟨gb467, 2, none⟩) (Kd.R_far (p := ⟨gb467, 1, none⟩) (Kd.R_far (p := ⟨gb467, 0, none⟩) (Kd.R_types HO436.out BK467.out (by decide)) (fun _ hk => hk.2) (.int .i64 t462)) (fun _ hk => hk.2) (.int .i64 t463)) (fun _ hk => hk.2) (.slice Ao59 t464.length co59)) (fun _ h_ => h_.1))) hb) (Kd.R_base ho0)) (Kd.R_base ho1)) (fun _ h_ => h_.1)); have n1_ := Aside0.mk (Kd.R_mono (Kd.R_told (Kd.R_told (Kd.R_old (by (with_reducible repeat (first | apply Kd.R_alloc | apply Kd.R_drewN | apply Kd.R_drew)); exact (Kd.R_mono (Kd.R_far (p := ⟨gb467, 2, none⟩) (Kd.R_far (p := ⟨gb467, 1, none⟩) (Kd.R_far (p := ⟨gb467, 0, none⟩) (Kd.R_types HO439.out BK467.out (by decide)) (fun _ hk => hk.2) (.int .i64 t462)) (fun _ hk => hk.2) (.int .i64 t463)) (fun _ hk => hk.2) (.slice Ao59 t464.length co59)) (fun _ h_ => h_.1))) hb) (Kd.R_base ho0)) (Kd.R_base ho1)) (fun _ h_ => h_.1)); have n2_ := Aside0.mk (Kd.R_mono (Kd.R_told (Kd.R_told (Kd.R_old (by (with_reducible repeat (first | apply Kd.R_alloc | apply Kd.R_drewN | apply Kd.R_drew)); exact (Kd.R_mono (Kd.R_far (p := ⟨gb467, 2, none⟩) (Kd.R_far (p := ⟨gb467, 1, none⟩) (Kd.R_far (p := ⟨gb467, 0, none⟩) (Kd.R_types HO445.out BK467.out (by decide)) (fun _ hk => hk.2) (.int .i64 t462)) (fun _ hk => hk.2) (.int .i64 t463)) (fun _ hk => hk.2) (.slice Ao59 t464.length co59)) (fun _ h_ => h_.1))) hb) (Kd.R_base ho0)) (Kd.R_base ho1)) (fun _ h_ => h_.1)); have n3_ := Aside0.mk (Kd.R_mono (Kd.R_told (Kd.R_told (Kd.R_old (by (with_reducible repeat (first | apply Kd.R_alloc | apply Kd.R_drewN | apply Kd.R_drew)); exact (Kd.R_mono (Kd.R_far (p := ⟨gb467, 2, none⟩) (Kd.R_far (p := ⟨gb467, 1, none⟩) (Kd.R_far (p := ⟨gb467, 0, none⟩) (Kd.R_types HO448.out BK467.out (by decide)) (fun _ hk => hk.2) (.int .i64 t462)) (fun _ hk => hk.2) (.int .i64 t463)) (fun _ hk => hk.2) (.slice Ao59 t464.length co59)) (fun _ h_ => h_.1))) hb) (Kd.R_base ho0)) (Kd.R_base ho1)) (fun _ h_ => h_.1)); have n4_ := Aside0.mk (Kd.N_mono (Kd.N_told (Kd.N_told (Kd.N_old (by (with_reducible repeat (first | apply Kd.N_alloc | apply Kd.N_drewN | apply Kd.N_drew)); exact (Kd.N_mono (Kd.N_far (p := ⟨gb467, 2, none⟩) (Kd.N_far (p := ⟨gb467, 1, none⟩) (Kd.N_far (p := ⟨gb467, 0, none⟩) (Kd.N_mono HO454.out (fun k_ hk => (⟨hk, hk.2⟩ : _ ∧ k_ ≠ gb467))) (fun _ hk => hk.2) (.int .i64 t462)) (fun _ hk => hk.2) (.int .i64 t463)) (fun _ hk => hk.2) (.slice Ao59 t464.length co59)) (fun _ h_ => h_.1))) hb) (Kd.R_base ho0)) (Kd.R_base ho1)) (fun _ h_ => h_.1)); have n5_ := Aside0.mk (Kd.N_mono (Kd.N_told (Kd.N_told (Kd.N_old (by (with_reducible repeat (first | apply Kd.N_alloc | apply Kd.N_drewN | apply Kd.N_drew)); exact (Kd.N_mono (Kd.N_far (p := ⟨gb467, 2, none⟩) (Kd.N_far (p := ⟨gb467, 1, none⟩) (Kd.N_far (p := ⟨gb467, 0, none⟩) (Kd.N_mono HO460.out (fun k_ hk => (⟨hk, hk.2⟩ : _ ∧ k_ ≠ gb467))) (fun _ hk => hk.2) (.int .i64 t462)) (fun _ hk => hk.2) (.int .i64 t463)) (fun _ hk => hk.2) (.slice Ao59 t464.length co59)) (fun _ h_ => h_.1))) hb) (Kd.R_base ho0)) (Kd.R_base ho1)) (fun _ h_ => h_.1)); have n6_ := Aside0.mk (Kd.N_mono (Kd.N_told (Kd.N_told (Kd.N_old (by (with_reducible repeat (first | apply Kd.N_alloc | apply Kd.N_drewN | apply Kd.N_drew)); exact (Kd.N_mono (Kd.N_far (p := ⟨gb467, 2, none⟩) (Kd.N_far (p := ⟨gb467, 1, none⟩) (Kd.N_far (p := ⟨gb467, 0, none⟩) (Kd.N_mono HO466.out (fun k_ hk => (⟨hk, hk.2⟩ : _ ∧ k_ ≠ gb467))) (fun _ hk => hk.2) (.int .i64 t462)) (fun _ hk => hk.2) (.int .i64 t463)) (fun _ hk => hk.2) (.slice Ao59 t464.length co59)) (fun _ h_ => h_.1))) hb) (Kd.R_base ho0)) (Kd.R_base ho1)) (fun _ h_ => h_.1)); have n7_ := Aside0.mk (Kd.R_lower (Kd.R_new' (Kd.R_new' (Kd.R_new' (Kd.R_new' ho0 (Kd.R_lt (by (with_reducible repeat (first | apply Kd.R_alloc | apply Kd.R_drewN | apply Kd.R_drew)); exact (Kd.R_mono (Kd.R_far (p := ⟨gb467, 2, none⟩) (Kd.R_far (p := ⟨gb467, 1, none⟩) (Kd.R_far (p := ⟨gb467, 0, none⟩) (Kd.R_types HO436.out BK467.out (by decide)) (fun _ hk => hk.2) (.int .i64 t462)) (fun _ hk => hk.2) (.int .i64 t463)) (fun _ hk => hk.2) (.slice Ao59 t464.length co59)) (fun _ h_ => h_.1))))) (Kd.R_lt (by (with_reducible repeat (first | apply Kd.R_alloc | apply Kd.R_drewN | apply Kd.R_drew)); exact (Kd.R_mono (Kd.R_far (p := ⟨gb467, 2, none⟩) (Kd.R_far (p := ⟨gb467, 1, none⟩) (Kd.R_far (p := ⟨gb467, 0, none⟩) (Kd.R_types HO439.out BK467.out (by decide)) (fun _ hk => hk.2) (.int .i64 t462)) (fun _ hk => hk.2) (.int .i64 t463)) (fun _ hk => hk.2) (.slice Ao59 t464.length co59)) (fun _ h_ => h_.1))))) (Kd.R_lt (by (with_reducible repeat (first | apply Kd.R_alloc | apply Kd.R_drewN | apply Kd.R_drew)); exact (Kd.R_mono (Kd.R_far (p := ⟨gb467, 2, none⟩) (Kd.R_far (p := ⟨gb467, 1, none⟩) (Kd.R_far (p := ⟨gb467, 0, none⟩) (Kd.R_types HO445.out BK467.out (by decide)) (fun _ hk => hk.2) (.int .i64 t462)) (fun _ hk => hk.2) (.int .i64 t463)) (fun _ hk => hk.2) (.slice Ao59 t464.length co59)) (fun _ h_ => h_.1))))) (Kd.R_lt (by (with_reducible repeat (first | apply Kd.R_alloc | apply Kd.R_drewN | apply Kd.R_drew)); exact (Kd.R_mono (Kd.R_far (p := ⟨gb467, 2, none⟩) (Kd.R_far (p := ⟨gb467, 1, none⟩) (Kd.R_far (p := ⟨gb467, 0, none⟩) (Kd.R_types HO448.out BK467.out (by decide)) (fun _ hk => hk.2) (.int .i64 t462)) (fun _ hk => hk.2) (.int .i64 t463)) (fun _ hk => hk.2) (.slice Ao59 t464.length co59)) (fun _ h_ => h_.1))))) (below_size bq)); have n8_ := Aside0.mk (Kd.R_lower (Kd.R_new' (Kd.R_new' (Kd.R_new' (Kd.R_new' ho1 (Kd.R_lt (by (with_reducible repeat (first | apply Kd.R_alloc | apply Kd.R_drewN | apply Kd.R_drew)); exact (Kd.R_mono (Kd.R_far (p := ⟨gb467, 2, none⟩) (Kd.R_far (p := ⟨gb467, 1, none⟩) (Kd.R_far (p := ⟨gb467, 0, none⟩) (Kd.R_types HO436.out BK467.out (by decide)) (fun _ hk => hk.2) (.int .i64 t462)) (fun _ hk => hk.2) (.int .i64 t463)) (fun _ hk => hk.2) (.slice Ao59 t464.length co59)) (fun _ h_ => h_.1))))) (Kd.R_lt (by (with_reducible repeat (first | apply Kd.R_alloc | apply Kd.R_drewN | apply Kd.R_drew)); exact (Kd.R_mono (Kd.R_far (p := ⟨gb467, 2, none⟩) (Kd.R_far (p := ⟨gb467, 1, none⟩) (Kd.R_far (p := ⟨gb467, 0, none⟩) (Kd.R_types HO439.out BK467.out (by decide)) (fun _ hk => hk.2) (.int .i64 t462)) (fun _ hk => hk.2) (.int .i64 t463)) (fun _ hk => hk.2) (.slice Ao59 t464.length co59)) (fun _ h_ => h_.1))))) (Kd.R_lt (by (with_reducible repeat (first | apply Kd.R_alloc | apply Kd.R_drewN | apply Kd.R_drew)); exact (Kd.R_mono (Kd.R_far (p := ⟨gb467, 2, none⟩) (Kd.R_far (p := ⟨gb467, 1, none⟩) (Kd.R_far (p := ⟨gb467, 0, none⟩) (Kd.R_types HO445.out BK467.out (by decide)) (fun _ hk => hk.2) (.int .i64 t462)) (fun _ hk => hk.2) (.int .i64 t463)) (fun _ hk => hk.2) (.slice Ao59 t464.length co59)) (fun _ h_ => h_.1))))) (Kd.R_lt (by (with_reducible repeat (first | apply Kd.R_alloc | apply Kd.R_drewN | apply Kd.R_drew)); exact (Kd.R_mono (Kd.R_far (p := ⟨gb467, 2, none⟩) (Kd.R_far (p := ⟨gb467, 1, none⟩) (Kd.R_far (p := ⟨gb467, 0, none⟩) (Kd.R_types HO448.out BK467.out (by decide)) (fun _ hk => hk.2) (.int .i64 t462)) (fun _ hk => hk.2) (.int .i64 t463)) (fun _ hk => hk.2) (.slice Ao59 t464.length co59)) (fun _ h_ => h_.1))))) (below_size bq)); have n9_ := Aside0.mk (blk_below (g := gb441) (o := .cells #[.slice Ao21 t434.length co21, .slice Ao23 t437.length co23] 27 (0, 0)) (by (with_reducible repeat (first | refine blk_drewN ?_ _ | refine blk_drew ?_ | refine blk_alloc ?_ _)); refine blk_far ?_ NB441_467.out _; (with_reducible repeat (first | refine blk_drewN ?_ _ | refine blk_drew ?_ | refine blk_alloc ?_ _)); refine blk_far ?_ NB441_467.out _; (with_reducible repeat (first | refine blk_drewN ?_ _ | refine blk_drew ?_ | refine blk_alloc ?_ _)); refine blk_far ?_ NB441_467.out _; (with_reducible repeat (first | refine blk_drewN ?_ _ | refine blk_drew ?_ | refine blk_alloc ?_ _)); exact BK441.out) hb); have n10_ := Aside0.mk (blk_below (g := gb449) (o := .cells #[.int .i64 t442, .slice Ao30 t443.length co30, .slice Ao31 t446.length co31] 46 (0, 0)) (by (with_reducible repeat (first | refine blk_drewN ?_ _ | refine blk_drew ?_ | refine blk_alloc ?_ _)); refine blk_far ?_ NB449_467.out _; (with_reducible repeat (first | refine blk_drewN ?_ _ | refine blk_drew ?_ | refine blk_alloc ?_ _)); refine blk_far ?_ NB449_467.out _; (with_reducible repeat (first | refine blk_drewN ?_ _ | refine blk_drew ?_ | refine blk_alloc ?_ _)); refine blk_far ?_ NB449_467.out _; (with_reducible repeat (first | refine blk_drewN ?_ _ | refine blk_drew ?_ | refine blk_alloc ?_ _)); exact BK449.out) hb); have n11_ := Aside0.mk (blk_below (g := gb455) (o := .cells #[.int .i64 t450, .int .i64 t451, .slice Ao40 t452.length co40] 43 (0, 0)) (by (with_reducible repeat (first | refine blk_drewN ?_ _ | refine blk_drew ?_ | refine blk_alloc ?_ _)); refine blk_far ?_ NB455_467.out _; (with_reducible repeat (first | refine blk_drewN ?_ _ | refine blk_drew ?_ | refine blk_alloc ?_ _)); refine blk_far ?_ NB455_467.out _; (with_reducible repeat (first | refine blk_drewN ?_ _ | refine blk_drew ?_ | refine blk_alloc ?_ _)); refine blk_far ?_ NB455_467.out _; (with_reducible repeat (first | refine blk_drewN ?_ _ | refine blk_drew ?_ | refine blk_alloc ?_ _)); exact BK455.out) hb); have n12_ := Aside0.mk (blk_below (g := gb461) (o := .cells #[.int .i64 t456, .int .i64 t457, .slice Ao49 t458.length co49] 43 (0, 0)) (by (with_reducible repeat (first | refine blk_drewN ?_ _ | refine blk_drew ?_ | refine blk_alloc ?_ _)); refine blk_far ?_ NB461_467.out _; (with_reducible repeat (first | refine blk_drewN ?_ _ | refine blk_drew ?_ | refine blk_alloc ?_ _)); refine blk_far ?_ NB461_467.out _; (with_reducible repeat (first | refine blk_drewN ?_ _ | refine blk_drew ?_ | refine blk_alloc ?_ _)); refine blk_far ?_ NB461_467.out _; (with_reducible repeat (first | refine blk_drewN ?_ _ | refine blk_drew ?_ | refine blk_alloc ?_ _)); exact BK461.out) hb); have n13_ := Aside0.mk (blk_below (g := gb467) (o := .cells #[.int .i64 t462, .int .i64 t463, .slice Ao59 t464.length co59] 43 (0, 0)) (by (with_reducible repeat (first | refine blk_drewN ?_ _ | refine blk_drew ?_ | refine blk_alloc ?_ _)); refine blk_put (cs := #[.int .i64 t462, .int .i64 t463, .slice none 0 0]) ?_ 2 _ rfl; (with_reducible repeat (first | refine blk_drewN ?_ _ | refine blk_drew ?_ | refine blk_alloc ?_ _)); refine blk_put (cs := #[.int .i64 t462, .int .i64 0, .slice none 0 0]) ?_ 1 _ rfl; (with_reducible repeat (first | refine blk_drewN ?_ _ | refine blk_drew ?_ | refine blk_alloc ?_ _)); refine blk_put (cs := #[.int .i64 0, .int .i64 0, .slice none 0 0]) ?_ 0 _ rfl; (with_reducible repeat (first | refine blk_drewN ?_ _ | refine blk_drew ?_ | refine blk_alloc ?_ _)); exact BK467.out) hb); have n14_ := Aside0.mk (below_step bq hb); revert n0_ n1_ n2_ n3_ n4_ n5_ n6_ n7_ n8_ n9_ n10_ n11_ n12_ n13_ n14_; clear HO436 HO439 HO445 HO448 HO454 HO460 HO466 BK441 BK449 BK455 BK461 BK467 HB; intro HO436 HO439 HO445 HO448 HO454 HO460 HO466 HO471 HO474 BK441 BK449 BK455 BK461 BK467 HB; (try clear hb); (try clear hb2); (try clear hk); (try clear hi); (try clear ho0); (try clear ho1)) | ((with_reducible refine gate_dst (N := 9) rfl ?_); (try (refine gate_guard (by rfl) ?_; dsimp only)); refine q_box (N := 9) (cs := #[.int .i64 0, .slice none 0 0, .slice none 0 0]) (t := 46) ?_; intro gb475 hg w62 hbox hb; have n0_ := Aside0.mk (Kd.R_below (q_r (HO436.out)) hb); have n1_ := Aside0.mk (Kd.R_below (q_r (HO439.out)) hb); have n2_ := Aside0.mk (Kd.R_below (q_r (HO445.out)) hb); have n3_ := Aside0.mk (Kd.R_below (q_r (HO448.out)) hb); have n4_ := Aside0.mk (Kd.N_below (Kd.N_elderB (by (with_reducible repeat (first | apply Kd.N_alloc | apply Kd.N_drewN | apply Kd.N_drew)); exact HO454.out) gb475 (Nat.le_of_eq hg.symm)) hb); have n5_ := Aside0.mk (Kd.N_below (Kd.N_elderB (by (with_reducible repeat (first | apply Kd.N_alloc | apply Kd.N_drewN | apply Kd.N_drew)); exact HO460.out) gb475 (Nat.le_of_eq hg.symm)) hb); have n6_ := Aside0.mk (Kd.N_below (Kd.N_elderB (by (with_reducible repeat (first | apply Kd.N_alloc | apply Kd.N_drewN | apply Kd.N_drew)); exact HO466.out) gb475 (Nat.le_of_eq hg.symm)) hb); have n7_ := Aside0.mk (Kd.R_below (q_r (HO471.out)) hb); have n8_ := Aside0.mk (Kd.R_below (q_r (HO474.out)) hb); have n9_ := Aside0.mk (blk_below (q_b BK441.out) hb); have n10_ := Aside0.mk (blk_below (q_b BK449.out) hb); have n11_ := Aside0.mk (blk_below (q_b BK455.out) hb); have n12_ := Aside0.mk (blk_below (q_b BK461.out) hb); have n13_ := Aside0.mk (blk_below (q_b BK467.out) hb); have n14_ := Aside0.mk (below_step bq hb); have n15_ := Aside0.mk (hbox); have n16_ := Aside0.mk ((q_g hg bq : w.heap.size ≤ gb475)); have n17_ := Aside0.mk ((q_g hg bq : w.heap.size ≤ gb475)); have n18_ := Aside0.mk ((q_n hg (q_b BK441.out) : gb441 ≠ gb475)); have n19_ := Aside0.mk ((q_m hg (q_b BK441.out) : gb475 ≠ gb441)); have n20_ := Aside0.mk ((q_n hg (q_b BK449.out) : gb449 ≠ gb475)); have n21_ := Aside0.mk ((q_m hg (q_b BK449.out) : gb475 ≠ gb449)); have n22_ := Aside0.mk ((q_n hg (q_b BK455.out) : gb455 ≠ gb475)); have n23_ := Aside0.mk ((q_m hg (q_b BK455.out) : gb475 ≠ gb455)); have n24_ := Aside0.mk ((q_n hg (q_b BK461.out) : gb461 ≠ gb475)); have n25_ := Aside0.mk ((q_m hg (q_b BK461.out) : gb475 ≠ gb461)); have n26_ := Aside0.mk ((q_n hg (q_b BK467.out) : gb467 ≠ gb475)); have n27_ := Aside0.mk ((q_m hg (q_b BK467.out) : gb475 ≠ gb467)); revert n0_ n1_ n2_ n3_ n4_ n5_ n6_ n7_ n8_ n9_ n10_ n11_ n12_ n13_ n14_ n15_ n16_ n17_ n18_ n19_ n20_ n21_ n22_ n23_ n24_ n25_ n26_ n27_; clear HO436 HO439 HO445 HO448 HO454 HO460 HO466 HO471 HO474 BK441 BK449 BK455 BK461 BK467 HB; intro HO436 HO439 HO445 HO448 HO454 HO460 HO466 HO471 HO474 BK441 BK449 BK455 BK461 BK467 HB BK475 GW475 GE475 NB441_475 NB475_441 NB449_475 NB475_449 NB455_475 NB475_455 NB461_475 NB475_461 NB467_475 NB475_467; clear hb hbox hg; have hnb63 := NB475_441.out; have hnc63 := NB441_475.out; have hnb64 := NB475_449.out; have hnc64 := NB449_475.out; have hnb65 := NB475_455.out; have hnc65 := NB455_475.out; have hnb66 := NB475_461.out; have hnc66 := NB461_475.out; have hnb67 := NB475_467.out; have hnc67 := NB467_475.out; obtain ⟨hcz68_0, hcz68_1, hcz68_2, hfz68_0, hfz68_1, hfz68_2⟩ := q_3 BK475.out; obtain ⟨Ao69, co69, eo69⟩ := Kd.R_slice HO471.out; subst eo69; obtain ⟨Ao70, co70, eo70⟩ := Kd.R_slice HO474.out; subst eo70))
          have n0_ : Aside0 (Kd.R (Kd.int .u8) 5 (((w62.setCell ⟨gb475, 0, none⟩ (.int .i64 t468)).setCell ⟨gb475, 1, none⟩ (.slice Ao69 t469.length co69)).setCell ⟨gb475, 2, none⟩ (.slice Ao70 t472.length co70)) w.heap.size (fun k_ => some k_ ≠ (.slice Ao23 t437.length co23 : Value).ownBlock ∧ some k_ ≠ (.slice Ao30 t443.length co30 : Value).ownBlock ∧ some k_ ≠ (.slice Ao31 t446.length co31 : Value).ownBlock ∧ some k_ ≠ (.slice Ao69 t469.length co69 : Value).ownBlock ∧ some k_ ≠ (.slice Ao70 t472.length co70 : Value).ownBlock) (.slice Ao21 t434.length co21) t434) := ⟨by (with_reducible repeat (first | apply Kd.R_alloc | apply Kd.R_drewN | apply Kd.R_drew)); exact Kd.R_mono (Kd.R_far (p := ⟨gb475, 2, none⟩) (Kd.R_far (p := ⟨gb475, 1, none⟩) (Kd.R_far (p := ⟨gb475, 0, none⟩) (Kd.R_types HO436.out BK475.out (by decide)) (fun _ hk => hk.2) (.int .i64 t468)) (fun _ hk => hk.2) (.slice Ao69 t469.length co69)) (fun _ hk => hk.2) (.slice Ao70 t472.length co70)) (fun _ hk => ⟨hk.1.1.1.1, ⟨hk.1.1.1.2.1, ⟨hk.1.1.1.2.2, ⟨hk.1.1.2, hk.1.2⟩⟩⟩⟩)⟩
          have n1_ : Aside0 (Kd.R (Kd.int .u8) 5 (((w62.setCell ⟨gb475, 0, none⟩ (.int .i64 t468)).setCell ⟨gb475, 1, none⟩ (.slice Ao69 t469.length co69)).setCell ⟨gb475, 2, none⟩ (.slice Ao70 t472.length co70)) w.heap.size (fun k_ => some k_ ≠ (.slice Ao21 t434.length co21 : Value).ownBlock ∧ some k_ ≠ (.slice Ao30 t443.length co30 : Value).ownBlock ∧ some k_ ≠ (.slice Ao31 t446.length co31 : Value).ownBlock ∧ some k_ ≠ (.slice Ao69 t469.length co69 : Value).ownBlock ∧ some k_ ≠ (.slice Ao70 t472.length co70 : Value).ownBlock) (.slice Ao23 t437.length co23) t437) := ⟨by (with_reducible repeat (first | apply Kd.R_alloc | apply Kd.R_drewN | apply Kd.R_drew)); exact Kd.R_mono (Kd.R_far (p := ⟨gb475, 2, none⟩) (Kd.R_far (p := ⟨gb475, 1, none⟩) (Kd.R_far (p := ⟨gb475, 0, none⟩) (Kd.R_types HO439.out BK475.out (by decide)) (fun _ hk => hk.2) (.int .i64 t468)) (fun _ hk => hk.2) (.slice Ao69 t469.length co69)) (fun _ hk => hk.2) (.slice Ao70 t472.length co70)) (fun _ hk => ⟨hk.1.1.1.1, ⟨hk.1.1.1.2.1, ⟨hk.1.1.1.2.2, ⟨hk.1.1.2, hk.1.2⟩⟩⟩⟩)⟩
          have n2_ : Aside0 (Kd.R (Kd.int .u8) 5 (((w62.setCell ⟨gb475, 0, none⟩ (.int .i64 t468)).setCell ⟨gb475, 1, none⟩ (.slice Ao69 t469.length co69)).setCell ⟨gb475, 2, none⟩ (.slice Ao70 t472.length co70)) w.heap.size (fun k_ => some k_ ≠ (.slice Ao21 t434.length co21 : Value).ownBlock ∧ some k_ ≠ (.slice Ao23 t437.length co23 : Value).ownBlock ∧ some k_ ≠ (.slice Ao31 t446.length co31 : Value).ownBlock ∧ some k_ ≠ (.slice Ao69 t469.length co69 : Value).ownBlock ∧ some k_ ≠ (.slice Ao70 t472.length co70 : Value).ownBlock) (.slice Ao30 t443.length co30) t443) := ⟨by (with_reducible repeat (first | apply Kd.R_alloc | apply Kd.R_drewN | apply Kd.R_drew)); exact Kd.R_mono (Kd.R_far (p := ⟨gb475, 2, none⟩) (Kd.R_far (p := ⟨gb475, 1, none⟩) (Kd.R_far (p := ⟨gb475, 0, none⟩) (Kd.R_types HO445.out BK475.out (by decide)) (fun _ hk => hk.2) (.int .i64 t468)) (fun _ hk => hk.2) (.slice Ao69 t469.length co69)) (fun _ hk => hk.2) (.slice Ao70 t472.length co70)) (fun _ hk => ⟨hk.1.1.1.1, ⟨hk.1.1.1.2.1, ⟨hk.1.1.1.2.2, ⟨hk.1.1.2, hk.1.2⟩⟩⟩⟩)⟩
          have n3_ : Aside0 (Kd.R (Kd.int .u8) 5 (((w62.setCell ⟨gb475, 0, none⟩ (.int .i64 t468)).setCell ⟨gb475, 1, none⟩ (.slice Ao69 t469.length co69)).setCell ⟨gb475, 2, none⟩ (.slice Ao70 t472.length co70)) w.heap.size (fun k_ => some k_ ≠ (.slice Ao21 t434.length co21 : Value).ownBlock ∧ some k_ ≠ (.slice Ao23 t437.length co23 : Value).ownBlock ∧ some k_ ≠ (.slice Ao30 t443.length co30 : Value).ownBlock ∧ some k_ ≠ (.slice Ao69 t469.length co69 : Value).ownBlock ∧ some k_ ≠ (.slice Ao70 t472.length co70 : Value).ownBlock) (.slice Ao31 t446.length co31) t446) := ⟨by (with_reducible repeat (first | apply Kd.R_alloc | apply Kd.R_drewN | apply Kd.R_drew)); exact Kd.R_mono (Kd.R_far (p := ⟨gb475, 2, none⟩) (Kd.R_far (p := ⟨gb475, 1, none⟩) (Kd.R_far (p := ⟨gb475, 0, none⟩) (Kd.R_types HO448.out BK475.out (by decide)) (fun _ hk => hk.2) (.int .i64 t468)) (fun _ hk => hk.2) (.slice Ao69 t469.length co69)) (fun _ hk => hk.2) (.slice Ao70 t472.length co70)) (fun _ hk => ⟨hk.1.1.1.1, ⟨hk.1.1.1.2.1, ⟨hk.1.1.1.2.2, ⟨hk.1.1.2, hk.1.2⟩⟩⟩⟩)⟩
          have n4_ : Aside0 (Kd.N (Kd.slice 5 (Kd.int .u8)) 22 (((w62.setCell ⟨gb475, 0, none⟩ (.int .i64 t468)).setCell ⟨gb475, 1, none⟩ (.slice Ao69 t469.length co69)).setCell ⟨gb475, 2, none⟩ (.slice Ao70 t472.length co70)) w.heap.size (fun k_ => some k_ ≠ (.slice Ao23 t437.length co23 : Value).ownBlock ∧ some k_ ≠ (.slice Ao30 t443.length co30 : Value).ownBlock ∧ some k_ ≠ (.slice Ao31 t446.length co31 : Value).ownBlock ∧ some k_ ≠ (.slice Ao49 t458.length co49 : Value).ownBlock ∧ some k_ ≠ (.slice Ao59 t464.length co59 : Value).ownBlock ∧ some k_ ≠ (.slice Ao69 t469.length co69 : Value).ownBlock ∧ some k_ ≠ (.slice Ao70 t472.length co70 : Value).ownBlock ∧ k_ ≠ gb441 ∧ k_ ≠ gb449 ∧ k_ ≠ gb455 ∧ k_ ≠ gb461 ∧ k_ ≠ gb467 ∧ k_ ≠ gb475) (.slice Ao40 t452.length co40) t452) := ⟨by (with_reducible repeat (first | apply Kd.N_alloc | apply Kd.N_drewN | apply Kd.N_drew)); exact Kd.N_mono (Kd.N_far (p := ⟨gb475, 2, none⟩) (Kd.N_far (p := ⟨gb475, 1, none⟩) (Kd.N_far (p := ⟨gb475, 0, none⟩) (Kd.N_mono HO454.out (fun k_ hk => (⟨hk, hk.2⟩ : _ ∧ k_ ≠ gb475))) (fun _ hk => hk.2) (.int .i64 t468)) (fun _ hk => hk.2) (.slice Ao69 t469.length co69)) (fun _ hk => hk.2) (.slice Ao70 t472.length co70)) (fun _ hk => ⟨hk.1.1.1.1.1.1.1, ⟨hk.1.1.1.1.1.1.2.1, ⟨hk.1.1.1.1.1.1.2.2.1, ⟨hk.1.1.1.1.1.1.2.2.2.1, ⟨hk.1.1.1.1.1.2, ⟨hk.1.1.1.2, ⟨hk.1.1.2, ⟨hk.1.1.1.1.1.1.2.2.2.2.1, ⟨hk.1.1.1.1.1.1.2.2.2.2.2.1, ⟨hk.1.1.1.1.1.1.2.2.2.2.2.2.1, ⟨hk.1.1.1.1.1.1.2.2.2.2.2.2.2, ⟨hk.1.1.1.1.2, hk.1.2⟩⟩⟩⟩⟩⟩⟩⟩⟩⟩⟩⟩)⟩
          have n5_ : Aside0 (Kd.N (Kd.slice 5 (Kd.int .u8)) 22 (((w62.setCell ⟨gb475, 0, none⟩ (.int .i64 t468)).setCell ⟨gb475, 1, none⟩ (.slice Ao69 t469.length co69)).setCell ⟨gb475, 2, none⟩ (.slice Ao70 t472.length co70)) w.heap.size (fun k_ => some k_ ≠ (.slice Ao30 t443.length co30 : Value).ownBlock ∧ some k_ ≠ (.slice Ao31 t446.length co31 : Value).ownBlock ∧ some k_ ≠ (.slice Ao40 t452.length co40 : Value).ownBlock ∧ some k_ ≠ (.slice Ao59 t464.length co59 : Value).ownBlock ∧ some k_ ≠ (.slice Ao69 t469.length co69 : Value).ownBlock ∧ some k_ ≠ (.slice Ao70 t472.length co70 : Value).ownBlock ∧ k_ ≠ gb441 ∧ k_ ≠ gb449 ∧ k_ ≠ gb455 ∧ k_ ≠ gb461 ∧ k_ ≠ gb467 ∧ k_ ≠ gb475) (.slice Ao49 t458.length co49) t458) := ⟨by (with_reducible repeat (first | apply Kd.N_alloc | apply Kd.N_drewN | apply Kd.N_drew)); exact Kd.N_mono (Kd.N_far (p := ⟨gb475, 2, none⟩) (Kd.N_far (p := ⟨gb475, 1, none⟩) (Kd.N_far (p := ⟨gb475, 0, none⟩) (Kd.N_mono HO460.out (fun k_ hk => (⟨hk, hk.2⟩ : _ ∧ k_ ≠ gb475))) (fun _ hk => hk.2) (.int .i64 t468)) (fun _ hk => hk.2) (.slice Ao69 t469.length co69)) (fun _ hk => hk.2) (.slice Ao70 t472.length co70)) (fun _ hk => ⟨hk.1.1.1.1.1.1.1, ⟨hk.1.1.1.1.1.1.2.1, ⟨hk.1.1.1.1.1.1.2.2.1, ⟨hk.1.1.1.1.1.2, ⟨hk.1.1.1.2, ⟨hk.1.1.2, ⟨hk.1.1.1.1.1.1.2.2.2.1, ⟨hk.1.1.1.1.1.1.2.2.2.2.1, ⟨hk.1.1.1.1.1.1.2.2.2.2.2.1, ⟨hk.1.1.1.1.1.1.2.2.2.2.2.2, ⟨hk.1.1.1.1.2, hk.1.2⟩⟩⟩⟩⟩⟩⟩⟩⟩⟩⟩)⟩
          have n6_ : Aside0 (Kd.N (Kd.slice 5 (Kd.int .u8)) 22 (((w62.setCell ⟨gb475, 0, none⟩ (.int .i64 t468)).setCell ⟨gb475, 1, none⟩ (.slice Ao69 t469.length co69)).setCell ⟨gb475, 2, none⟩ (.slice Ao70 t472.length co70)) w.heap.size (fun k_ => some k_ ≠ (.slice Ao21 t434.length co21 : Value).ownBlock ∧ some k_ ≠ (.slice Ao23 t437.length co23 : Value).ownBlock ∧ some k_ ≠ (.slice Ao40 t452.length co40 : Value).ownBlock ∧ some k_ ≠ (.slice Ao49 t458.length co49 : Value).ownBlock ∧ some k_ ≠ (.slice Ao69 t469.length co69 : Value).ownBlock ∧ some k_ ≠ (.slice Ao70 t472.length co70 : Value).ownBlock ∧ k_ ≠ gb441 ∧ k_ ≠ gb449 ∧ k_ ≠ gb455 ∧ k_ ≠ gb461 ∧ k_ ≠ gb467 ∧ k_ ≠ gb475) (.slice Ao59 t464.length co59) t464) := ⟨by (with_reducible repeat (first | apply Kd.N_alloc | apply Kd.N_drewN | apply Kd.N_drew)); exact Kd.N_mono (Kd.N_far (p := ⟨gb475, 2, none⟩) (Kd.N_far (p := ⟨gb475, 1, none⟩) (Kd.N_far (p := ⟨gb475, 0, none⟩) (Kd.N_mono HO466.out (fun k_ hk => (⟨hk, hk.2⟩ : _ ∧ k_ ≠ gb475))) (fun _ hk => hk.2) (.int .i64 t468)) (fun _ hk => hk.2) (.slice Ao69 t469.length co69)) (fun _ hk => hk.2) (.slice Ao70 t472.length co70)) (fun _ hk => ⟨hk.1.1.1.1.1.1, ⟨hk.1.1.1.1.1.2.1, ⟨hk.1.1.1.1.1.2.2.1, ⟨hk.1.1.1.1.1.2.2.2.1, ⟨hk.1.1.1.2, ⟨hk.1.1.2, ⟨hk.1.1.1.1.1.2.2.2.2.1, ⟨hk.1.1.1.1.1.2.2.2.2.2.1, ⟨hk.1.1.1.1.1.2.2.2.2.2.2.1, ⟨hk.1.1.1.1.1.2.2.2.2.2.2.2, ⟨hk.1.1.1.1.2, hk.1.2⟩⟩⟩⟩⟩⟩⟩⟩⟩⟩⟩)⟩
          have n7_ : Aside0 (Kd.R (Kd.int .u8) 5 (((w62.setCell ⟨gb475, 0, none⟩ (.int .i64 t468)).setCell ⟨gb475, 1, none⟩ (.slice Ao69 t469.length co69)).setCell ⟨gb475, 2, none⟩ (.slice Ao70 t472.length co70)) w.heap.size (fun k_ => some k_ ≠ (.slice Ao21 t434.length co21 : Value).ownBlock ∧ some k_ ≠ (.slice Ao23 t437.length co23 : Value).ownBlock ∧ some k_ ≠ (.slice Ao30 t443.length co30 : Value).ownBlock ∧ some k_ ≠ (.slice Ao31 t446.length co31 : Value).ownBlock ∧ some k_ ≠ (.slice Ao70 t472.length co70 : Value).ownBlock) (.slice Ao69 t469.length co69) t469) := ⟨by (with_reducible repeat (first | apply Kd.R_alloc | apply Kd.R_drewN | apply Kd.R_drew)); exact Kd.R_mono (Kd.R_far (p := ⟨gb475, 2, none⟩) (Kd.R_far (p := ⟨gb475, 1, none⟩) (Kd.R_far (p := ⟨gb475, 0, none⟩) (Kd.R_types HO471.out BK475.out (by decide)) (fun _ hk => hk.2) (.int .i64 t468)) (fun _ hk => hk.2) (.slice Ao69 t469.length co69)) (fun _ hk => hk.2) (.slice Ao70 t472.length co70)) (fun _ hk => ⟨hk.1.1.1.1.2, ⟨hk.1.1.1.2, ⟨hk.1.1.2, ⟨hk.1.2, hk.1.1.1.1.1⟩⟩⟩⟩)⟩
          have n8_ : Aside0 (Kd.R (Kd.int .u8) 5 (((w62.setCell ⟨gb475, 0, none⟩ (.int .i64 t468)).setCell ⟨gb475, 1, none⟩ (.slice Ao69 t469.length co69)).setCell ⟨gb475, 2, none⟩ (.slice Ao70 t472.length co70)) w.heap.size (fun k_ => some k_ ≠ (.slice Ao21 t434.length co21 : Value).ownBlock ∧ some k_ ≠ (.slice Ao23 t437.length co23 : Value).ownBlock ∧ some k_ ≠ (.slice Ao30 t443.length co30 : Value).ownBlock ∧ some k_ ≠ (.slice Ao31 t446.length co31 : Value).ownBlock ∧ some k_ ≠ (.slice Ao69 t469.length co69 : Value).ownBlock) (.slice Ao70 t472.length co70) t472) := ⟨by (with_reducible repeat (first | apply Kd.R_alloc | apply Kd.R_drewN | apply Kd.R_drew)); exact Kd.R_mono (Kd.R_far (p := ⟨gb475, 2, none⟩) (Kd.R_far (p := ⟨gb475, 1, none⟩) (Kd.R_far (p := ⟨gb475, 0, none⟩) (Kd.R_types HO474.out BK475.out (by decide)) (fun _ hk => hk.2) (.int .i64 t468)) (fun _ hk => hk.2) (.slice Ao69 t469.length co69)) (fun _ hk => hk.2) (.slice Ao70 t472.length co70)) (fun _ hk => ⟨hk.1.1.1.1.2, ⟨hk.1.1.1.2, ⟨hk.1.1.2, ⟨hk.1.2, hk.1.1.1.1.1⟩⟩⟩⟩)⟩
          have n9_ : Aside0 ((((w62.setCell ⟨gb475, 0, none⟩ (.int .i64 t468)).setCell ⟨gb475, 1, none⟩ (.slice Ao69 t469.length co69)).setCell ⟨gb475, 2, none⟩ (.slice Ao70 t472.length co70)).heap[gb441]? = some (.cells #[.slice Ao21 t434.length co21, .slice Ao23 t437.length co23] 27 (0, 0))) := ⟨by (with_reducible repeat (first | refine blk_drewN ?_ _ | refine blk_drew ?_ | refine blk_alloc ?_ _)); refine blk_far ?_ NB441_475.out _; (with_reducible repeat (first | refine blk_drewN ?_ _ | refine blk_drew ?_ | refine blk_alloc ?_ _)); refine blk_far ?_ NB441_475.out _; (with_reducible repeat (first | refine blk_drewN ?_ _ | refine blk_drew ?_ | refine blk_alloc ?_ _)); refine blk_far ?_ NB441_475.out _; (with_reducible repeat (first | refine blk_drewN ?_ _ | refine blk_drew ?_ | refine blk_alloc ?_ _)); exact BK441.out⟩
          have n10_ : Aside0 ((((w62.setCell ⟨gb475, 0, none⟩ (.int .i64 t468)).setCell ⟨gb475, 1, none⟩ (.slice Ao69 t469.length co69)).setCell ⟨gb475, 2, none⟩ (.slice Ao70 t472.length co70)).heap[gb449]? = some (.cells #[.int .i64 t442, .slice Ao30 t443.length co30, .slice Ao31 t446.length co31] 46 (0, 0))) := ⟨by (with_reducible repeat (first | refine blk_drewN ?_ _ | refine blk_drew ?_ | refine blk_alloc ?_ _)); refine blk_far ?_ NB449_475.out _; (with_reducible repeat (first | refine blk_drewN ?_ _ | refine blk_drew ?_ | refine blk_alloc ?_ _)); refine blk_far ?_ NB449_475.out _; (with_reducible repeat (first | refine blk_drewN ?_ _ | refine blk_drew ?_ | refine blk_alloc ?_ _)); refine blk_far ?_ NB449_475.out _; (with_reducible repeat (first | refine blk_drewN ?_ _ | refine blk_drew ?_ | refine blk_alloc ?_ _)); exact BK449.out⟩
          have n11_ : Aside0 ((((w62.setCell ⟨gb475, 0, none⟩ (.int .i64 t468)).setCell ⟨gb475, 1, none⟩ (.slice Ao69 t469.length co69)).setCell ⟨gb475, 2, none⟩ (.slice Ao70 t472.length co70)).heap[gb455]? = some (.cells #[.int .i64 t450, .int .i64 t451, .slice Ao40 t452.length co40] 43 (0, 0))) := ⟨by (with_reducible repeat (first | refine blk_drewN ?_ _ | refine blk_drew ?_ | refine blk_alloc ?_ _)); refine blk_far ?_ NB455_475.out _; (with_reducible repeat (first | refine blk_drewN ?_ _ | refine blk_drew ?_ | refine blk_alloc ?_ _)); refine blk_far ?_ NB455_475.out _; (with_reducible repeat (first | refine blk_drewN ?_ _ | refine blk_drew ?_ | refine blk_alloc ?_ _)); refine blk_far ?_ NB455_475.out _; (with_reducible repeat (first | refine blk_drewN ?_ _ | refine blk_drew ?_ | refine blk_alloc ?_ _)); exact BK455.out⟩
          have n12_ : Aside0 ((((w62.setCell ⟨gb475, 0, none⟩ (.int .i64 t468)).setCell ⟨gb475, 1, none⟩ (.slice Ao69 t469.length co69)).setCell ⟨gb475, 2, none⟩ (.slice Ao70 t472.length co70)).heap[gb461]? = some (.cells #[.int .i64 t456, .int .i64 t457, .slice Ao49 t458.length co49] 43 (0, 0))) := ⟨by (with_reducible repeat (first | refine blk_drewN ?_ _ | refine blk_drew ?_ | refine blk_alloc ?_ _)); refine blk_far ?_ NB461_475.out _; (with_reducible repeat (first | refine blk_drewN ?_ _ | refine blk_drew ?_ | refine blk_alloc ?_ _)); refine blk_far ?_ NB461_475.out _; (with_reducible repeat (first | refine blk_drewN ?_ _ | refine blk_drew ?_ | refine blk_alloc ?_ _)); refine blk_far ?_ NB461_475.out _; (with_reducible repeat (first | refine blk_drewN ?_ _ | refine blk_drew ?_ | refine blk_alloc ?_ _)); exact BK461.out⟩
          have n13_ : Aside0 ((((w62.setCell ⟨gb475, 0, none⟩ (.int .i64 t468)).setCell ⟨gb475, 1, none⟩ (.slice Ao69 t469.length co69)).setCell ⟨gb475, 2, none⟩ (.slice Ao70 t472.length co70)).heap[gb467]? = some (.cells #[.int .i64 t462, .int .i64 t463, .slice Ao59 t464.length co59] 43 (0, 0))) := ⟨by (with_reducible repeat (first | refine blk_drewN ?_ _ | refine blk_drew ?_ | refine blk_alloc ?_ _)); refine blk_far ?_ NB467_475.out _; (with_reducible repeat (first | refine blk_drewN ?_ _ | refine blk_drew ?_ | refine blk_alloc ?_ _)); refine blk_far ?_ NB467_475.out _; (with_reducible repeat (first | refine blk_drewN ?_ _ | refine blk_drew ?_ | refine blk_alloc ?_ _)); refine blk_far ?_ NB467_475.out _; (with_reducible repeat (first | refine blk_drewN ?_ _ | refine blk_drew ?_ | refine blk_alloc ?_ _)); exact BK467.out⟩
          have n14_ : Aside0 ((((w62.setCell ⟨gb475, 0, none⟩ (.int .i64 t468)).setCell ⟨gb475, 1, none⟩ (.slice Ao69 t469.length co69)).setCell ⟨gb475, 2, none⟩ (.slice Ao70 t472.length co70)).heap[gb475]? = some (.cells #[.int .i64 t468, .slice Ao69 t469.length co69, .slice Ao70 t472.length co70] 46 (0, 0))) := ⟨by (with_reducible repeat (first | refine blk_drewN ?_ _ | refine blk_drew ?_ | refine blk_alloc ?_ _)); refine blk_put (cs := #[.int .i64 t468, .slice Ao69 t469.length co69, .slice none 0 0]) ?_ 2 _ rfl; (with_reducible repeat (first | refine blk_drewN ?_ _ | refine blk_drew ?_ | refine blk_alloc ?_ _)); refine blk_put (cs := #[.int .i64 t468, .slice none 0 0, .slice none 0 0]) ?_ 1 _ rfl; (with_reducible repeat (first | refine blk_drewN ?_ _ | refine blk_drew ?_ | refine blk_alloc ?_ _)); refine blk_put (cs := #[.int .i64 0, .slice none 0 0, .slice none 0 0]) ?_ 0 _ rfl; (with_reducible repeat (first | refine blk_drewN ?_ _ | refine blk_drew ?_ | refine blk_alloc ?_ _)); exact BK475.out⟩
          have n15_ : Aside0 (Below w.heap.size w (((w62.setCell ⟨gb475, 0, none⟩ (.int .i64 t468)).setCell ⟨gb475, 1, none⟩ (.slice Ao69 t469.length co69)).setCell ⟨gb475, 2, none⟩ (.slice Ao70 t472.length co70))) := ⟨bq⟩
          (try clear HO436)
          (try clear HO439)
          (try clear HO445)
          (try clear HO448)
          (try clear HO454)
          (try clear HO460)
          (try clear HO466)
          (try clear HO471)
          (try clear HO474)
          (try clear BK441)
          (try clear BK449)
          (try clear BK455)
          (try clear BK461)
          (try clear BK467)
          (try clear BK475)
          (try clear HB)
          generalize (((w62.setCell ⟨gb475, 0, none⟩ (.int .i64 t468)).setCell ⟨gb475, 1, none⟩ (.slice Ao69 t469.length co69)).setCell ⟨gb475, 2, none⟩ (.slice Ao70 t472.length co70)) = w71 at n0_ n1_ n2_ n3_ n4_ n5_ n6_ n7_ n8_ n9_ n10_ n11_ n12_ n13_ n14_ n15_ ⊢
          have HO436 := n0_
          have HO439 := n1_
          have HO445 := n2_
          have HO448 := n3_
          have HO454 := n4_
          have HO460 := n5_
          have HO466 := n6_
          have HO471 := n7_
          have HO474 := n8_
          have BK441 := n9_
          have BK449 := n10_
          have BK455 := n11_
          have BK461 := n12_
          have BK467 := n13_
          have BK475 := n14_
          have HB := n15_
          clear n0_ n1_ n2_ n3_ n4_ n5_ n6_ n7_ n8_ n9_ n10_ n11_ n12_ n13_ n14_ n15_
          have n0_ := Aside0.mk (Kd.R_drew HO436.out)
          have n1_ := Aside0.mk (Kd.R_drew HO439.out)
          have n2_ := Aside0.mk (Kd.R_drew HO445.out)
          have n3_ := Aside0.mk (Kd.R_drew HO448.out)
          have n4_ := Aside0.mk (Kd.N_drew HO454.out)
          have n5_ := Aside0.mk (Kd.N_drew HO460.out)
          have n6_ := Aside0.mk (Kd.N_drew HO466.out)
          have n7_ := Aside0.mk (Kd.R_drew HO471.out)
          have n8_ := Aside0.mk (Kd.R_drew HO474.out)
          have n9_ := Aside0.mk (blk_drew BK441.out)
          have n10_ := Aside0.mk (blk_drew BK449.out)
          have n11_ := Aside0.mk (blk_drew BK455.out)
          have n12_ := Aside0.mk (blk_drew BK461.out)
          have n13_ := Aside0.mk (blk_drew BK467.out)
          have n14_ := Aside0.mk (blk_drew BK475.out)
          have n15_ := Aside0.mk (below_drew1 HB.out)
          clear HO436
          clear HO439
          clear HO445
          clear HO448
          clear HO454
          clear HO460
          clear HO466
          clear HO471
          clear HO474
          clear BK441
          clear BK449
          clear BK455
          clear BK461
          clear BK467
          clear BK475
          clear HB
          have HO436 := n0_
          have HO439 := n1_
          have HO445 := n2_
          have HO448 := n3_
          have HO454 := n4_
          have HO460 := n5_
          have HO466 := n6_
          have HO471 := n7_
          have HO474 := n8_
          have BK441 := n9_
          have BK449 := n10_
          have BK455 := n11_
          have BK461 := n12_
          have BK467 := n13_
          have BK475 := n14_
          have HB := n15_
          clear n0_ n1_ n2_ n3_ n4_ n5_ n6_ n7_ n8_ n9_ n10_ n11_ n12_ n13_ n14_ n15_
          refine start_ (n := 47) (S := fun w' => w'.cell? ⟨gb455, 0, none⟩ = some (.int .i64 t450) ∧ w'.cell? ⟨gb455, 1, none⟩ = some (.int .i64 t451) ∧ w'.cell? ⟨gb455, 2, none⟩ = some (.slice Ao40 t452.length co40) ∧ w'.cell? ⟨gb461, 0, none⟩ = some (.int .i64 t456) ∧ w'.cell? ⟨gb461, 1, none⟩ = some (.int .i64 t457) ∧ w'.cell? ⟨gb461, 2, none⟩ = some (.slice Ao49 t458.length co49) ∧ w'.cell? ⟨gb467, 0, none⟩ = some (.int .i64 t462) ∧ w'.cell? ⟨gb467, 1, none⟩ = some (.int .i64 t463) ∧ w'.cell? ⟨gb467, 2, none⟩ = some (.slice Ao59 t464.length co59) ∧ w'.cell? ⟨gb475, 0, none⟩ = some (.int .i64 t468) ∧ w'.cell? ⟨gb475, 1, none⟩ = some (.slice Ao69 t469.length co69) ∧ w'.cell? ⟨gb475, 2, none⟩ = some (.slice Ao70 t472.length co70)) (ds := []) #[false, false, false, false, false, false, false, false, false, false, false, false, false, false, false, false, false, false, false, false, false, false, false, false, false, false, false, false, false, false, false, false, false, false, false, false, false, false, false, false, false, false, false, false, false, false, false] (by kernel_rfl) rfl rfl ⟨q_z BK455.out 0, q_z BK455.out 1, q_z BK455.out 2, q_z BK461.out 0, q_z BK461.out 1, q_z BK461.out 2, q_z BK467.out 0, q_z BK467.out 1, q_z BK467.out 2, q_z BK475.out 0, q_z BK475.out 1, q_z BK475.out 2⟩ (fun hHeld => ?_); refine with_tabW laws_FnCrashLogs.tab11 laws_FnCrashLogs.bits11 (fun HT_ HW_ => ?_)
          generalize w71.drew = w72 at HO436 HO439 HO445 HO448 HO454 HO460 HO466 HO471 HO474 BK441 BK449 BK455 BK461 BK467 BK475 HB hHeld ⊢
          refine pure_ (i := 0) (N := some 43) (v := ?_) (a' := ?_) #[true, false, false, false, false, false, false, false, false, false, false, false, false, false, false, false, false, false, false, false, false, false, false, false, false, false, false, false, false, false, false, false, false, false, false, false, false, false, false, false, false, false, false, false, false, false, false] rfl rfl (any_of HT_.out (by kernel_rfl)) (fun _ _ _ h => h) (Or.inl ⟨by rfl, ?_⟩) ?_ ?_
          rotate_left
          ·intro w'
           go_simp
           (try (simp only [Instr.field, asAgg]; go_simp))
           with_reducible rfl
          rotate_left
          ·simp only [Act.put, List.setIfInBounds_toArray, List.set_cons_zero, List.set_cons_succ, i64_w, i32_w]
           rfl
          refine q_t 1 (some 44) #[true, true, false, false, false, false, false, false, false, false, false, false, false, false, false, false, false, false, false, false, false, false, false, false, false, false, false, false, false, false, false, false, false, false, false, false, false, false, false, false, false, false, false, false, false, false, false] HT_.out HW_.out hHeld ?_
          refine pure_ (i := 2) (N := some 45) (v := ?_) (a' := ?_) #[true, true, true, false, false, false, false, false, false, false, false, false, false, false, false, false, false, false, false, false, false, false, false, false, false, false, false, false, false, false, false, false, false, false, false, false, false, false, false, false, false, false, false, false, false, false, false] rfl rfl (any_of HT_.out (by kernel_rfl)) (fun _ _ _ h => h) (Or.inl ⟨by rfl, ?_⟩) ?_ ?_
          rotate_left
          ·intro w'
           go_simp
           (try (simp only [Instr.field, asAgg]; go_simp))
           with_reducible rfl
          rotate_left
          ·simp only [Act.put, List.setIfInBounds_toArray, List.set_cons_zero, List.set_cons_succ, i64_w, i32_w]
           rfl
          refine pure_ (i := 3) (N := some 46) (v := ?_) (a' := ?_) #[true, true, true, true, false, false, false, false, false, false, false, false, false, false, false, false, false, false, false, false, false, false, false, false, false, false, false, false, false, false, false, false, false, false, false, false, false, false, false, false, false, false, false, false, false, false, false] rfl rfl (any_of HT_.out (by kernel_rfl)) (fun _ _ _ h => h) (Or.inl ⟨by rfl, ?_⟩) ?_ ?_
          rotate_left
          ·intro w'
           go_simp
           (try (simp only [Instr.field, asAgg]; go_simp))
           with_reducible rfl
          rotate_left
          ·simp only [Act.put, List.setIfInBounds_toArray, List.set_cons_zero, List.set_cons_succ, i64_w, i32_w]
           rfl
          refine pure_ (i := 4) (N := some 47) (v := ?_) (a' := ?_) #[true, true, true, true, true, false, false, false, false, false, false, false, false, false, false, false, false, false, false, false, false, false, false, false, false, false, false, false, false, false, false, false, false, false, false, false, false, false, false, false, false, false, false, false, false, false, false] rfl rfl (any_of HT_.out (by kernel_rfl)) (fun _ _ _ h => h) (Or.inl ⟨by rfl, ?_⟩) ?_ ?_
          rotate_left
          ·intro w'
           go_simp
           (try (simp only [Instr.field, asAgg]; go_simp))
           with_reducible rfl
          rotate_left
          ·simp only [Act.put, List.setIfInBounds_toArray, List.set_cons_zero, List.set_cons_succ, i64_w, i32_w]
           rfl
          refine q_t 5 (some 48) #[true, true, true, true, true, true, false, false, false, false, false, false, false, false, false, false, false, false, false, false, false, false, false, false, false, false, false, false, false, false, false, false, false, false, false, false, false, false, false, false, false, false, false, false, false, false, false] HT_.out HW_.out hHeld ?_
          refine pure_ (i := 6) (N := some 49) (v := ?_) (a' := ?_) #[true, true, true, true, true, true, true, false, false, false, false, false, false, false, false, false, false, false, false, false, false, false, false, false, false, false, false, false, false, false, false, false, false, false, false, false, false, false, false, false, false, false, false, false, false, false, false] rfl rfl (any_of HT_.out (by kernel_rfl)) (fun _ _ _ h => h) (Or.inl ⟨by rfl, ?_⟩) ?_ ?_
          rotate_left
          ·intro w'
           go_simp
           (try (simp only [Instr.field, asAgg]; go_simp))
           with_reducible rfl
          rotate_left
          ·simp only [Act.put, List.setIfInBounds_toArray, List.set_cons_zero, List.set_cons_succ, i64_w, i32_w]
           rfl
          refine pure_ (i := 7) (N := some 50) (v := ?_) (a' := ?_) #[true, true, true, true, true, true, true, true, false, false, false, false, false, false, false, false, false, false, false, false, false, false, false, false, false, false, false, false, false, false, false, false, false, false, false, false, false, false, false, false, false, false, false, false, false, false, false] rfl rfl (any_of HT_.out (by kernel_rfl)) (fun _ _ _ h => h) (Or.inl ⟨by rfl, ?_⟩) ?_ ?_
          rotate_left
          ·intro w'
           go_simp
           (try (simp only [Instr.field, asAgg]; go_simp))
           with_reducible rfl
          rotate_left
          ·simp only [Act.put, List.setIfInBounds_toArray, List.set_cons_zero, List.set_cons_succ, i64_w, i32_w]
           rfl
          refine pure_ (i := 8) (N := some 51) (v := ?_) (a' := ?_) #[true, true, true, true, true, true, true, true, true, false, false, false, false, false, false, false, false, false, false, false, false, false, false, false, false, false, false, false, false, false, false, false, false, false, false, false, false, false, false, false, false, false, false, false, false, false, false] rfl rfl (any_of HT_.out (by kernel_rfl)) (fun _ _ _ h => h) (Or.inl ⟨by rfl, ?_⟩) ?_ ?_
          rotate_left
          ·intro w'
           go_simp
           (try (simp only [Instr.field, asAgg]; go_simp))
           with_reducible rfl
          rotate_left
          ·simp only [Act.put, List.setIfInBounds_toArray, List.set_cons_zero, List.set_cons_succ, i64_w, i32_w]
           rfl
          refine pure_ (i := 9) (N := some 52) (v := ?_) (a' := ?_) #[true, true, true, true, true, true, true, true, true, true, false, false, false, false, false, false, false, false, false, false, false, false, false, false, false, false, false, false, false, false, false, false, false, false, false, false, false, false, false, false, false, false, false, false, false, false, false] rfl rfl (any_of HT_.out (by kernel_rfl)) (fun _ _ _ h => h) (Or.inl ⟨by rfl, ?_⟩) ?_ ?_
          rotate_left
          ·intro w'
           go_simp
           (try (simp only [Instr.field, asAgg]; go_simp))
           with_reducible rfl
          rotate_left
          ·simp only [Act.put, List.setIfInBounds_toArray, List.set_cons_zero, List.set_cons_succ, i64_w, i32_w]
           rfl
          refine q_t 10 (some 53) #[true, true, true, true, true, true, true, true, true, true, true, false, false, false, false, false, false, false, false, false, false, false, false, false, false, false, false, false, false, false, false, false, false, false, false, false, false, false, false, false, false, false, false, false, false, false, false] HT_.out HW_.out hHeld ?_
          refine pure_ (i := 11) (N := some 54) (v := ?_) (a' := ?_) #[true, true, true, true, true, true, true, true, true, true, true, true, false, false, false, false, false, false, false, false, false, false, false, false, false, false, false, false, false, false, false, false, false, false, false, false, false, false, false, false, false, false, false, false, false, false, false] rfl rfl (any_of HT_.out (by kernel_rfl)) (fun _ _ _ h => h) (Or.inl ⟨by rfl, ?_⟩) ?_ ?_
          rotate_left
          ·intro w'
           go_simp
           (try (simp only [Instr.field, asAgg]; go_simp))
           with_reducible rfl
          rotate_left
          ·simp only [Act.put, List.setIfInBounds_toArray, List.set_cons_zero, List.set_cons_succ, i64_w, i32_w]
           rfl
          refine pure_ (i := 12) (N := some 55) (v := ?_) (a' := ?_) #[true, true, true, true, true, true, true, true, true, true, true, true, true, false, false, false, false, false, false, false, false, false, false, false, false, false, false, false, false, false, false, false, false, false, false, false, false, false, false, false, false, false, false, false, false, false, false] rfl rfl (any_of HT_.out (by kernel_rfl)) (fun _ _ _ h => h) (Or.inl ⟨by rfl, ?_⟩) ?_ ?_
          rotate_left
          ·intro w'
           go_simp
           (try (simp only [Instr.field, asAgg]; go_simp))
           with_reducible rfl
          rotate_left
          ·simp only [Act.put, List.setIfInBounds_toArray, List.set_cons_zero, List.set_cons_succ, i64_w, i32_w]
           rfl
          refine pure_ (i := 13) (N := some 56) (v := ?_) (a' := ?_) #[true, true, true, true, true, true, true, true, true, true, true, true, true, true, false, false, false, false, false, false, false, false, false, false, false, false, false, false, false, false, false, false, false, false, false, false, false, false, false, false, false, false, false, false, false, false, false] rfl rfl (any_of HT_.out (by kernel_rfl)) (fun _ _ _ h => h) (Or.inl ⟨by rfl, ?_⟩) ?_ ?_
          rotate_left
          ·intro w'
           go_simp
           (try (simp only [Instr.field, asAgg]; go_simp))
           with_reducible rfl
          rotate_left
          ·simp only [Act.put, List.setIfInBounds_toArray, List.set_cons_zero, List.set_cons_succ, i64_w, i32_w]
           rfl
          refine pure_ (i := 14) (N := some 57) (v := ?_) (a' := ?_) #[true, true, true, true, true, true, true, true, true, true, true, true, true, true, true, false, false, false, false, false, false, false, false, false, false, false, false, false, false, false, false, false, false, false, false, false, false, false, false, false, false, false, false, false, false, false, false] rfl rfl (any_of HT_.out (by kernel_rfl)) (fun _ _ _ h => h) (Or.inl ⟨by rfl, ?_⟩) ?_ ?_
          rotate_left
          ·intro w'
           go_simp
           (try (simp only [Instr.field, asAgg]; go_simp))
           with_reducible rfl
          rotate_left
          ·simp only [Act.put, List.setIfInBounds_toArray, List.set_cons_zero, List.set_cons_succ, i64_w, i32_w]
           rfl
          refine pure_ (i := 17) (N := some 60) (v := ?_) (a' := ?_) #[true, true, true, true, true, true, true, true, true, true, true, true, true, true, true, false, false, true, false, false, false, false, false, false, false, false, false, false, false, false, false, false, false, false, false, false, false, false, false, false, false, false, false, false, false, false, false] rfl rfl (any_of HT_.out (by kernel_rfl)) (fun _ _ _ h => h) (Or.inl ⟨by rfl, ?_⟩) ?_ ?_
          rotate_left
          ·intro w'
           go_simp
           (try (simp only [Instr.field, asAgg]; go_simp))
           with_reducible rfl
          rotate_left
          ·simp only [Act.put, List.setIfInBounds_toArray, List.set_cons_zero, List.set_cons_succ, i64_w, i32_w]
           rfl
          refine q_t 15 (some 58) #[true, true, true, true, true, true, true, true, true, true, true, true, true, true, true, true, false, true, false, false, false, false, false, false, false, false, false, false, false, false, false, false, false, false, false, false, false, false, false, false, false, false, false, false, false, false, false] HT_.out HW_.out hHeld ?_
          refine pure_ (i := 16) (N := some 59) (v := ?_) (a' := ?_) #[true, true, true, true, true, true, true, true, true, true, true, true, true, true, true, true, true, true, false, false, false, false, false, false, false, false, false, false, false, false, false, false, false, false, false, false, false, false, false, false, false, false, false, false, false, false, false] rfl rfl (any_of HT_.out (by kernel_rfl)) (fun _ _ _ h => h) (Or.inl ⟨by rfl, ?_⟩) ?_ ?_
          rotate_left
          ·intro w'
           go_simp
           (try (simp only [Instr.field, asAgg]; go_simp))
           with_reducible rfl
          rotate_left
          ·simp only [Act.put, List.setIfInBounds_toArray, List.set_cons_zero, List.set_cons_succ, i64_w, i32_w]
           rfl
          refine q_t 18 (some 61) #[true, true, true, true, true, true, true, true, true, true, true, true, true, true, true, true, true, true, true, false, false, false, false, false, false, false, false, false, false, false, false, false, false, false, false, false, false, false, false, false, false, false, false, false, false, false, false] HT_.out HW_.out hHeld ?_
          refine pure_ (i := 19) (N := some 62) (v := ?_) (a' := ?_) #[true, true, true, true, true, true, true, true, true, true, true, true, true, true, true, true, true, true, true, true, false, false, false, false, false, false, false, false, false, false, false, false, false, false, false, false, false, false, false, false, false, false, false, false, false, false, false] rfl rfl (any_of HT_.out (by kernel_rfl)) (fun _ _ _ h => h) (Or.inl ⟨by rfl, ?_⟩) ?_ ?_
          rotate_left
          ·intro w'
           go_simp
           (try (simp only [Instr.field, asAgg]; go_simp))
           with_reducible rfl
          rotate_left
          ·simp only [Act.put, List.setIfInBounds_toArray, List.set_cons_zero, List.set_cons_succ, i64_w, i32_w]
           rfl
          refine pure_ (i := 20) (N := some 63) (v := ?_) (a' := ?_) #[true, true, true, true, true, true, true, true, true, true, true, true, true, true, true, true, true, true, true, true, true, false, false, false, false, false, false, false, false, false, false, false, false, false, false, false, false, false, false, false, false, false, false, false, false, false, false] rfl rfl (any_of HT_.out (by kernel_rfl)) (fun _ _ _ h => h) (Or.inl ⟨by rfl, ?_⟩) ?_ ?_
          rotate_left
          ·intro w'
           go_simp
           (try (simp only [Instr.field, asAgg]; go_simp))
           with_reducible rfl
          rotate_left
          ·simp only [Act.put, List.setIfInBounds_toArray, List.set_cons_zero, List.set_cons_succ, i64_w, i32_w]
           rfl
          refine pure_ (i := 21) (N := some 64) (v := ?_) (a' := ?_) #[true, true, true, true, true, true, true, true, true, true, true, true, true, true, true, true, true, true, true, true, true, true, false, false, false, false, false, false, false, false, false, false, false, false, false, false, false, false, false, false, false, false, false, false, false, false, false] rfl rfl (any_of HT_.out (by kernel_rfl)) (fun _ _ _ h => h) (Or.inl ⟨by rfl, ?_⟩) ?_ ?_
          rotate_left
          ·intro w'
           go_simp
           (try (simp only [Instr.field, asAgg]; go_simp))
           with_reducible rfl
          rotate_left
          ·simp only [Act.put, List.setIfInBounds_toArray, List.set_cons_zero, List.set_cons_succ, i64_w, i32_w]
           rfl
          refine pure_ (i := 22) (N := some 65) (v := ?_) (a' := ?_) #[true, true, true, true, true, true, true, true, true, true, true, true, true, true, true, true, true, true, true, true, true, true, true, false, false, false, false, false, false, false, false, false, false, false, false, false, false, false, false, false, false, false, false, false, false, false, false] rfl rfl (any_of HT_.out (by kernel_rfl)) (fun _ _ _ h => h) (Or.inl ⟨by rfl, ?_⟩) ?_ ?_
          rotate_left
          ·intro w'
           go_simp
           (try (simp only [Instr.field, asAgg]; go_simp))
           with_reducible rfl
          rotate_left
          ·simp only [Act.put, List.setIfInBounds_toArray, List.set_cons_zero, List.set_cons_succ, i64_w, i32_w]
           rfl
          refine pure_ (i := 23) (N := some 66) (v := ?_) (a' := ?_) #[true, true, true, true, true, true, true, true, true, true, true, true, true, true, true, true, true, true, true, true, true, true, true, true, false, false, false, false, false, false, false, false, false, false, false, false, false, false, false, false, false, false, false, false, false, false, false] rfl rfl (any_of HT_.out (by kernel_rfl)) (fun _ _ _ h => h) (Or.inl ⟨by rfl, ?_⟩) ?_ ?_
          rotate_left
          ·intro w'
           go_simp
           (try (simp only [Instr.field, asAgg]; go_simp))
           with_reducible rfl
          rotate_left
          ·simp only [Act.put, List.setIfInBounds_toArray, List.set_cons_zero, List.set_cons_succ, i64_w, i32_w]
           rfl
          refine pure_ (i := 26) (N := some 69) (v := ?_) (a' := ?_) #[true, true, true, true, true, true, true, true, true, true, true, true, true, true, true, true, true, true, true, true, true, true, true, true, false, false, true, false, false, false, false, false, false, false, false, false, false, false, false, false, false, false, false, false, false, false, false] rfl rfl (any_of HT_.out (by kernel_rfl)) (fun _ _ _ h => h) (Or.inl ⟨by rfl, ?_⟩) ?_ ?_
          rotate_left
          ·intro w'
           go_simp
           (try (simp only [Instr.field, asAgg]; go_simp))
           with_reducible rfl
          rotate_left
          ·simp only [Act.put, List.setIfInBounds_toArray, List.set_cons_zero, List.set_cons_succ, i64_w, i32_w]
           rfl
          refine q_t 24 (some 67) #[true, true, true, true, true, true, true, true, true, true, true, true, true, true, true, true, true, true, true, true, true, true, true, true, true, false, true, false, false, false, false, false, false, false, false, false, false, false, false, false, false, false, false, false, false, false, false] HT_.out HW_.out hHeld ?_
          refine pure_ (i := 25) (N := some 68) (v := ?_) (a' := ?_) #[true, true, true, true, true, true, true, true, true, true, true, true, true, true, true, true, true, true, true, true, true, true, true, true, true, true, true, false, false, false, false, false, false, false, false, false, false, false, false, false, false, false, false, false, false, false, false] rfl rfl (any_of HT_.out (by kernel_rfl)) (fun _ _ _ h => h) (Or.inl ⟨by rfl, ?_⟩) ?_ ?_
          rotate_left
          ·intro w'
           go_simp
           (try (simp only [Instr.field, asAgg]; go_simp))
           with_reducible rfl
          rotate_left
          ·simp only [Act.put, List.setIfInBounds_toArray, List.set_cons_zero, List.set_cons_succ, i64_w, i32_w]
           rfl
          refine q_t 27 (some 70) #[true, true, true, true, true, true, true, true, true, true, true, true, true, true, true, true, true, true, true, true, true, true, true, true, true, true, true, true, false, false, false, false, false, false, false, false, false, false, false, false, false, false, false, false, false, false, false] HT_.out HW_.out hHeld ?_
          refine pure_ (i := 28) (N := some 71) (v := ?_) (a' := ?_) #[true, true, true, true, true, true, true, true, true, true, true, true, true, true, true, true, true, true, true, true, true, true, true, true, true, true, true, true, true, false, false, false, false, false, false, false, false, false, false, false, false, false, false, false, false, false, false] rfl rfl (any_of HT_.out (by kernel_rfl)) (fun _ _ _ h => h) (Or.inl ⟨by rfl, ?_⟩) ?_ ?_
          rotate_left
          ·intro w'
           go_simp
           (try (simp only [Instr.field, asAgg]; go_simp))
           with_reducible rfl
          rotate_left
          ·simp only [Act.put, List.setIfInBounds_toArray, List.set_cons_zero, List.set_cons_succ, i64_w, i32_w]
           rfl
          refine pure_ (i := 29) (N := some 72) (v := ?_) (a' := ?_) #[true, true, true, true, true, true, true, true, true, true, true, true, true, true, true, true, true, true, true, true, true, true, true, true, true, true, true, true, true, true, false, false, false, false, false, false, false, false, false, false, false, false, false, false, false, false, false] rfl rfl (any_of HT_.out (by kernel_rfl)) (fun _ _ _ h => h) (Or.inl ⟨by rfl, ?_⟩) ?_ ?_
          rotate_left
          ·intro w'
           go_simp
           (try (simp only [Instr.field, asAgg]; go_simp))
           with_reducible rfl
          rotate_left
          ·simp only [Act.put, List.setIfInBounds_toArray, List.set_cons_zero, List.set_cons_succ, i64_w, i32_w]
           rfl
          refine pure_ (i := 30) (N := some 73) (v := ?_) (a' := ?_) #[true, true, true, true, true, true, true, true, true, true, true, true, true, true, true, true, true, true, true, true, true, true, true, true, true, true, true, true, true, true, true, false, false, false, false, false, false, false, false, false, false, false, false, false, false, false, false] rfl rfl (any_of HT_.out (by kernel_rfl)) (fun _ _ _ h => h) (Or.inl ⟨by rfl, ?_⟩) ?_ ?_
          rotate_left
          ·intro w'
           go_simp
           (try (simp only [Instr.field, asAgg]; go_simp))
           with_reducible rfl
          rotate_left
          ·simp only [Act.put, List.setIfInBounds_toArray, List.set_cons_zero, List.set_cons_succ, i64_w, i32_w]
           rfl
          refine pure_ (i := 31) (N := some 74) (v := ?_) (a' := ?_) #[true, true, true, true, true, true, true, true, true, true, true, true, true, true, true, true, true, true, true, true, true, true, true, true, true, true, true, true, true, true, true, true, false, false, false, false, false, false, false, false, false, false, false, false, false, false, false] rfl rfl (any_of HT_.out (by kernel_rfl)) (fun _ _ _ h => h) (Or.inl ⟨by rfl, ?_⟩) ?_ ?_
          rotate_left
          ·intro w'
           go_simp
           (try (simp only [Instr.field, asAgg]; go_simp))
           with_reducible rfl
          rotate_left
          ·simp only [Act.put, List.setIfInBounds_toArray, List.set_cons_zero, List.set_cons_succ, i64_w, i32_w]
           rfl
          refine pure_ (i := 32) (N := some 75) (v := ?_) (a' := ?_) #[true, true, true, true, true, true, true, true, true, true, true, true, true, true, true, true, true, true, true, true, true, true, true, true, true, true, true, true, true, true, true, true, true, false, false, false, false, false, false, false, false, false, false, false, false, false, false] rfl rfl (any_of HT_.out (by kernel_rfl)) (fun _ _ _ h => h) (Or.inl ⟨by rfl, ?_⟩) ?_ ?_
          rotate_left
          ·intro w'
           go_simp
           (try (simp only [Instr.field, asAgg]; go_simp))
           with_reducible rfl
          rotate_left
          ·simp only [Act.put, List.setIfInBounds_toArray, List.set_cons_zero, List.set_cons_succ, i64_w, i32_w]
           rfl
          refine q_t 33 (some 76) #[true, true, true, true, true, true, true, true, true, true, true, true, true, true, true, true, true, true, true, true, true, true, true, true, true, true, true, true, true, true, true, true, true, true, false, false, false, false, false, false, false, false, false, false, false, false, false] HT_.out HW_.out hHeld ?_
          refine pure_ (i := 34) (N := some 77) (v := ?_) (a' := ?_) #[true, true, true, true, true, true, true, true, true, true, true, true, true, true, true, true, true, true, true, true, true, true, true, true, true, true, true, true, true, true, true, true, true, true, true, false, false, false, false, false, false, false, false, false, false, false, false] rfl rfl (any_of HT_.out (by kernel_rfl)) (fun _ _ _ h => h) (Or.inl ⟨by rfl, ?_⟩) ?_ ?_
          rotate_left
          ·intro w'
           go_simp
           (try (simp only [Instr.field, asAgg]; go_simp))
           with_reducible rfl
          rotate_left
          ·simp only [Act.put, List.setIfInBounds_toArray, List.set_cons_zero, List.set_cons_succ, i64_w, i32_w]
           rfl
          refine pure_ (i := 35) (N := some 78) (v := ?_) (a' := ?_) #[true, true, true, true, true, true, true, true, true, true, true, true, true, true, true, true, true, true, true, true, true, true, true, true, true, true, true, true, true, true, true, true, true, true, true, true, false, false, false, false, false, false, false, false, false, false, false] rfl rfl (any_of HT_.out (by kernel_rfl)) (fun _ _ _ h => h) (Or.inl ⟨by rfl, ?_⟩) ?_ ?_
          rotate_left
          ·intro w'
           go_simp
           (try (simp only [Instr.field, asAgg]; go_simp))
           with_reducible rfl
          rotate_left
          ·simp only [Act.put, List.setIfInBounds_toArray, List.set_cons_zero, List.set_cons_succ, i64_w, i32_w]
           rfl
          refine pure_ (i := 36) (N := some 79) (v := ?_) (a' := ?_) #[true, true, true, true, true, true, true, true, true, true, true, true, true, true, true, true, true, true, true, true, true, true, true, true, true, true, true, true, true, true, true, true, true, true, true, true, true, false, false, false, false, false, false, false, false, false, false] rfl rfl (any_of HT_.out (by kernel_rfl)) (fun _ _ _ h => h) (Or.inl ⟨by rfl, ?_⟩) ?_ ?_
          rotate_left
          ·intro w'
           go_simp
           (try (simp only [Instr.field, asAgg]; go_simp))
           with_reducible rfl
          rotate_left
          ·simp only [Act.put, List.setIfInBounds_toArray, List.set_cons_zero, List.set_cons_succ, i64_w, i32_w]
           rfl
          refine pure_ (i := 37) (N := some 80) (v := ?_) (a' := ?_) #[true, true, true, true, true, true, true, true, true, true, true, true, true, true, true, true, true, true, true, true, true, true, true, true, true, true, true, true, true, true, true, true, true, true, true, true, true, true, false, false, false, false, false, false, false, false, false] rfl rfl (any_of HT_.out (by kernel_rfl)) (fun _ _ _ h => h) (Or.inl ⟨by rfl, ?_⟩) ?_ ?_
          rotate_left
          ·intro w'
           go_simp
           (try (simp only [Instr.field, asAgg]; go_simp))
           with_reducible rfl
          rotate_left
          ·simp only [Act.put, List.setIfInBounds_toArray, List.set_cons_zero, List.set_cons_succ, i64_w, i32_w]
           rfl
          refine pure_ (i := 41) (N := some 84) (v := ?_) (a' := ?_) #[true, true, true, true, true, true, true, true, true, true, true, true, true, true, true, true, true, true, true, true, true, true, true, true, true, true, true, true, true, true, true, true, true, true, true, true, true, true, false, false, false, true, false, false, false, false, false] rfl rfl (any_of HT_.out (by kernel_rfl)) (fun _ _ _ h => h) (Or.inl ⟨by rfl, ?_⟩) ?_ ?_
          rotate_left
          ·intro w'
           go_simp
           (try (simp only [Instr.field, asAgg]; go_simp))
           with_reducible rfl
          rotate_left
          ·simp only [Act.put, List.setIfInBounds_toArray, List.set_cons_zero, List.set_cons_succ, i64_w, i32_w]
           rfl
          refine pure_ (i := 42) (N := some 85) (v := ?_) (a' := ?_) #[true, true, true, true, true, true, true, true, true, true, true, true, true, true, true, true, true, true, true, true, true, true, true, true, true, true, true, true, true, true, true, true, true, true, true, true, true, true, false, false, false, true, true, false, false, false, false] rfl rfl (any_of HT_.out (by kernel_rfl)) (fun _ _ _ h => h) (Or.inl ⟨by rfl, ?_⟩) ?_ ?_
          rotate_left
          ·intro w'
           go_simp
           (try (simp only [Instr.field, asAgg]; go_simp))
           with_reducible rfl
          rotate_left
          ·simp only [Act.put, List.setIfInBounds_toArray, List.set_cons_zero, List.set_cons_succ, i64_w, i32_w]
           rfl
          refine q_t 38 (some 81) #[true, true, true, true, true, true, true, true, true, true, true, true, true, true, true, true, true, true, true, true, true, true, true, true, true, true, true, true, true, true, true, true, true, true, true, true, true, true, true, false, false, true, true, false, false, false, false] HT_.out HW_.out hHeld ?_
          refine q_t 43 (some 86) #[true, true, true, true, true, true, true, true, true, true, true, true, true, true, true, true, true, true, true, true, true, true, true, true, true, true, true, true, true, true, true, true, true, true, true, true, true, true, true, false, false, true, true, true, false, false, false] HT_.out HW_.out hHeld ?_
          refine pure_ (i := 44) (N := some 87) (v := ?_) (a' := ?_) #[true, true, true, true, true, true, true, true, true, true, true, true, true, true, true, true, true, true, true, true, true, true, true, true, true, true, true, true, true, true, true, true, true, true, true, true, true, true, true, false, false, true, true, true, true, false, false] rfl rfl (any_of HT_.out (by kernel_rfl)) (fun _ _ _ h => h) (Or.inl ⟨by rfl, ?_⟩) ?_ ?_
          rotate_left
          ·intro w'
           go_simp
           (try (simp only [Instr.field, asAgg]; go_simp))
           with_reducible rfl
          rotate_left
          ·simp only [Act.put, List.setIfInBounds_toArray, List.set_cons_zero, List.set_cons_succ, i64_w, i32_w]
           rfl
          refine one_ (i := 39) (N := some 82) #[true, true, true, true, true, true, true, true, true, true, true, true, true, true, true, true, true, true, true, true, true, true, true, true, true, true, true, true, true, true, true, true, true, true, true, true, true, true, true, true, false, true, true, true, true, false, false] rfl rfl (one_of HT_.out (by kernel_rfl)) (by decide) (fun K hK => ?_)
          refine goes_ Try.func48 (by kernel_rfl) rfl #[.agg #[.slice Ao69 t469.length co69, .slice Ao70 t472.length co70]] (by rfl) rfl rfl (by (try simp only [List.map_toArray, List.map_cons, List.map_nil]); first | done | rfl | (simp only [List.length_drop, List.length_take]; rfl)) ?_
          with_reducible refine (impl_ReadLog.calls k (fun k_ => some k_ = (.slice Ao69 t469.length co69 : Value).ownBlock) _ _ t469 (fun k_ => some k_ = (.slice Ao70 t472.length co70 : Value).ownBlock) _ _ t472 t476 t477 t478 _ ?side1 ?side2 A17.out).mono ?_
          (case side1 => exact Kd.R_V (Kd.R_tight rfl (Kd.R_types (Kd.R_types (Kd.R_types (Kd.R_types (Kd.R_types (Kd.R_types (Kd.R_apart' (Kd.R_apart' (Kd.R_apart' (HO471.out) (Kd.N_typed HO454.out) (by decide)) (Kd.N_typed HO460.out) (by decide)) (Kd.N_typed HO466.out) (by decide)) BK441.out (by decide)) BK449.out (by decide)) BK455.out (by decide)) BK461.out (by decide)) BK467.out (by decide)) BK475.out (by decide))))
          (case side2 => exact Kd.R_V (Kd.R_tight rfl (Kd.R_types (Kd.R_types (Kd.R_types (Kd.R_types (Kd.R_types (Kd.R_types (Kd.R_apart' (Kd.R_apart' (Kd.R_apart' (HO474.out) (Kd.N_typed HO454.out) (by decide)) (Kd.N_typed HO460.out) (by decide)) (Kd.N_typed HO466.out) (by decide)) BK441.out (by decide)) BK449.out (by decide)) BK455.out (by decide)) BK461.out (by decide)) BK467.out (by decide)) BK475.out (by decide))))
          rintro e w73 ⟨v479, rfl, ho0, hb⟩
          refine ⟨_, rfl, ?_⟩
          have n0_ := Aside0.mk (Kd.R_below (q_r (HO436.out)) hb)
          have n1_ := Aside0.mk (Kd.R_below (q_r (HO439.out)) hb)
          have n2_ := Aside0.mk (Kd.R_below (q_r (HO445.out)) hb)
          have n3_ := Aside0.mk (Kd.R_below (q_r (HO448.out)) hb)
          have n4_ := Aside0.mk (Kd.N_elder' (by (with_reducible repeat (first | apply Kd.N_alloc | apply Kd.N_drewN | apply Kd.N_drew)); exact HO454.out) (by first | exact Kd.N_base ho0 | exact Kd.R_base (Kd.S_R ho0)) hb)
          have n5_ := Aside0.mk (Kd.N_elder' (by (with_reducible repeat (first | apply Kd.N_alloc | apply Kd.N_drewN | apply Kd.N_drew)); exact HO460.out) (by first | exact Kd.N_base ho0 | exact Kd.R_base (Kd.S_R ho0)) hb)
          have n6_ := Aside0.mk (Kd.N_elder' (by (with_reducible repeat (first | apply Kd.N_alloc | apply Kd.N_drewN | apply Kd.N_drew)); exact HO466.out) (by first | exact Kd.N_base ho0 | exact Kd.R_base (Kd.S_R ho0)) hb)
          have n7_ := Aside0.mk (Kd.R_below (q_r (HO471.out)) hb)
          have n8_ := Aside0.mk (Kd.R_below (q_r (HO474.out)) hb)
          have n9_ := Aside0.mk (Kd.N_lower (Kd.N_mono (ok' := fun k_ => some k_ ≠ (.slice Ao21 t434.length co21 : Value).ownBlock ∧ some k_ ≠ (.slice Ao23 t437.length co23 : Value).ownBlock ∧ some k_ ≠ (.slice Ao30 t443.length co30 : Value).ownBlock ∧ some k_ ≠ (.slice Ao31 t446.length co31 : Value).ownBlock ∧ some k_ ≠ (.slice Ao40 t452.length co40 : Value).ownBlock ∧ some k_ ≠ (.slice Ao49 t458.length co49 : Value).ownBlock ∧ some k_ ≠ (.slice Ao59 t464.length co59 : Value).ownBlock ∧ k_ ≠ gb441 ∧ k_ ≠ gb449 ∧ k_ ≠ gb455 ∧ k_ ≠ gb461 ∧ k_ ≠ gb467 ∧ k_ ≠ gb475) ho0 (fun k_ hk_ => ⟨Or.elim hk_ (fun hs_ => Or.elim hs_ (fun hs_ => ((Kd.R_types (Kd.R_types (Kd.R_types (Kd.R_types (Kd.R_types (Kd.R_types (Kd.R_apart' (Kd.R_apart' (Kd.R_apart' (HO471.out) (Kd.N_typed HO454.out) (by decide)) (Kd.N_typed HO460.out) (by decide)) (Kd.N_typed HO466.out) (by decide)) BK441.out (by decide)) BK449.out (by decide)) BK455.out (by decide)) BK461.out (by decide)) BK467.out (by decide)) BK475.out (by decide)).1 k_ hs_.symm).1.1.1.1.1.1.1.1.1.1) (fun hs_ => ((Kd.R_types (Kd.R_types (Kd.R_types (Kd.R_types (Kd.R_types (Kd.R_types (Kd.R_apart' (Kd.R_apart' (Kd.R_apart' (HO474.out) (Kd.N_typed HO454.out) (by decide)) (Kd.N_typed HO460.out) (by decide)) (Kd.N_typed HO466.out) (by decide)) BK441.out (by decide)) BK449.out (by decide)) BK455.out (by decide)) BK461.out (by decide)) BK467.out (by decide)) BK475.out (by decide)).1 k_ hs_.symm).1.1.1.1.1.1.1.1.1.1)) (fun hn_ => (Kd.fresh' (Kd.R_lt (q_r (HO436.out))) k_ hn_)), Or.elim hk_ (fun hs_ => Or.elim hs_ (fun hs_ => ((Kd.R_types (Kd.R_types (Kd.R_types (Kd.R_types (Kd.R_types (Kd.R_types (Kd.R_apart' (Kd.R_apart' (Kd.R_apart' (HO471.out) (Kd.N_typed HO454.out) (by decide)) (Kd.N_typed HO460.out) (by decide)) (Kd.N_typed HO466.out) (by decide)) BK441.out (by decide)) BK449.out (by decide)) BK455.out (by decide)) BK461.out (by decide)) BK467.out (by decide)) BK475.out (by decide)).1 k_ hs_.symm).1.1.1.1.1.1.1.1.1.2.1) (fun hs_ => ((Kd.R_types (Kd.R_types (Kd.R_types (Kd.R_types (Kd.R_types (Kd.R_types (Kd.R_apart' (Kd.R_apart' (Kd.R_apart' (HO474.out) (Kd.N_typed HO454.out) (by decide)) (Kd.N_typed HO460.out) (by decide)) (Kd.N_typed HO466.out) (by decide)) BK441.out (by decide)) BK449.out (by decide)) BK455.out (by decide)) BK461.out (by decide)) BK467.out (by decide)) BK475.out (by decide)).1 k_ hs_.symm).1.1.1.1.1.1.1.1.1.2.1)) (fun hn_ => (Kd.fresh' (Kd.R_lt (q_r (HO439.out))) k_ hn_)), Or.elim hk_ (fun hs_ => Or.elim hs_ (fun hs_ => ((Kd.R_types (Kd.R_types (Kd.R_types (Kd.R_types (Kd.R_types (Kd.R_types (Kd.R_apart' (Kd.R_apart' (Kd.R_apart' (HO471.out) (Kd.N_typed HO454.out) (by decide)) (Kd.N_typed HO460.out) (by decide)) (Kd.N_typed HO466.out) (by decide)) BK441.out (by decide)) BK449.out (by decide)) BK455.out (by decide)) BK461.out (by decide)) BK467.out (by decide)) BK475.out (by decide)).1 k_ hs_.symm).1.1.1.1.1.1.1.1.1.2.2.1) (fun hs_ => ((Kd.R_types (Kd.R_types (Kd.R_types (Kd.R_types (Kd.R_types (Kd.R_types (Kd.R_apart' (Kd.R_apart' (Kd.R_apart' (HO474.out) (Kd.N_typed HO454.out) (by decide)) (Kd.N_typed HO460.out) (by decide)) (Kd.N_typed HO466.out) (by decide)) BK441.out (by decide)) BK449.out (by decide)) BK455.out (by decide)) BK461.out (by decide)) BK467.out (by decide)) BK475.out (by decide)).1 k_ hs_.symm).1.1.1.1.1.1.1.1.1.2.2.1)) (fun hn_ => (Kd.fresh' (Kd.R_lt (q_r (HO445.out))) k_ hn_)), Or.elim hk_ (fun hs_ => Or.elim hs_ (fun hs_ => ((Kd.R_types (Kd.R_types (Kd.R_types (Kd.R_types (Kd.R_types (Kd.R_types (Kd.R_apart' (Kd.R_apart' (Kd.R_apart' (HO471.out) (Kd.N_typed HO454.out) (by decide)) (Kd.N_typed HO460.out) (by decide)) (Kd.N_typed HO466.out) (by decide)) BK441.out (by decide)) BK449.out (by decide)) BK455.out (by decide)) BK461.out (by decide)) BK467.out (by decide)) BK475.out (by decide)).1 k_ hs_.symm).1.1.1.1.1.1.1.1.1.2.2.2.1) (fun hs_ => ((Kd.R_types (Kd.R_types (Kd.R_types (Kd.R_types (Kd.R_types (Kd.R_types (Kd.R_apart' (Kd.R_apart' (Kd.R_apart' (HO474.out) (Kd.N_typed HO454.out) (by decide)) (Kd.N_typed HO460.out) (by decide)) (Kd.N_typed HO466.out) (by decide)) BK441.out (by decide)) BK449.out (by decide)) BK455.out (by decide)) BK461.out (by decide)) BK467.out (by decide)) BK475.out (by decide)).1 k_ hs_.symm).1.1.1.1.1.1.1.1.1.2.2.2.1)) (fun hn_ => (Kd.fresh' (Kd.R_lt (q_r (HO448.out))) k_ hn_)), Or.elim hk_ (fun hs_ => Or.elim hs_ (fun hs_ => ((Kd.R_types (Kd.R_types (Kd.R_types (Kd.R_types (Kd.R_types (Kd.R_types (Kd.R_apart' (Kd.R_apart' (Kd.R_apart' (HO471.out) (Kd.N_typed HO454.out) (by decide)) (Kd.N_typed HO460.out) (by decide)) (Kd.N_typed HO466.out) (by decide)) BK441.out (by decide)) BK449.out (by decide)) BK455.out (by decide)) BK461.out (by decide)) BK467.out (by decide)) BK475.out (by decide)).1 k_ hs_.symm).1.1.1.1.1.1.1.1.2) (fun hs_ => ((Kd.R_types (Kd.R_types (Kd.R_types (Kd.R_types (Kd.R_types (Kd.R_types (Kd.R_apart' (Kd.R_apart' (Kd.R_apart' (HO474.out) (Kd.N_typed HO454.out) (by decide)) (Kd.N_typed HO460.out) (by decide)) (Kd.N_typed HO466.out) (by decide)) BK441.out (by decide)) BK449.out (by decide)) BK455.out (by decide)) BK461.out (by decide)) BK467.out (by decide)) BK475.out (by decide)).1 k_ hs_.symm).1.1.1.1.1.1.1.1.2)) (fun hn_ => (Kd.fresh' (Kd.N_lt (by (with_reducible repeat (first | apply Kd.N_alloc | apply Kd.N_drewN | apply Kd.N_drew)); exact HO454.out)) k_ hn_)), Or.elim hk_ (fun hs_ => Or.elim hs_ (fun hs_ => ((Kd.R_types (Kd.R_types (Kd.R_types (Kd.R_types (Kd.R_types (Kd.R_types (Kd.R_apart' (Kd.R_apart' (Kd.R_apart' (HO471.out) (Kd.N_typed HO454.out) (by decide)) (Kd.N_typed HO460.out) (by decide)) (Kd.N_typed HO466.out) (by decide)) BK441.out (by decide)) BK449.out (by decide)) BK455.out (by decide)) BK461.out (by decide)) BK467.out (by decide)) BK475.out (by decide)).1 k_ hs_.symm).1.1.1.1.1.1.1.2) (fun hs_ => ((Kd.R_types (Kd.R_types (Kd.R_types (Kd.R_types (Kd.R_types (Kd.R_types (Kd.R_apart' (Kd.R_apart' (Kd.R_apart' (HO474.out) (Kd.N_typed HO454.out) (by decide)) (Kd.N_typed HO460.out) (by decide)) (Kd.N_typed HO466.out) (by decide)) BK441.out (by decide)) BK449.out (by decide)) BK455.out (by decide)) BK461.out (by decide)) BK467.out (by decide)) BK475.out (by decide)).1 k_ hs_.symm).1.1.1.1.1.1.1.2)) (fun hn_ => (Kd.fresh' (Kd.N_lt (by (with_reducible repeat (first | apply Kd.N_alloc | apply Kd.N_drewN | apply Kd.N_drew)); exact HO460.out)) k_ hn_)), Or.elim hk_ (fun hs_ => Or.elim hs_ (fun hs_ => ((Kd.R_types (Kd.R_types (Kd.R_types (Kd.R_types (Kd.R_types (Kd.R_types (Kd.R_apart' (Kd.R_apart' (Kd.R_apart' (HO471.out) (Kd.N_typed HO454.out) (by decide)) (Kd.N_typed HO460.out) (by decide)) (Kd.N_typed HO466.out) (by decide)) BK441.out (by decide)) BK449.out (by decide)) BK455.out (by decide)) BK461.out (by decide)) BK467.out (by decide)) BK475.out (by decide)).1 k_ hs_.symm).1.1.1.1.1.1.2) (fun hs_ => ((Kd.R_types (Kd.R_types (Kd.R_types (Kd.R_types (Kd.R_types (Kd.R_types (Kd.R_apart' (Kd.R_apart' (Kd.R_apart' (HO474.out) (Kd.N_typed HO454.out) (by decide)) (Kd.N_typed HO460.out) (by decide)) (Kd.N_typed HO466.out) (by decide)) BK441.out (by decide)) BK449.out (by decide)) BK455.out (by decide)) BK461.out (by decide)) BK467.out (by decide)) BK475.out (by decide)).1 k_ hs_.symm).1.1.1.1.1.1.2)) (fun hn_ => (Kd.fresh' (Kd.N_lt (by (with_reducible repeat (first | apply Kd.N_alloc | apply Kd.N_drewN | apply Kd.N_drew)); exact HO466.out)) k_ hn_)), Or.elim hk_ (fun hs_ => Or.elim hs_ (fun hs_ => ((Kd.R_types (Kd.R_types (Kd.R_types (Kd.R_types (Kd.R_types (Kd.R_types (Kd.R_apart' (Kd.R_apart' (Kd.R_apart' (HO471.out) (Kd.N_typed HO454.out) (by decide)) (Kd.N_typed HO460.out) (by decide)) (Kd.N_typed HO466.out) (by decide)) BK441.out (by decide)) BK449.out (by decide)) BK455.out (by decide)) BK461.out (by decide)) BK467.out (by decide)) BK475.out (by decide)).1 k_ hs_.symm).1.1.1.1.1.2) (fun hs_ => ((Kd.R_types (Kd.R_types (Kd.R_types (Kd.R_types (Kd.R_types (Kd.R_types (Kd.R_apart' (Kd.R_apart' (Kd.R_apart' (HO474.out) (Kd.N_typed HO454.out) (by decide)) (Kd.N_typed HO460.out) (by decide)) (Kd.N_typed HO466.out) (by decide)) BK441.out (by decide)) BK449.out (by decide)) BK455.out (by decide)) BK461.out (by decide)) BK467.out (by decide)) BK475.out (by decide)).1 k_ hs_.symm).1.1.1.1.1.2)) (fun hn_ => (Kd.freshB (q_b BK441.out) k_ hn_)), Or.elim hk_ (fun hs_ => Or.elim hs_ (fun hs_ => ((Kd.R_types (Kd.R_types (Kd.R_types (Kd.R_types (Kd.R_types (Kd.R_types (Kd.R_apart' (Kd.R_apart' (Kd.R_apart' (HO471.out) (Kd.N_typed HO454.out) (by decide)) (Kd.N_typed HO460.out) (by decide)) (Kd.N_typed HO466.out) (by decide)) BK441.out (by decide)) BK449.out (by decide)) BK455.out (by decide)) BK461.out (by decide)) BK467.out (by decide)) BK475.out (by decide)).1 k_ hs_.symm).1.1.1.1.2) (fun hs_ => ((Kd.R_types (Kd.R_types (Kd.R_types (Kd.R_types (Kd.R_types (Kd.R_types (Kd.R_apart' (Kd.R_apart' (Kd.R_apart' (HO474.out) (Kd.N_typed HO454.out) (by decide)) (Kd.N_typed HO460.out) (by decide)) (Kd.N_typed HO466.out) (by decide)) BK441.out (by decide)) BK449.out (by decide)) BK455.out (by decide)) BK461.out (by decide)) BK467.out (by decide)) BK475.out (by decide)).1 k_ hs_.symm).1.1.1.1.2)) (fun hn_ => (Kd.freshB (q_b BK449.out) k_ hn_)), Or.elim hk_ (fun hs_ => Or.elim hs_ (fun hs_ => ((Kd.R_types (Kd.R_types (Kd.R_types (Kd.R_types (Kd.R_types (Kd.R_types (Kd.R_apart' (Kd.R_apart' (Kd.R_apart' (HO471.out) (Kd.N_typed HO454.out) (by decide)) (Kd.N_typed HO460.out) (by decide)) (Kd.N_typed HO466.out) (by decide)) BK441.out (by decide)) BK449.out (by decide)) BK455.out (by decide)) BK461.out (by decide)) BK467.out (by decide)) BK475.out (by decide)).1 k_ hs_.symm).1.1.1.2) (fun hs_ => ((Kd.R_types (Kd.R_types (Kd.R_types (Kd.R_types (Kd.R_types (Kd.R_types (Kd.R_apart' (Kd.R_apart' (Kd.R_apart' (HO474.out) (Kd.N_typed HO454.out) (by decide)) (Kd.N_typed HO460.out) (by decide)) (Kd.N_typed HO466.out) (by decide)) BK441.out (by decide)) BK449.out (by decide)) BK455.out (by decide)) BK461.out (by decide)) BK467.out (by decide)) BK475.out (by decide)).1 k_ hs_.symm).1.1.1.2)) (fun hn_ => (Kd.freshB (q_b BK455.out) k_ hn_)), Or.elim hk_ (fun hs_ => Or.elim hs_ (fun hs_ => ((Kd.R_types (Kd.R_types (Kd.R_types (Kd.R_types (Kd.R_types (Kd.R_types (Kd.R_apart' (Kd.R_apart' (Kd.R_apart' (HO471.out) (Kd.N_typed HO454.out) (by decide)) (Kd.N_typed HO460.out) (by decide)) (Kd.N_typed HO466.out) (by decide)) BK441.out (by decide)) BK449.out (by decide)) BK455.out (by decide)) BK461.out (by decide)) BK467.out (by decide)) BK475.out (by decide)).1 k_ hs_.symm).1.1.2) (fun hs_ => ((Kd.R_types (Kd.R_types (Kd.R_types (Kd.R_types (Kd.R_types (Kd.R_types (Kd.R_apart' (Kd.R_apart' (Kd.R_apart' (HO474.out) (Kd.N_typed HO454.out) (by decide)) (Kd.N_typed HO460.out) (by decide)) (Kd.N_typed HO466.out) (by decide)) BK441.out (by decide)) BK449.out (by decide)) BK455.out (by decide)) BK461.out (by decide)) BK467.out (by decide)) BK475.out (by decide)).1 k_ hs_.symm).1.1.2)) (fun hn_ => (Kd.freshB (q_b BK461.out) k_ hn_)), Or.elim hk_ (fun hs_ => Or.elim hs_ (fun hs_ => ((Kd.R_types (Kd.R_types (Kd.R_types (Kd.R_types (Kd.R_types (Kd.R_types (Kd.R_apart' (Kd.R_apart' (Kd.R_apart' (HO471.out) (Kd.N_typed HO454.out) (by decide)) (Kd.N_typed HO460.out) (by decide)) (Kd.N_typed HO466.out) (by decide)) BK441.out (by decide)) BK449.out (by decide)) BK455.out (by decide)) BK461.out (by decide)) BK467.out (by decide)) BK475.out (by decide)).1 k_ hs_.symm).1.2) (fun hs_ => ((Kd.R_types (Kd.R_types (Kd.R_types (Kd.R_types (Kd.R_types (Kd.R_types (Kd.R_apart' (Kd.R_apart' (Kd.R_apart' (HO474.out) (Kd.N_typed HO454.out) (by decide)) (Kd.N_typed HO460.out) (by decide)) (Kd.N_typed HO466.out) (by decide)) BK441.out (by decide)) BK449.out (by decide)) BK455.out (by decide)) BK461.out (by decide)) BK467.out (by decide)) BK475.out (by decide)).1 k_ hs_.symm).1.2)) (fun hn_ => (Kd.freshB (q_b BK467.out) k_ hn_)), Or.elim hk_ (fun hs_ => Or.elim hs_ (fun hs_ => ((Kd.R_types (Kd.R_types (Kd.R_types (Kd.R_types (Kd.R_types (Kd.R_types (Kd.R_apart' (Kd.R_apart' (Kd.R_apart' (HO471.out) (Kd.N_typed HO454.out) (by decide)) (Kd.N_typed HO460.out) (by decide)) (Kd.N_typed HO466.out) (by decide)) BK441.out (by decide)) BK449.out (by decide)) BK455.out (by decide)) BK461.out (by decide)) BK467.out (by decide)) BK475.out (by decide)).1 k_ hs_.symm).2) (fun hs_ => ((Kd.R_types (Kd.R_types (Kd.R_types (Kd.R_types (Kd.R_types (Kd.R_types (Kd.R_apart' (Kd.R_apart' (Kd.R_apart' (HO474.out) (Kd.N_typed HO454.out) (by decide)) (Kd.N_typed HO460.out) (by decide)) (Kd.N_typed HO466.out) (by decide)) BK441.out (by decide)) BK449.out (by decide)) BK455.out (by decide)) BK461.out (by decide)) BK467.out (by decide)) BK475.out (by decide)).1 k_ hs_.symm).2)) (fun hn_ => (Kd.freshB (q_b BK475.out) k_ hn_))⟩)) (below_size bq))
          have n10_ := Aside0.mk (blk_below (q_b BK441.out) hb)
          have n11_ := Aside0.mk (blk_below (q_b BK449.out) hb)
          have n12_ := Aside0.mk (blk_below (q_b BK455.out) hb)
          have n13_ := Aside0.mk (blk_below (q_b BK461.out) hb)
          have n14_ := Aside0.mk (blk_below (q_b BK467.out) hb)
          have n15_ := Aside0.mk (blk_below (q_b BK475.out) hb)
          have n16_ := Aside0.mk (below_step bq hb)
          clear HO436
          clear HO439
          clear HO445
          clear HO448
          clear HO454
          clear HO460
          clear HO466
          clear HO471
          clear HO474
          clear BK441
          clear BK449
          clear BK455
          clear BK461
          clear BK467
          clear BK475
          clear HB
          have HO436 := n0_
          have HO439 := n1_
          have HO445 := n2_
          have HO448 := n3_
          have HO454 := n4_
          have HO460 := n5_
          have HO466 := n6_
          have HO471 := n7_
          have HO474 := n8_
          have HO480 := n9_
          have BK441 := n10_
          have BK449 := n11_
          have BK455 := n12_
          have BK461 := n13_
          have BK467 := n14_
          have BK475 := n15_
          have HB := n16_
          clear n0_ n1_ n2_ n3_ n4_ n5_ n6_ n7_ n8_ n9_ n10_ n11_ n12_ n13_ n14_ n15_ n16_
          (try clear hb)
          (try clear hb2)
          (try clear hk)
          (try clear hi)
          (try clear ho0)
          refine hK.out _ _ ⟨q_z BK455.out 0, q_z BK455.out 1, q_z BK455.out 2, q_z BK461.out 0, q_z BK461.out 1, q_z BK461.out 2, q_z BK467.out 0, q_z BK467.out 1, q_z BK467.out 2, q_z BK475.out 0, q_z BK475.out 1, q_z BK475.out 2⟩ (fun hHeld => ?_)
          clear hK K
          refine norm_ (a' := ?_) ?_ ?_
          rotate_left
          ·show Act.put _ (some 82) _ = _
           simp only [Act.put, List.setIfInBounds_toArray, List.set_cons_zero, List.set_cons_succ, i64_w, i32_w]
           rfl
          refine pure_ (i := 40) (N := some 83) (v := ?_) (a' := ?_) #[true, true, true, true, true, true, true, true, true, true, true, true, true, true, true, true, true, true, true, true, true, true, true, true, true, true, true, true, true, true, true, true, true, true, true, true, true, true, true, true, true, true, true, true, true, false, false] rfl rfl (any_of HT_.out (by kernel_rfl)) (fun _ _ _ h => h) (Or.inl ⟨by rfl, ?_⟩) ?_ ?_
          rotate_left
          ·intro w'
           go_simp
           (try (simp only [Instr.field, asAgg]; go_simp))
           with_reducible rfl
          rotate_left
          ·simp only [Act.put, List.setIfInBounds_toArray, List.set_cons_zero, List.set_cons_succ, i64_w, i32_w]
           rfl
          refine pure_ (i := 45) (N := some 88) (v := ?_) (a' := ?_) #[true, true, true, true, true, true, true, true, true, true, true, true, true, true, true, true, true, true, true, true, true, true, true, true, true, true, true, true, true, true, true, true, true, true, true, true, true, true, true, true, true, true, true, true, true, true, false] rfl rfl (any_of HT_.out (by kernel_rfl)) (fun _ _ _ h => h) (Or.inl ⟨by rfl, ?_⟩) ?_ ?_
          rotate_left
          ·intro w'
           go_simp
           (try (simp only [Instr.field, asAgg]; go_simp))
           with_reducible rfl
          rotate_left
          ·simp only [Act.put, List.setIfInBounds_toArray, List.set_cons_zero, List.set_cons_succ, i64_w, i32_w]
           rfl
          refine pure_ (i := 46) (N := some 89) (v := ?_) (a' := ?_) #[true, true, true, true, true, true, true, true, true, true, true, true, true, true, true, true, true, true, true, true, true, true, true, true, true, true, true, true, true, true, true, true, true, true, true, true, true, true, true, true, true, true, true, true, true, true, true] rfl rfl (any_of HT_.out (by kernel_rfl)) (fun _ _ _ h => h) (Or.inl ⟨by rfl, ?_⟩) ?_ ?_
          rotate_left
          ·intro w'
           go_simp
           (try (simp only [Instr.field, asAgg]; go_simp))
           with_reducible rfl
          rotate_left
          ·simp only [Act.put, List.setIfInBounds_toArray, List.set_cons_zero, List.set_cons_succ, i64_w, i32_w]
           rfl
          refine done_ (done_of HT_.out (by kernel_rfl)) ?_
          try go_wp2
          go_loopg [10] k (fun kq v10 w' => ∃ (x10_1 : Int), v10 = .int .i64 x10_1 ∧ Aside0 (laws_FnCrashLogs.l0 kq x10_1 t434 t437 t456 t457 t458 t462 t463 t464 = some r) ∧ Aside0 (kq ≤ k) ∧ Aside0 (Kd.R (Kd.int .u8) 5 w' w.heap.size (fun k_ => some k_ ≠ ((.slice Ao23 t437.length co23) : Value).ownBlock ∧ some k_ ≠ ((.slice Ao30 t443.length co30) : Value).ownBlock ∧ some k_ ≠ ((.slice Ao31 t446.length co31) : Value).ownBlock ∧ some k_ ≠ ((.slice Ao69 t469.length co69) : Value).ownBlock ∧ some k_ ≠ ((.slice Ao70 t472.length co70) : Value).ownBlock) (.slice Ao21 t434.length co21) t434) ∧ Aside0 (Kd.R (Kd.int .u8) 5 w' w.heap.size (fun k_ => some k_ ≠ ((.slice Ao21 t434.length co21) : Value).ownBlock ∧ some k_ ≠ ((.slice Ao30 t443.length co30) : Value).ownBlock ∧ some k_ ≠ ((.slice Ao31 t446.length co31) : Value).ownBlock ∧ some k_ ≠ ((.slice Ao69 t469.length co69) : Value).ownBlock ∧ some k_ ≠ ((.slice Ao70 t472.length co70) : Value).ownBlock) (.slice Ao23 t437.length co23) t437) ∧ Aside0 (Kd.R (Kd.int .u8) 5 w' w.heap.size (fun k_ => some k_ ≠ ((.slice Ao21 t434.length co21) : Value).ownBlock ∧ some k_ ≠ ((.slice Ao23 t437.length co23) : Value).ownBlock ∧ some k_ ≠ ((.slice Ao31 t446.length co31) : Value).ownBlock ∧ some k_ ≠ ((.slice Ao69 t469.length co69) : Value).ownBlock ∧ some k_ ≠ ((.slice Ao70 t472.length co70) : Value).ownBlock) (.slice Ao30 t443.length co30) t443) ∧ Aside0 (Kd.R (Kd.int .u8) 5 w' w.heap.size (fun k_ => some k_ ≠ ((.slice Ao21 t434.length co21) : Value).ownBlock ∧ some k_ ≠ ((.slice Ao23 t437.length co23) : Value).ownBlock ∧ some k_ ≠ ((.slice Ao30 t443.length co30) : Value).ownBlock ∧ some k_ ≠ ((.slice Ao69 t469.length co69) : Value).ownBlock ∧ some k_ ≠ ((.slice Ao70 t472.length co70) : Value).ownBlock) (.slice Ao31 t446.length co31) t446) ∧ Aside0 (Kd.N (Kd.slice 5 (Kd.int .u8)) 22 w' w.heap.size (fun k_ => some k_ ≠ ((.slice Ao23 t437.length co23) : Value).ownBlock ∧ some k_ ≠ ((.slice Ao30 t443.length co30) : Value).ownBlock ∧ some k_ ≠ ((.slice Ao31 t446.length co31) : Value).ownBlock ∧ some k_ ≠ ((.slice Ao49 t458.length co49) : Value).ownBlock ∧ some k_ ≠ ((.slice Ao59 t464.length co59) : Value).ownBlock ∧ some k_ ≠ ((.slice Ao69 t469.length co69) : Value).ownBlock ∧ some k_ ≠ ((.slice Ao70 t472.length co70) : Value).ownBlock ∧ k_ ≠ gb441 ∧ k_ ≠ gb449 ∧ k_ ≠ gb455 ∧ k_ ≠ gb461 ∧ k_ ≠ gb467 ∧ k_ ≠ gb475) (.slice Ao40 t452.length co40) t452) ∧ Aside0 (Kd.N (Kd.slice 5 (Kd.int .u8)) 22 w' w.heap.size (fun k_ => some k_ ≠ ((.slice Ao30 t443.length co30) : Value).ownBlock ∧ some k_ ≠ ((.slice Ao31 t446.length co31) : Value).ownBlock ∧ some k_ ≠ ((.slice Ao40 t452.length co40) : Value).ownBlock ∧ some k_ ≠ ((.slice Ao59 t464.length co59) : Value).ownBlock ∧ some k_ ≠ ((.slice Ao69 t469.length co69) : Value).ownBlock ∧ some k_ ≠ ((.slice Ao70 t472.length co70) : Value).ownBlock ∧ k_ ≠ gb441 ∧ k_ ≠ gb449 ∧ k_ ≠ gb455 ∧ k_ ≠ gb461 ∧ k_ ≠ gb467 ∧ k_ ≠ gb475) (.slice Ao49 t458.length co49) t458) ∧ Aside0 (Kd.N (Kd.slice 5 (Kd.int .u8)) 22 w' w.heap.size (fun k_ => some k_ ≠ ((.slice Ao21 t434.length co21) : Value).ownBlock ∧ some k_ ≠ ((.slice Ao23 t437.length co23) : Value).ownBlock ∧ some k_ ≠ ((.slice Ao40 t452.length co40) : Value).ownBlock ∧ some k_ ≠ ((.slice Ao49 t458.length co49) : Value).ownBlock ∧ some k_ ≠ ((.slice Ao69 t469.length co69) : Value).ownBlock ∧ some k_ ≠ ((.slice Ao70 t472.length co70) : Value).ownBlock ∧ k_ ≠ gb441 ∧ k_ ≠ gb449 ∧ k_ ≠ gb455 ∧ k_ ≠ gb461 ∧ k_ ≠ gb467 ∧ k_ ≠ gb475) (.slice Ao59 t464.length co59) t464) ∧ Aside0 (Kd.R (Kd.int .u8) 5 w' w.heap.size (fun k_ => some k_ ≠ ((.slice Ao21 t434.length co21) : Value).ownBlock ∧ some k_ ≠ ((.slice Ao23 t437.length co23) : Value).ownBlock ∧ some k_ ≠ ((.slice Ao30 t443.length co30) : Value).ownBlock ∧ some k_ ≠ ((.slice Ao31 t446.length co31) : Value).ownBlock ∧ some k_ ≠ ((.slice Ao70 t472.length co70) : Value).ownBlock) (.slice Ao69 t469.length co69) t469) ∧ Aside0 (Kd.R (Kd.int .u8) 5 w' w.heap.size (fun k_ => some k_ ≠ ((.slice Ao21 t434.length co21) : Value).ownBlock ∧ some k_ ≠ ((.slice Ao23 t437.length co23) : Value).ownBlock ∧ some k_ ≠ ((.slice Ao30 t443.length co30) : Value).ownBlock ∧ some k_ ≠ ((.slice Ao31 t446.length co31) : Value).ownBlock ∧ some k_ ≠ ((.slice Ao69 t469.length co69) : Value).ownBlock) (.slice Ao70 t472.length co70) t472) ∧ Aside0 (w'.heap[gb441]? = some (.cells #[(.slice Ao21 t434.length co21), (.slice Ao23 t437.length co23)] 27 (0, 0))) ∧ Aside0 (w'.heap[gb449]? = some (.cells #[.int .i64 t442, (.slice Ao30 t443.length co30), (.slice Ao31 t446.length co31)] 46 (0, 0))) ∧ Aside0 (w'.heap[gb455]? = some (.cells #[.int .i64 t450, .int .i64 t451, (.slice Ao40 t452.length co40)] 43 (0, 0))) ∧ Aside0 (w'.heap[gb461]? = some (.cells #[.int .i64 t456, .int .i64 t457, (.slice Ao49 t458.length co49)] 43 (0, 0))) ∧ Aside0 (w'.heap[gb467]? = some (.cells #[.int .i64 t462, .int .i64 t463, (.slice Ao59 t464.length co59)] 43 (0, 0))) ∧ Aside0 (w'.heap[gb475]? = some (.cells #[.int .i64 t468, (.slice Ao69 t469.length co69), (.slice Ao70 t472.length co70)] 46 (0, 0))) ∧ Aside0 (Below w.heap.size w w'))
          case atStart => exact ⟨(0), q_i, H', ⟨Nat.le_refl _⟩, ⟨q_r (HO436.out)⟩, ⟨q_r (HO439.out)⟩, ⟨q_r (HO445.out)⟩, ⟨q_r (HO448.out)⟩, ⟨by (with_reducible repeat (first | apply Kd.N_alloc | apply Kd.N_drewN | apply Kd.N_drew)); exact Kd.N_mono HO454.out (fun _ hk => ⟨hk.1.1, ⟨hk.1.2.1, ⟨hk.1.2.2.1, ⟨hk.1.2.2.2.1, ⟨hk.1.2.2.2.2.1, ⟨hk.1.2.2.2.2.2.1, ⟨hk.1.2.2.2.2.2.2.1, ⟨hk.1.2.2.2.2.2.2.2.1, ⟨hk.1.2.2.2.2.2.2.2.2.1, ⟨hk.1.2.2.2.2.2.2.2.2.2.1, ⟨hk.1.2.2.2.2.2.2.2.2.2.2.1, ⟨hk.1.2.2.2.2.2.2.2.2.2.2.2.1, hk.1.2.2.2.2.2.2.2.2.2.2.2.2⟩⟩⟩⟩⟩⟩⟩⟩⟩⟩⟩⟩)⟩, ⟨by (with_reducible repeat (first | apply Kd.N_alloc | apply Kd.N_drewN | apply Kd.N_drew)); exact Kd.N_mono HO460.out (fun _ hk => ⟨hk.1.1, ⟨hk.1.2.1, ⟨hk.1.2.2.1, ⟨hk.1.2.2.2.1, ⟨hk.1.2.2.2.2.1, ⟨hk.1.2.2.2.2.2.1, ⟨hk.1.2.2.2.2.2.2.1, ⟨hk.1.2.2.2.2.2.2.2.1, ⟨hk.1.2.2.2.2.2.2.2.2.1, ⟨hk.1.2.2.2.2.2.2.2.2.2.1, ⟨hk.1.2.2.2.2.2.2.2.2.2.2.1, hk.1.2.2.2.2.2.2.2.2.2.2.2⟩⟩⟩⟩⟩⟩⟩⟩⟩⟩⟩)⟩, ⟨by (with_reducible repeat (first | apply Kd.N_alloc | apply Kd.N_drewN | apply Kd.N_drew)); exact Kd.N_mono HO466.out (fun _ hk => ⟨hk.1.1, ⟨hk.1.2.1, ⟨hk.1.2.2.1, ⟨hk.1.2.2.2.1, ⟨hk.1.2.2.2.2.1, ⟨hk.1.2.2.2.2.2.1, ⟨hk.1.2.2.2.2.2.2.1, ⟨hk.1.2.2.2.2.2.2.2.1, ⟨hk.1.2.2.2.2.2.2.2.2.1, ⟨hk.1.2.2.2.2.2.2.2.2.2.1, ⟨hk.1.2.2.2.2.2.2.2.2.2.2.1, hk.1.2.2.2.2.2.2.2.2.2.2.2⟩⟩⟩⟩⟩⟩⟩⟩⟩⟩⟩)⟩, ⟨q_r (HO471.out)⟩, ⟨q_r (HO474.out)⟩, ⟨q_b BK441.out⟩, ⟨q_b BK449.out⟩, ⟨q_b BK455.out⟩, ⟨q_b BK461.out⟩, ⟨q_b BK467.out⟩, ⟨q_b BK475.out⟩, ⟨bq⟩⟩
          case round =>
           clear H'
           (try clear c1); (try clear c2); (try clear p2); (try clear c3); (try clear c4); (try clear c5); (try clear c6); (try clear c11); (try clear c11b0); (try clear c11b1); (try clear c12); (try clear c12b0)
           (try clear c12b1); (try clear c13); (try clear c13b0); (try clear c13b1); (try clear c14); (try clear c14b0); (try clear c14b1); (try clear c15); (try clear c15b0); (try clear c15b1); (try clear c16)
           (try clear c16b0); (try clear c16b1); (try clear c18); (try clear c18b0); (try clear c18b1); (try clear c27); (try clear c28); (try clear c37); (try clear c38); (try clear c42); (try clear c44)
           (try clear c45); (try clear c46); (try clear c47); (try clear c48); (try clear c54); (try clear c55); (try clear c56); (try clear c57); (try clear c63); (try clear c64); (try clear c65); (try clear c66)
           (try clear c67); (try clear hcz22_0); (try clear hcz22_1); (try clear hcz25_0); (try clear hcz25_1); (try clear hcz29_0); (try clear hcz29_1); (try clear hcz29_2); (try clear hcz33_0); (try clear hcz33_1)
           (try clear hcz33_2); (try clear hcz34_0); (try clear hcz34_1); (try clear hcz39_0); (try clear hcz39_1); (try clear hcz39_2); (try clear hcz42_0); (try clear hcz42_1); (try clear hcz48_0); (try clear hcz48_1)
           (try clear hcz48_2); (try clear hcz51_0); (try clear hcz51_1); (try clear hcz51_2); (try clear hcz58_0); (try clear hcz58_1); (try clear hcz58_2); (try clear hcz60_0); (try clear hcz60_1); (try clear hcz60_2)
           (try clear hcz68_0); (try clear hcz68_1); (try clear hcz68_2); (try clear hfz22_0); (try clear hfz22_1); (try clear hfz25_0); (try clear hfz25_1); (try clear hfz29_0); (try clear hfz29_1); (try clear hfz29_2)
           (try clear hfz33_0); (try clear hfz33_1); (try clear hfz33_2); (try clear hfz34_0); (try clear hfz34_1); (try clear hfz39_0); (try clear hfz39_1); (try clear hfz39_2); (try clear hfz42_0); (try clear hfz42_1)
           (try clear hfz48_0); (try clear hfz48_1); (try clear hfz48_2); (try clear hfz51_0); (try clear hfz51_1); (try clear hfz51_2); (try clear hfz58_0); (try clear hfz58_1); (try clear hfz58_2); (try clear hfz60_0)
           (try clear hfz60_1); (try clear hfz60_2); (try clear hfz68_0); (try clear hfz68_1); (try clear hfz68_2)
           obtain ⟨x10_1, rfl, HA, HK1, HO_442000, HO_442001, HO_450001, HO_450002, HO_456002, HO_462002, HO_468002, HO_476001, HO_476002, BK441, BK449, BK455, BK461, BK467, BK475, HB⟩ := hrel
           cases gk with
           | zero => exact absurd HA.out (by simp [laws_FnCrashLogs.l0])
           | succ k1 =>
            have H := HA.out
            clear HA
            simp only [laws_FnCrashLogs.l0] at H
            by_cases c74 : x10_1 < (t464.length : Int)
            ·rw [if_pos c74] at H
             have c74b0 := decide_eq_true c74
             clear c74
             by_cases c75 : 0 ≤ x10_1
             ·rw [if_pos c75] at H
              have c75b0 := decide_eq_true c75
              clear c75
              by_cases c76 : x10_1 < (t458.length : Int)
              ·rw [if_pos c76] at H
               have c76b0 := decide_eq_true c76
               clear c76
               by_cases c77 : (strOfNums (rd_L1 t464 x10_1)).toList = (strOfNums (rd_L1 t458 x10_1)).toList
               ·rw [if_pos c77] at H
                have c77b0 : ((strOfNums (rd_L1 t464 x10_1)).toList == (strOfNums (rd_L1 t458 x10_1)).toList) = true := beq_iff_eq.mpr c77
                have c77b1 : ((strOfNums (rd_L1 t464 x10_1)).toList != (strOfNums (rd_L1 t458 x10_1)).toList) = false := bne_eq_false_iff_eq.mpr c77
                clear c77
                have H' := Aside0.mk H
                clear H
                have hnb78 := NB467_441.out
                have hnc78 := NB441_467.out
                have hnb79 := NB467_449.out
                have hnc79 := NB449_467.out
                have hnb80 := NB467_455.out
                have hnc80 := NB455_467.out
                have hnb81 := NB467_461.out
                have hnc81 := NB461_467.out
                have hnb82 := NB467_475.out
                have hnc82 := NB475_467.out
                obtain ⟨hcz83_0, hcz83_1, hcz83_2, hfz83_0, hfz83_1, hfz83_2⟩ := q_3 BK467.out
                try go_wp2
                have n0_ := Aside0.mk (Kd.R_drew HO_442000.out)
                have n1_ := Aside0.mk (Kd.R_drew HO_442001.out)
                have n2_ := Aside0.mk (Kd.R_drew HO_450001.out)
                have n3_ := Aside0.mk (Kd.R_drew HO_450002.out)
                have n4_ := Aside0.mk (Kd.N_drew HO_456002.out)
                have n5_ := Aside0.mk (Kd.N_drew HO_462002.out)
                have n6_ := Aside0.mk (Kd.N_drew HO_468002.out)
                have n7_ := Aside0.mk (Kd.R_drew HO_476001.out)
                have n8_ := Aside0.mk (Kd.R_drew HO_476002.out)
                have n9_ := Aside0.mk (blk_drew BK441.out)
                have n10_ := Aside0.mk (blk_drew BK449.out)
                have n11_ := Aside0.mk (blk_drew BK455.out)
                have n12_ := Aside0.mk (blk_drew BK461.out)
                have n13_ := Aside0.mk (blk_drew BK467.out)
                have n14_ := Aside0.mk (blk_drew BK475.out)
                have n15_ := Aside0.mk (below_drew1 HB.out)
                clear HO_442000
                clear HO_442001
                clear HO_450001
                clear HO_450002
                clear HO_456002
                clear HO_462002
                clear HO_468002
                clear HO_476001
                clear HO_476002
                clear BK441
                clear BK449
                clear BK455
                clear BK461
                clear BK467
                clear BK475
                clear HB
                have HO_442000 := n0_
                have HO_442001 := n1_
                have HO_450001 := n2_
                have HO_450002 := n3_
                have HO_456002 := n4_
                have HO_462002 := n5_
                have HO_468002 := n6_
                have HO_476001 := n7_
                have HO_476002 := n8_
                have BK441 := n9_
                have BK449 := n10_
                have BK455 := n11_
                have BK461 := n12_
                have BK467 := n13_
                have BK475 := n14_
                have HB := n15_
                clear n0_ n1_ n2_ n3_ n4_ n5_ n6_ n7_ n8_ n9_ n10_ n11_ n12_ n13_ n14_ n15_
                have p481 : 0 ≤ (x10_1 : Int) := q_d
                have q481 : x10_1 < (t464.length : Int) := q_d
                obtain ⟨ad481, A481_0, c481_0, e481, hx481_0, hl481_0, hi481_0⟩ := at_L1 (Kd.N_reads' HO_468002.out).2.2 x10_1 p481 q481
                cases e481
                obtain ⟨ce481, hce481, hMe481, hcc481⟩ := Kd.N_get HO_468002.out [] x10_1 p481 (by first | exact q481 | exact q_d | (have e_ := (Kd.N_reads' HO_468002.out).1; omega))
                obtain ⟨ua481_0, uc481_0, rfl, ul481_0, ge481_0⟩ := Kd.FK_slice_open hMe481
                have hv481_0 := hcc481 0 _ rfl
                rw [Nat.add_zero, show ((Kd.slice 5 (Kd.int .u8))).sz = 1 from rfl, Nat.mul_one] at hv481_0
                replace hv481_0 := Option.some.inj (hv481_0.symm.trans hx481_0)
                injection hv481_0 with hva_ hvn_ hvc_
                rw [hva_] at ge481_0
                rw [hvc_] at ul481_0
                have HL481_0 := Aside0.mk (show Kd.V (Kd.int .u8) 5 _ w.heap.size _ _ (rd_L1 t464 x10_1) from Kd.V_mk ul481_0 ge481_0)
                clear hva_ hvn_ hvc_ ge481_0 ul481_0
                clear hcc481 hce481
                have HR481_0 := Aside0.mk hi481_0
                have HC481_0 := Aside0.mk hl481_0
                clear hi481_0 hl481_0
                replace p481 := eq_true p481
                replace q481 := eq_true q481
                have p482 : 0 ≤ (x10_1 : Int) := q_d
                have q482 : x10_1 < (t458.length : Int) := q_d
                obtain ⟨ad482, A482_0, c482_0, e482, hx482_0, hl482_0, hi482_0⟩ := at_L1 (Kd.N_reads' HO_462002.out).2.2 x10_1 p482 q482
                cases e482
                obtain ⟨ce482, hce482, hMe482, hcc482⟩ := Kd.N_get HO_462002.out [] x10_1 p482 (by first | exact q482 | exact q_d | (have e_ := (Kd.N_reads' HO_462002.out).1; omega))
                obtain ⟨ua482_0, uc482_0, rfl, ul482_0, ge482_0⟩ := Kd.FK_slice_open hMe482
                have hv482_0 := hcc482 0 _ rfl
                rw [Nat.add_zero, show ((Kd.slice 5 (Kd.int .u8))).sz = 1 from rfl, Nat.mul_one] at hv482_0
                replace hv482_0 := Option.some.inj (hv482_0.symm.trans hx482_0)
                injection hv482_0 with hva_ hvn_ hvc_
                rw [hva_] at ge482_0
                rw [hvc_] at ul482_0
                have HL482_0 := Aside0.mk (show Kd.V (Kd.int .u8) 5 _ w.heap.size _ _ (rd_L1 t458 x10_1) from Kd.V_mk ul482_0 ge482_0)
                clear hva_ hvn_ hvc_ ge482_0 ul482_0
                clear hcc482 hce482
                have HR482_0 := Aside0.mk hi482_0
                have HC482_0 := Aside0.mk hl482_0
                clear hi482_0 hl482_0
                replace p482 := eq_true p482
                replace q482 := eq_true q482
                have hcv85 := Kd.C_string (P := Try.prog) (A := A481_0) (c := c481_0) Try.underlying22 Try.underlying5 Try.underlying9 (by repeat (first | (with_reducible exact HR481_0.out) | (with_reducible refine Kd.C_alloc ?_ _) | (with_reducible refine Kd.C_drewN ?_ _) | (with_reducible refine Kd.C_drew ?_) | exact HR481_0.out))
                have hcv86 := Kd.C_string (P := Try.prog) (A := A482_0) (c := c482_0) Try.underlying22 Try.underlying5 Try.underlying9 (by repeat (first | (with_reducible exact HR482_0.out) | (with_reducible refine Kd.C_alloc ?_ _) | (with_reducible refine Kd.C_drewN ?_ _) | (with_reducible refine Kd.C_drew ?_) | exact HR482_0.out))
                refine start_ (n := 13) (S := fun w' => w'.cell? ⟨gb467, 0, none⟩ = some (.int .i64 t462) ∧ w'.cell? ⟨gb467, 1, none⟩ = some (.int .i64 t463) ∧ w'.cell? ⟨gb467, 2, none⟩ = some (.slice (some ad481) t464.length co59) ∧ w'.cell? ⟨gb461, 0, none⟩ = some (.int .i64 t456) ∧ w'.cell? ⟨gb461, 1, none⟩ = some (.int .i64 t457) ∧ w'.cell? ⟨gb461, 2, none⟩ = some (.slice (some ad482) t458.length co49) ∧ w'.cell? (ad481.add (x10_1).toNat) = some (.slice A481_0 (rd_L1 t464 x10_1).length c481_0) ∧ w'.cell? (ad482.add (x10_1).toNat) = some (.slice A482_0 (rd_L1 t458 x10_1).length c482_0) ∧ (convert 22 9 (.slice A481_0 (rd_L1 t464 x10_1).length c481_0)).run Try.prog w' = .ok (.string (strOfNums (rd_L1 t464 x10_1))) w' ∧ (convert 22 9 (.slice A482_0 (rd_L1 t458 x10_1).length c482_0)).run Try.prog w' = .ok (.string (strOfNums (rd_L1 t458 x10_1))) w') (ds := []) #[false, false, false, false, false, false, false, false, false, false, false, false, false] (by kernel_rfl) rfl rfl ⟨q_z BK467.out 0, q_z BK467.out 1, q_z BK467.out 2, q_z BK461.out 0, q_z BK461.out 1, q_z BK461.out 2, hx481_0, hx482_0, hcv85, hcv86⟩ (fun hHeld => ?_); refine with_tabW laws_FnCrashLogs.tab16 laws_FnCrashLogs.bits16 (fun HT_ HW_ => ?_)
                generalize wr.drew = w84 at HO_442000 HO_442001 HO_450001 HO_450002 HO_456002 HO_462002 HO_468002 HO_476001 HO_476002 BK441 BK449 BK455 BK461 BK467 BK475 HB HL481_0 HL482_0 HR481_0 HR482_0 hx481_0 hx482_0 hHeld ⊢
                refine pure_ (i := 0) (N := some 97) (v := ?_) (a' := ?_) #[true, false, false, false, false, false, false, false, false, false, false, false, false] rfl rfl (any_of HT_.out (by kernel_rfl)) (fun _ _ _ h => h) (Or.inl ⟨by rfl, ?_⟩) ?_ ?_
                rotate_left
                ·intro w'
                 go_simp
                 (try (simp only [Instr.field, asAgg]; go_simp))
                 with_reducible rfl
                rotate_left
                ·simp only [Act.put, List.setIfInBounds_toArray, List.set_cons_zero, List.set_cons_succ, i64_w, i32_w]
                 rfl
                refine pure_ (i := 2) (N := some 99) (v := ?_) (a' := ?_) #[true, false, true, false, false, false, false, false, false, false, false, false, false] rfl rfl (any_of HT_.out (by kernel_rfl)) (fun _ _ _ h => h) (Or.inl ⟨by rfl, ?_⟩) ?_ ?_
                rotate_left
                ·intro w'
                 go_simp
                 (try (simp only [Instr.field, asAgg]; go_simp))
                 with_reducible rfl
                rotate_left
                ·simp only [Act.put, List.setIfInBounds_toArray, List.set_cons_zero, List.set_cons_succ, i64_w, i32_w]
                 rfl
                refine pure_ (i := 6) (N := some 103) (v := ?_) (a' := ?_) #[true, false, true, false, false, false, true, false, false, false, false, false, false] rfl rfl (any_of HT_.out (by kernel_rfl)) (fun _ _ _ h => h) (Or.inl ⟨by rfl, ?_⟩) ?_ ?_
                rotate_left
                ·intro w'
                 go_simp
                 (try (simp only [Instr.field, asAgg]; go_simp))
                 with_reducible rfl
                rotate_left
                ·simp only [Act.put, List.setIfInBounds_toArray, List.set_cons_zero, List.set_cons_succ, i64_w, i32_w]
                 rfl
                refine pure_ (i := 8) (N := some 105) (v := ?_) (a' := ?_) #[true, false, true, false, false, false, true, false, true, false, false, false, false] rfl rfl (any_of HT_.out (by kernel_rfl)) (fun _ _ _ h => h) (Or.inl ⟨by rfl, ?_⟩) ?_ ?_
                rotate_left
                ·intro w'
                 go_simp
                 (try (simp only [Instr.field, asAgg]; go_simp))
                 with_reducible rfl
                rotate_left
                ·simp only [Act.put, List.setIfInBounds_toArray, List.set_cons_zero, List.set_cons_succ, i64_w, i32_w]
                 rfl
                refine q_t 1 (some 98) #[true, true, true, false, false, false, true, false, true, false, false, false, false] HT_.out HW_.out hHeld ?_
                refine pure_ (i := 3) (N := some 100) (v := ?_) (a' := ?_) #[true, true, true, true, false, false, true, false, true, false, false, false, false] rfl rfl (any_of HT_.out (by kernel_rfl)) (fun _ _ _ h => h) (Or.inl ⟨by rfl, ?_⟩) ?_ ?_
                rotate_left
                ·intro w'
                 go_simp
                 (try (simp only [Instr.field, asAgg]; go_simp))
                 with_reducible rfl
                rotate_left
                ·simp only [Act.put, List.setIfInBounds_toArray, List.set_cons_zero, List.set_cons_succ, i64_w, i32_w]
                 rfl
                refine q_t 4 (some 101) #[true, true, true, true, true, false, true, false, true, false, false, false, false] HT_.out HW_.out hHeld ?_
                refine q_t 5 (some 102) #[true, true, true, true, true, true, true, false, true, false, false, false, false] HT_.out HW_.out hHeld ?_
                refine q_t 7 (some 104) #[true, true, true, true, true, true, true, true, true, false, false, false, false] HT_.out HW_.out hHeld ?_
                refine pure_ (i := 9) (N := some 106) (v := ?_) (a' := ?_) #[true, true, true, true, true, true, true, true, true, true, false, false, false] rfl rfl (any_of HT_.out (by kernel_rfl)) (fun _ _ _ h => h) (Or.inl ⟨by rfl, ?_⟩) ?_ ?_
                rotate_left
                ·intro w'
                 go_simp
                 (try (simp only [Instr.field, asAgg]; go_simp))
                 with_reducible rfl
                rotate_left
                ·simp only [Act.put, List.setIfInBounds_toArray, List.set_cons_zero, List.set_cons_succ, i64_w, i32_w]
                 rfl
                refine q_t 10 (some 107) #[true, true, true, true, true, true, true, true, true, true, true, false, false] HT_.out HW_.out hHeld ?_
                refine q_t 11 (some 108) #[true, true, true, true, true, true, true, true, true, true, true, true, false] HT_.out HW_.out hHeld ?_
                refine pure_ (i := 12) (N := some 109) (v := ?_) (a' := ?_) #[true, true, true, true, true, true, true, true, true, true, true, true, true] rfl rfl (any_of HT_.out (by kernel_rfl)) (fun _ _ _ h => h) (Or.inl ⟨by rfl, ?_⟩) ?_ ?_
                rotate_left
                ·intro w'
                 go_simp
                 (try (simp only [Instr.field, asAgg]; go_simp))
                 with_reducible rfl
                rotate_left
                ·simp only [Act.put, List.setIfInBounds_toArray, List.set_cons_zero, List.set_cons_succ, i64_w, i32_w]
                 rfl
                refine done_ (done_of HT_.out (by kernel_rfl)) ?_
                try go_wp2
                go_roundg k1
                case measure => have := HK1.out; omega
                case rel => exact ⟨(wrap64 (x10_1 + 1)), q_i, H', ⟨by have := HK1.out; omega⟩, ⟨q_r (HO_442000.out)⟩, ⟨q_r (HO_442001.out)⟩, ⟨q_r (HO_450001.out)⟩, ⟨q_r (HO_450002.out)⟩, ⟨by (with_reducible repeat (first | apply Kd.N_alloc | apply Kd.N_drewN | apply Kd.N_drew)); exact HO_456002.out⟩, ⟨by (with_reducible repeat (first | apply Kd.N_alloc | apply Kd.N_drewN | apply Kd.N_drew)); exact HO_462002.out⟩, ⟨by (with_reducible repeat (first | apply Kd.N_alloc | apply Kd.N_drewN | apply Kd.N_drew)); exact HO_468002.out⟩, ⟨q_r (HO_476001.out)⟩, ⟨q_r (HO_476002.out)⟩, ⟨q_b BK441.out⟩, ⟨q_b BK449.out⟩, ⟨q_b BK455.out⟩, ⟨q_b BK461.out⟩, ⟨q_b BK467.out⟩, ⟨q_b BK475.out⟩, ⟨bq⟩⟩
               ·rw [if_neg c77] at H
                exact absurd H (by simp)
              ·rw [if_neg c76] at H
               exact absurd H (by simp)
             ·rw [if_neg c75] at H
              exact absurd H (by simp)
            ·rw [if_neg c74] at H
             have c74b0 := decide_eq_false c74
             clear c74
             replace H := Option.bind_eq_some_iff.mp H
             obtain ⟨⟨t483, t484, t485⟩, A880, H⟩ := H
             replace H : (some ((t458.length : Int) == (t485.length : Int))) = some r := H
             have A88 := Aside0.mk A880
             clear A880
             obtain rfl := Option.some.inj H
             have hnb89 := NB467_441.out
             have hnc89 := NB441_467.out
             have hnb90 := NB467_449.out
             have hnc90 := NB449_467.out
             have hnb91 := NB467_455.out
             have hnc91 := NB455_467.out
             have hnb92 := NB467_461.out
             have hnc92 := NB461_467.out
             have hnb93 := NB467_475.out
             have hnc93 := NB475_467.out
             obtain ⟨hcz94_0, hcz94_1, hcz94_2, hfz94_0, hfz94_1, hfz94_2⟩ := q_3 BK467.out
             try go_wp2
             have n0_ := Aside0.mk (Kd.R_drew HO_442000.out)
             have n1_ := Aside0.mk (Kd.R_drew HO_442001.out)
             have n2_ := Aside0.mk (Kd.R_drew HO_450001.out)
             have n3_ := Aside0.mk (Kd.R_drew HO_450002.out)
             have n4_ := Aside0.mk (Kd.N_drew HO_456002.out)
             have n5_ := Aside0.mk (Kd.N_drew HO_462002.out)
             have n6_ := Aside0.mk (Kd.N_drew HO_468002.out)
             have n7_ := Aside0.mk (Kd.R_drew HO_476001.out)
             have n8_ := Aside0.mk (Kd.R_drew HO_476002.out)
             have n9_ := Aside0.mk (blk_drew BK441.out)
             have n10_ := Aside0.mk (blk_drew BK449.out)
             have n11_ := Aside0.mk (blk_drew BK455.out)
             have n12_ := Aside0.mk (blk_drew BK461.out)
             have n13_ := Aside0.mk (blk_drew BK467.out)
             have n14_ := Aside0.mk (blk_drew BK475.out)
             have n15_ := Aside0.mk (below_drew1 HB.out)
             clear HO_442000
             clear HO_442001
             clear HO_450001
             clear HO_450002
             clear HO_456002
             clear HO_462002
             clear HO_468002
             clear HO_476001
             clear HO_476002
             clear BK441
             clear BK449
             clear BK455
             clear BK461
             clear BK467
             clear BK475
             clear HB
             have HO_442000 := n0_
             have HO_442001 := n1_
             have HO_450001 := n2_
             have HO_450002 := n3_
             have HO_456002 := n4_
             have HO_462002 := n5_
             have HO_468002 := n6_
             have HO_476001 := n7_
             have HO_476002 := n8_
             have BK441 := n9_
             have BK449 := n10_
             have BK455 := n11_
             have BK461 := n12_
             have BK467 := n13_
             have BK475 := n14_
             have HB := n15_
             clear n0_ n1_ n2_ n3_ n4_ n5_ n6_ n7_ n8_ n9_ n10_ n11_ n12_ n13_ n14_ n15_
             refine start_ (n := 9) (S := fun w' => w'.cell? ⟨gb461, 0, none⟩ = some (.int .i64 t456) ∧ w'.cell? ⟨gb461, 1, none⟩ = some (.int .i64 t457) ∧ w'.cell? ⟨gb461, 2, none⟩ = some (.slice Ao49 t458.length co49) ∧ w'.cell? ⟨gb441, 0, none⟩ = some (.slice Ao21 t434.length co21) ∧ w'.cell? ⟨gb441, 1, none⟩ = some (.slice Ao23 t437.length co23)) (ds := []) #[false, false, false, false, false, false, false, false, false] (by kernel_rfl) rfl rfl ⟨q_z BK461.out 0, q_z BK461.out 1, q_z BK461.out 2, q_z BK441.out 0, q_z BK441.out 1⟩ (fun hHeld => ?_); refine with_tabW laws_FnCrashLogs.tab18 laws_FnCrashLogs.bits18 (fun HT_ HW_ => ?_)
             generalize wr.drew = w95 at HO_442000 HO_442001 HO_450001 HO_450002 HO_456002 HO_462002 HO_468002 HO_476001 HO_476002 BK441 BK449 BK455 BK461 BK467 BK475 HB hHeld ⊢
             refine pure_ (i := 0) (N := some 110) (v := ?_) (a' := ?_) #[true, false, false, false, false, false, false, false, false] rfl rfl (any_of HT_.out (by kernel_rfl)) (fun _ _ _ h => h) (Or.inl ⟨by rfl, ?_⟩) ?_ ?_
             rotate_left
             ·intro w'
              go_simp
              (try (simp only [Instr.field, asAgg]; go_simp))
              with_reducible rfl
             rotate_left
             ·simp only [Act.put, List.setIfInBounds_toArray, List.set_cons_zero, List.set_cons_succ, i64_w, i32_w]
              rfl
             refine q_t 1 (some 111) #[true, true, false, false, false, false, false, false, false] HT_.out HW_.out hHeld ?_
             refine pure_ (i := 2) (N := some 112) (v := ?_) (a' := ?_) #[true, true, true, false, false, false, false, false, false] rfl rfl (any_of HT_.out (by kernel_rfl)) (fun _ _ _ h => h) (Or.inl ⟨by rfl, ?_⟩) ?_ ?_
             rotate_left
             ·intro w'
              go_simp
              (try (simp only [Instr.field, asAgg]; go_simp))
              with_reducible rfl
             rotate_left
             ·simp only [Act.put, List.setIfInBounds_toArray, List.set_cons_zero, List.set_cons_succ, i64_w, i32_w]
              rfl
             refine q_t 3 (some 113) #[true, true, true, true, false, false, false, false, false] HT_.out HW_.out hHeld ?_
             refine one_ (i := 4) (N := some 114) #[true, true, true, true, true, false, false, false, false] rfl rfl (one_of HT_.out (by kernel_rfl)) (by decide) (fun K hK => ?_)
             refine goes_ Try.func49 (by kernel_rfl) rfl #[.agg #[.slice Ao21 t434.length co21, .slice Ao23 t437.length co23]] (by rfl) rfl rfl (by (try simp only [List.map_toArray, List.map_cons, List.map_nil]); first | done | rfl | (simp only [List.length_drop, List.length_take]; rfl)) ?_
             with_reducible refine (spec_ReadLog.calls k1 _ _ t434 _ _ t437 t483 t484 t485 _ ?side1 ?side2 ?side3 ?side4 A88.out).mono ?_
             (case side1 => exact q_c ((Kd.R_reads' HO_442000.out).2.2))
             (case side2 => exact (Kd.R_reads' HO_442000.out).2.1)
             (case side3 => exact q_c ((Kd.R_reads' HO_442001.out).2.2))
             (case side4 => exact (Kd.R_reads' HO_442001.out).2.1)
             rintro e w96 ⟨v486, rfl, ho0, hb⟩
             refine ⟨_, rfl, ?_⟩
             have n0_ := Aside0.mk (Kd.R_below (q_r (HO_442000.out)) hb)
             have n1_ := Aside0.mk (Kd.R_below (q_r (HO_442001.out)) hb)
             have n2_ := Aside0.mk (Kd.R_below (q_r (HO_450001.out)) hb)
             have n3_ := Aside0.mk (Kd.R_below (q_r (HO_450002.out)) hb)
             have n4_ := Aside0.mk (Kd.N_elder' (by (with_reducible repeat (first | apply Kd.N_alloc | apply Kd.N_drewN | apply Kd.N_drew)); exact HO_456002.out) (by first | exact Kd.N_base ho0 | exact Kd.R_base (Kd.S_R ho0)) hb)
             have n5_ := Aside0.mk (Kd.N_elder' (by (with_reducible repeat (first | apply Kd.N_alloc | apply Kd.N_drewN | apply Kd.N_drew)); exact HO_462002.out) (by first | exact Kd.N_base ho0 | exact Kd.R_base (Kd.S_R ho0)) hb)
             have n6_ := Aside0.mk (Kd.N_elder' (by (with_reducible repeat (first | apply Kd.N_alloc | apply Kd.N_drewN | apply Kd.N_drew)); exact HO_468002.out) (by first | exact Kd.N_base ho0 | exact Kd.R_base (Kd.S_R ho0)) hb)
             have n7_ := Aside0.mk (Kd.R_below (q_r (HO_476001.out)) hb)
             have n8_ := Aside0.mk (Kd.R_below (q_r (HO_476002.out)) hb)
             have n9_ := Aside0.mk (Kd.N_lower (Kd.N_mono (ok' := fun k_ => some k_ ≠ (.slice Ao21 t434.length co21 : Value).ownBlock ∧ some k_ ≠ (.slice Ao23 t437.length co23 : Value).ownBlock ∧ some k_ ≠ (.slice Ao30 t443.length co30 : Value).ownBlock ∧ some k_ ≠ (.slice Ao31 t446.length co31 : Value).ownBlock ∧ some k_ ≠ (.slice Ao40 t452.length co40 : Value).ownBlock ∧ some k_ ≠ (.slice Ao49 t458.length co49 : Value).ownBlock ∧ some k_ ≠ (.slice Ao59 t464.length co59 : Value).ownBlock ∧ some k_ ≠ (.slice Ao69 t469.length co69 : Value).ownBlock ∧ some k_ ≠ (.slice Ao70 t472.length co70 : Value).ownBlock ∧ k_ ≠ gb441 ∧ k_ ≠ gb449 ∧ k_ ≠ gb455 ∧ k_ ≠ gb461 ∧ k_ ≠ gb467 ∧ k_ ≠ gb475) (Kd.S_N (Kd.S_bound ho0)) (fun k_ hk_ => ⟨(Kd.fresh' (Kd.R_lt (q_r (HO_442000.out))) k_ hk_.2.1), (Kd.fresh' (Kd.R_lt (q_r (HO_442001.out))) k_ hk_.2.1), (Kd.fresh' (Kd.R_lt (q_r (HO_450001.out))) k_ hk_.2.1), (Kd.fresh' (Kd.R_lt (q_r (HO_450002.out))) k_ hk_.2.1), (Kd.fresh' (Kd.N_lt (by (with_reducible repeat (first | apply Kd.N_alloc | apply Kd.N_drewN | apply Kd.N_drew)); exact HO_456002.out)) k_ hk_.2.1), (Kd.fresh' (Kd.N_lt (by (with_reducible repeat (first | apply Kd.N_alloc | apply Kd.N_drewN | apply Kd.N_drew)); exact HO_462002.out)) k_ hk_.2.1), (Kd.fresh' (Kd.N_lt (by (with_reducible repeat (first | apply Kd.N_alloc | apply Kd.N_drewN | apply Kd.N_drew)); exact HO_468002.out)) k_ hk_.2.1), (Kd.fresh' (Kd.R_lt (q_r (HO_476001.out))) k_ hk_.2.1), (Kd.fresh' (Kd.R_lt (q_r (HO_476002.out))) k_ hk_.2.1), (Kd.freshB (q_b BK441.out) k_ hk_.2.1), (Kd.freshB (q_b BK449.out) k_ hk_.2.1), (Kd.freshB (q_b BK455.out) k_ hk_.2.1), (Kd.freshB (q_b BK461.out) k_ hk_.2.1), (Kd.freshB (q_b BK467.out) k_ hk_.2.1), (Kd.freshB (q_b BK475.out) k_ hk_.2.1)⟩)) (below_size bq))
             have n10_ := Aside0.mk (blk_below (q_b BK441.out) hb)
             have n11_ := Aside0.mk (blk_below (q_b BK449.out) hb)
             have n12_ := Aside0.mk (blk_below (q_b BK455.out) hb)
             have n13_ := Aside0.mk (blk_below (q_b BK461.out) hb)
             have n14_ := Aside0.mk (blk_below (q_b BK467.out) hb)
             have n15_ := Aside0.mk (blk_below (q_b BK475.out) hb)
             have n16_ := Aside0.mk (below_step bq hb)
             clear HO_442000
             clear HO_442001
             clear HO_450001
             clear HO_450002
             clear HO_456002
             clear HO_462002
             clear HO_468002
             clear HO_476001
             clear HO_476002
             clear BK441
             clear BK449
             clear BK455
             clear BK461
             clear BK467
             clear BK475
             clear HB
             have HO_442000 := n0_
             have HO_442001 := n1_
             have HO_450001 := n2_
             have HO_450002 := n3_
             have HO_456002 := n4_
             have HO_462002 := n5_
             have HO_468002 := n6_
             have HO_476001 := n7_
             have HO_476002 := n8_
             have HO487 := n9_
             have BK441 := n10_
             have BK449 := n11_
             have BK455 := n12_
             have BK461 := n13_
             have BK467 := n14_
             have BK475 := n15_
             have HB := n16_
             clear n0_ n1_ n2_ n3_ n4_ n5_ n6_ n7_ n8_ n9_ n10_ n11_ n12_ n13_ n14_ n15_ n16_
             (try clear hb)
             (try clear hb2)
             (try clear hk)
             (try clear hi)
             (try clear ho0)
             obtain ⟨Ao97, co97, eo97⟩ := Kd.N_slice HO487.out
             (first | subst eo97 | (injection eo97 with f1_ f2_ f3_; have f4_ := f1_.symm; have f5_ := f3_.symm; clear f1_ f2_ f3_; subst f4_; subst f5_))
             refine hK.out _ _ ⟨q_z BK461.out 0, q_z BK461.out 1, q_z BK461.out 2, q_z BK441.out 0, q_z BK441.out 1⟩ (fun hHeld => ?_)
             clear hK K
             refine norm_ (a' := ?_) ?_ ?_
             rotate_left
             ·show Act.put _ (some 114) _ = _
              simp only [Act.put, List.setIfInBounds_toArray, List.set_cons_zero, List.set_cons_succ, i64_w, i32_w]
              rfl
             refine pure_ (i := 5) (N := some 115) (v := ?_) (a' := ?_) #[true, true, true, true, true, true, false, false, false] rfl rfl (any_of HT_.out (by kernel_rfl)) (fun _ _ _ h => h) (Or.inl ⟨by rfl, ?_⟩) ?_ ?_
             rotate_left
             ·intro w'
              go_simp
              (try (simp only [Instr.field, asAgg]; go_simp))
              with_reducible rfl
             rotate_left
             ·simp only [Act.put, List.setIfInBounds_toArray, List.set_cons_zero, List.set_cons_succ, i64_w, i32_w]
              rfl
             refine pure_ (i := 6) (N := some 116) (v := ?_) (a' := ?_) #[true, true, true, true, true, true, true, false, false] rfl rfl (any_of HT_.out (by kernel_rfl)) (fun _ _ _ h => h) (Or.inl ⟨by rfl, ?_⟩) ?_ ?_
             rotate_left
             ·intro w'
              go_simp
              (try (simp only [Instr.field, asAgg]; go_simp))
              with_reducible rfl
             rotate_left
             ·simp only [Act.put, List.setIfInBounds_toArray, List.set_cons_zero, List.set_cons_succ, i64_w, i32_w]
              rfl
             refine pure_ (i := 7) (N := some 117) (v := ?_) (a' := ?_) #[true, true, true, true, true, true, true, true, false] rfl rfl (any_of HT_.out (by kernel_rfl)) (fun _ _ _ h => h) (Or.inl ⟨by rfl, ?_⟩) ?_ ?_
             rotate_left
             ·intro w'
              go_simp
              (try (simp only [Instr.field, asAgg]; go_simp))
              with_reducible rfl
             rotate_left
             ·simp only [Act.put, List.setIfInBounds_toArray, List.set_cons_zero, List.set_cons_succ, i64_w, i32_w]
              rfl
             refine pure_ (i := 8) (N := some 2) (v := ?_) (a' := ?_) #[true, true, true, true, true, true, true, true, true] rfl rfl (any_of HT_.out (by kernel_rfl)) (fun _ _ _ h => h) (Or.inl ⟨by rfl, ?_⟩) ?_ ?_
             rotate_left
             ·intro w'
              go_simp
              (try (simp only [Instr.field, asAgg]; go_simp))
              with_reducible rfl
             rotate_left
             ·simp only [Act.put, List.setIfInBounds_toArray, List.set_cons_zero, List.set_cons_succ, i64_w, i32_w]
              rfl
             refine done_ (done_of HT_.out (by kernel_rfl)) ?_
             try go_wp2
             go_ret
             exact ⟨q_e, bq⟩
         ·rw [if_neg c18] at H
          exact absurd H (by simp)
        ·rw [if_neg c16] at H
         have c16b0 : (t468 == 0) = false := beq_eq_false_iff_ne.mpr c16
         have c16b1 : (t468 != 0) = true := bne_iff_ne.mpr c16
         exact absurd H (by simp)
     ·rw [if_neg c13] at H
      have c13b0 : (t462 == 0) = false := beq_eq_false_iff_ne.mpr c13
      have c13b1 : (t462 != 0) = true := bne_iff_ne.mpr c13
      exact absurd H (by simp)
    ·rw [if_neg c12] at H
     have c12b0 : (t456 == 0) = false := beq_eq_false_iff_ne.mpr c12
     have c12b1 : (t456 != 0) = true := bne_iff_ne.mpr c12
     exact absurd H (by simp)
   ·rw [if_neg c11] at H
    have c11b0 : (t450 == 0) = false := beq_eq_false_iff_ne.mpr c11
    have c11b1 : (t450 != 0) = true := bne_iff_ne.mpr c11
    exact absurd H (by simp)
  ·rw [if_neg c6] at H
   have c6b0 : (t442 == 0) = false := beq_eq_false_iff_ne.mpr c6
   have c6b1 : (t442 != 0) = true := bne_iff_ne.mpr c6
   replace H := Option.bind_eq_some_iff.mp H
   obtain ⟨⟨t488, t489, t492⟩, A980, H⟩ := H
   replace H : (some (t488 == t442)) = some r := H
   have A98 := Aside0.mk A980
   clear A980
   obtain rfl := Option.some.inj H
   go_enter Try.func11, Try.ntmps11
   try go_wp2_with (first | ((with_reducible refine gate_callee (f := 27) rfl ?_); refine goesLq (some 12) rfl rfl Try.func27 (by kernel_rfl) rfl #[.slice A0 l0.length c0] rfl ?_; (with_reducible refine (laws_lwBig.calls _ _ l0 false _ ?side1 ?side2 A2.out).mono ?_); (case side1 => exact q_c (HR0.out)); (case side2 => exact HC0.out); rintro e w' ⟨rfl, ⟨nd, rfl⟩⟩; refine ⟨_, rfl, ?_⟩) | ((with_reducible refine gate_callee (f := 47) rfl ?_); refine goesLq (some 15) rfl rfl Try.func47 (by kernel_rfl) rfl #[.slice A0 l0.length c0] rfl ?_; (with_reducible refine (spec_DrawCrashLog.calls k _ _ l0 t434 t437 t440 _ ?side1 ?side2 A4.out).mono ?_); (case side1 => exact q_c (HR0.out)); (case side2 => exact HC0.out); rintro e w99 ⟨v435, v438, rfl, ho0, ho1, hb⟩; refine ⟨_, rfl, ?_⟩; have n0_ := Aside0.mk (Kd.R_lower ho0 (below_size bq)); have n1_ := Aside0.mk (Kd.R_lower ho1 (below_size bq)); have n2_ := Aside0.mk (below_step bq hb); revert n0_ n1_ n2_; clear HB; intro HO436 HO439 HB; (try clear hb); (try clear hb2); (try clear hk); (try clear hi); (try clear ho0); (try clear ho1)) | ((with_reducible refine gate_dst (N := 3) rfl ?_); (try (refine gate_guard (by rfl) ?_; dsimp only)); refine q_box (N := 3) (cs := #[.slice none 0 0, .slice none 0 0]) (t := 27) ?_; intro gb441 hg w100 hbox hb; have n0_ := Aside0.mk (Kd.R_below (q_r (HO436.out)) hb); have n1_ := Aside0.mk (Kd.R_below (q_r (HO439.out)) hb); have n2_ := Aside0.mk (below_step bq hb); have n3_ := Aside0.mk (hbox); have n4_ := Aside0.mk ((q_g hg bq : w.heap.size ≤ gb441)); have n5_ := Aside0.mk ((q_g hg bq : w.heap.size ≤ gb441)); revert n0_ n1_ n2_ n3_ n4_ n5_; clear HO436 HO439 HB; intro HO436 HO439 HB BK441 GW441 GE441; clear hb hbox hg; obtain ⟨Ao101, co101, eo101⟩ := Kd.R_slice HO436.out; subst eo101; obtain ⟨hcz102_0, hcz102_1, hfz102_0, hfz102_1⟩ := q_2 BK441.out; obtain ⟨Ao103, co103, eo103⟩ := Kd.R_slice HO439.out; subst eo103) | ((with_reducible refine gate_store (t := 27) (p := 3) rfl ?_); refine store_event (t := 27) (p := 3) (v := ?vo_w104) (w1 := ((w100.setCell ⟨gb441, 0, none⟩ (.slice Ao101 t434.length co101)).setCell ⟨gb441, 1, none⟩ (.slice Ao103 t437.length co103))) ?hg ?ho ?hn ?hr ?_; (case ho => rfl); (case hg => rfl); (case hn => rfl); (case hr => first | (go_simp; done) | (go_simp; rfl)); intro w104 hw; have n0_ : Aside0 (Kd.R (Kd.int .u8) 5 w104 w.heap.size (fun k_ => some k_ ≠ (.slice Ao103 t437.length co103 : Value).ownBlock) (.slice Ao101 t434.length co101) t434) := ⟨(by rw [hw]; exact (by (with_reducible repeat (first | apply Kd.R_alloc | apply Kd.R_drewN | apply Kd.R_drew)); exact Kd.R_mono (Kd.R_far (p := ⟨gb441, 1, none⟩) (Kd.R_far (p := ⟨gb441, 0, none⟩) (Kd.R_types HO436.out BK441.out (by decide)) (fun _ hk => hk.2) (.slice Ao101 t434.length co101)) (fun _ hk => hk.2) (.slice Ao103 t437.length co103)) (fun _ hk => hk.1)))⟩; have n1_ : Aside0 (Kd.R (Kd.int .u8) 5 w104 w.heap.size (fun k_ => some k_ ≠ (.slice Ao101 t434.length co101 : Value).ownBlock) (.slice Ao103 t437.length co103) t437) := ⟨(by rw [hw]; exact (by (with_reducible repeat (first | apply Kd.R_alloc | apply Kd.R_drewN | apply Kd.R_drew)); exact Kd.R_mono (Kd.R_far (p := ⟨gb441, 1, none⟩) (Kd.R_far (p := ⟨gb441, 0, none⟩) (Kd.R_types HO439.out BK441.out (by decide)) (fun _ hk => hk.2) (.slice Ao101 t434.length co101)) (fun _ hk => hk.2) (.slice Ao103 t437.length co103)) (fun _ hk => hk.1)))⟩; have n2_ : Aside0 (w104.heap[gb441]? = some (.cells #[.slice Ao101 t434.length co101, .slice Ao103 t437.length co103] 27 (0, 0))) := ⟨(by rw [hw]; exact (by (with_reducible repeat (first | refine blk_drewN ?_ _ | refine blk_drew ?_ | refine blk_alloc ?_ _)); refine blk_put (cs := #[.slice Ao101 t434.length co101, .slice none 0 0]) ?_ 1 _ rfl; (with_reducible repeat (first | refine blk_drewN ?_ _ | refine blk_drew ?_ | refine blk_alloc ?_ _)); refine blk_put (cs := #[.slice none 0 0, .slice none 0 0]) ?_ 0 _ rfl; (with_reducible repeat (first | refine blk_drewN ?_ _ | refine blk_drew ?_ | refine blk_alloc ?_ _)); exact BK441.out))⟩; have n3_ : Aside0 (Below w.heap.size w w104) := ⟨(by rw [hw]; exact bq)⟩; revert n0_ n1_ n2_ n3_; clear hw HO436 HO439 BK441 HB; intro HO436 HO439 BK441 HB; obtain ⟨hcz105_0, hcz105_1, hfz105_0, hfz105_1⟩ := q_2 BK441.out) | ((with_reducible refine gate_callee (f := 42) rfl ?_); refine goesLq (some 20) rfl rfl Try.func42 (by kernel_rfl) rfl #[.agg #[.slice Ao101 t434.length co101, .slice Ao103 t437.length co103], .int .i64 t440] rfl ?_; (with_reducible refine (impl_CrashLog.calls k (fun k_ => some k_ = (.slice Ao101 t434.length co101 : Value).ownBlock) _ _ t434 (fun k_ => some k_ = (.slice Ao103 t437.length co103 : Value).ownBlock) _ _ t437 t440 t442 t443 t446 _ ?side1 ?side2 A5.out).mono ?_); (case side1 => exact Kd.R_V (Kd.R_tight rfl (Kd.R_types (HO436.out) BK441.out (by decide)))); (case side2 => exact Kd.R_V (Kd.R_tight rfl (Kd.R_types (HO439.out) BK441.out (by decide)))); rintro e w106 ⟨v444, v447, rfl, ho0, ho1, hb⟩; refine ⟨_, rfl, ?_⟩; have n0_ := Aside0.mk (Kd.R_mono (Kd.R_told (Kd.R_told (Kd.R_old (q_r (HO436.out)) hb) (Kd.R_base ho0)) (Kd.R_base ho1)) (fun _ h_ => h_.1)); have n1_ := Aside0.mk (Kd.R_mono (Kd.R_told (Kd.R_told (Kd.R_old (q_r (HO439.out)) hb) (Kd.R_base ho0)) (Kd.R_base ho1)) (fun _ h_ => h_.1)); have n2_ := Aside0.mk (Kd.R_lower (Kd.R_new' (Kd.R_new' (Kd.R_mono (ok' := fun k_ => some k_ ≠ (v447 : Value).ownBlock) ho0 (fun _ hk_ => hk_.2)) (Kd.R_lt (q_r (HO436.out)))) (Kd.R_lt (q_r (HO439.out)))) (below_size bq)); have n3_ := Aside0.mk (Kd.R_lower (Kd.R_new' (Kd.R_new' (Kd.R_mono (ok' := fun k_ => some k_ ≠ (v444 : Value).ownBlock) ho1 (fun _ hk_ => hk_.2)) (Kd.R_lt (q_r (HO436.out)))) (Kd.R_lt (q_r (HO439.out)))) (below_size bq)); have n4_ := Aside0.mk (blk_below (q_b BK441.out) hb); have n5_ := Aside0.mk (below_step bq hb); revert n0_ n1_ n2_ n3_ n4_ n5_; clear HO436 HO439 BK441 HB; intro HO436 HO439 HO445 HO448 BK441 HB; (try clear hb); (try clear hb2); (try clear hk); (try clear hi); (try clear ho0); (try clear ho1)) | ((with_reducible refine gate_dst (N := 5) rfl ?_); (try (refine gate_guard (by rfl) ?_; dsimp only)); refine q_box (N := 5) (cs := #[.int .i64 0, .slice none 0 0, .slice none 0 0]) (t := 46) ?_; intro gb449 hg w107 hbox hb; have n0_ := Aside0.mk (Kd.R_below (q_r (HO436.out)) hb); have n1_ := Aside0.mk (Kd.R_below (q_r (HO439.out)) hb); have n2_ := Aside0.mk (Kd.R_below (q_r (HO445.out)) hb); have n3_ := Aside0.mk (Kd.R_below (q_r (HO448.out)) hb); have n4_ := Aside0.mk (blk_below (q_b BK441.out) hb); have n5_ := Aside0.mk (below_step bq hb); have n6_ := Aside0.mk (hbox); have n7_ := Aside0.mk ((q_g hg bq : w.heap.size ≤ gb449)); have n8_ := Aside0.mk ((q_g hg bq : w.heap.size ≤ gb449)); have n9_ := Aside0.mk ((q_n hg (q_b BK441.out) : gb441 ≠ gb449)); have n10_ := Aside0.mk ((q_m hg (q_b BK441.out) : gb449 ≠ gb441)); revert n0_ n1_ n2_ n3_ n4_ n5_ n6_ n7_ n8_ n9_ n10_; clear HO436 HO439 HO445 HO448 BK441 HB; intro HO436 HO439 HO445 HO448 BK441 HB BK449 GW449 GE449 NB441_449 NB449_441; clear hb hbox hg; have hnb108 := NB449_441.out; have hnc108 := NB441_449.out; obtain ⟨hcz109_0, hcz109_1, hcz109_2, hfz109_0, hfz109_1, hfz109_2⟩ := q_3 BK449.out; obtain ⟨Ao110, co110, eo110⟩ := Kd.R_slice HO445.out; subst eo110; obtain ⟨Ao111, co111, eo111⟩ := Kd.R_slice HO448.out; subst eo111))
   have n0_ : Aside0 (Kd.R (Kd.int .u8) 5 (((w107.setCell ⟨gb449, 0, none⟩ (.int .i64 t442)).setCell ⟨gb449, 1, none⟩ (.slice Ao110 t443.length co110)).setCell ⟨gb449, 2, none⟩ (.slice Ao111 t446.length co111)) w.heap.size (fun k_ => some k_ ≠ (.slice Ao103 t437.length co103 : Value).ownBlock ∧ some k_ ≠ (.slice Ao110 t443.length co110 : Value).ownBlock ∧ some k_ ≠ (.slice Ao111 t446.length co111 : Value).ownBlock) (.slice Ao101 t434.length co101) t434) := ⟨by (with_reducible repeat (first | apply Kd.R_alloc | apply Kd.R_drewN | apply Kd.R_drew)); exact Kd.R_mono (Kd.R_far (p := ⟨gb449, 2, none⟩) (Kd.R_far (p := ⟨gb449, 1, none⟩) (Kd.R_far (p := ⟨gb449, 0, none⟩) (Kd.R_types HO436.out BK449.out (by decide)) (fun _ hk => hk.2) (.int .i64 t442)) (fun _ hk => hk.2) (.slice Ao110 t443.length co110)) (fun _ hk => hk.2) (.slice Ao111 t446.length co111)) (fun _ hk => ⟨hk.1.1.1, ⟨hk.1.1.2, hk.1.2⟩⟩)⟩
   have n1_ : Aside0 (Kd.R (Kd.int .u8) 5 (((w107.setCell ⟨gb449, 0, none⟩ (.int .i64 t442)).setCell ⟨gb449, 1, none⟩ (.slice Ao110 t443.length co110)).setCell ⟨gb449, 2, none⟩ (.slice Ao111 t446.length co111)) w.heap.size (fun k_ => some k_ ≠ (.slice Ao101 t434.length co101 : Value).ownBlock ∧ some k_ ≠ (.slice Ao110 t443.length co110 : Value).ownBlock ∧ some k_ ≠ (.slice Ao111 t446.length co111 : Value).ownBlock) (.slice Ao103 t437.length co103) t437) := ⟨by (with_reducible repeat (first | apply Kd.R_alloc | apply Kd.R_drewN | apply Kd.R_drew)); exact Kd.R_mono (Kd.R_far (p := ⟨gb449, 2, none⟩) (Kd.R_far (p := ⟨gb449, 1, none⟩) (Kd.R_far (p := ⟨gb449, 0, none⟩) (Kd.R_types HO439.out BK449.out (by decide)) (fun _ hk => hk.2) (.int .i64 t442)) (fun _ hk => hk.2) (.slice Ao110 t443.length co110)) (fun _ hk => hk.2) (.slice Ao111 t446.length co111)) (fun _ hk => ⟨hk.1.1.1, ⟨hk.1.1.2, hk.1.2⟩⟩)⟩
   have n2_ : Aside0 (Kd.R (Kd.int .u8) 5 (((w107.setCell ⟨gb449, 0, none⟩ (.int .i64 t442)).setCell ⟨gb449, 1, none⟩ (.slice Ao110 t443.length co110)).setCell ⟨gb449, 2, none⟩ (.slice Ao111 t446.length co111)) w.heap.size (fun k_ => some k_ ≠ (.slice Ao101 t434.length co101 : Value).ownBlock ∧ some k_ ≠ (.slice Ao103 t437.length co103 : Value).ownBlock ∧ some k_ ≠ (.slice Ao111 t446.length co111 : Value).ownBlock) (.slice Ao110 t443.length co110) t443) := ⟨by (with_reducible repeat (first | apply Kd.R_alloc | apply Kd.R_drewN | apply Kd.R_drew)); exact Kd.R_mono (Kd.R_far (p := ⟨gb449, 2, none⟩) (Kd.R_far (p := ⟨gb449, 1, none⟩) (Kd.R_far (p := ⟨gb449, 0, none⟩) (Kd.R_types HO445.out BK449.out (by decide)) (fun _ hk => hk.2) (.int .i64 t442)) (fun _ hk => hk.2) (.slice Ao110 t443.length co110)) (fun _ hk => hk.2) (.slice Ao111 t446.length co111)) (fun _ hk => ⟨hk.1.1.2, ⟨hk.1.2, hk.1.1.1⟩⟩)⟩
   have n3_ : Aside0 (Kd.R (Kd.int .u8) 5 (((w107.setCell ⟨gb449, 0, none⟩ (.int .i64 t442)).setCell ⟨gb449, 1, none⟩ (.slice Ao110 t443.length co110)).setCell ⟨gb449, 2, none⟩ (.slice Ao111 t446.length co111)) w.heap.size (fun k_ => some k_ ≠ (.slice Ao101 t434.length co101 : Value).ownBlock ∧ some k_ ≠ (.slice Ao103 t437.length co103 : Value).ownBlock ∧ some k_ ≠ (.slice Ao110 t443.length co110 : Value).ownBlock) (.slice Ao111 t446.length co111) t446) := ⟨by (with_reducible repeat (first | apply Kd.R_alloc | apply Kd.R_drewN | apply Kd.R_drew)); exact Kd.R_mono (Kd.R_far (p := ⟨gb449, 2, none⟩) (Kd.R_far (p := ⟨gb449, 1, none⟩) (Kd.R_far (p := ⟨gb449, 0, none⟩) (Kd.R_types HO448.out BK449.out (by decide)) (fun _ hk => hk.2) (.int .i64 t442)) (fun _ hk => hk.2) (.slice Ao110 t443.length co110)) (fun _ hk => hk.2) (.slice Ao111 t446.length co111)) (fun _ hk => ⟨hk.1.1.2, ⟨hk.1.2, hk.1.1.1⟩⟩)⟩
   have n4_ : Aside0 ((((w107.setCell ⟨gb449, 0, none⟩ (.int .i64 t442)).setCell ⟨gb449, 1, none⟩ (.slice Ao110 t443.length co110)).setCell ⟨gb449, 2, none⟩ (.slice Ao111 t446.length co111)).heap[gb441]? = some (.cells #[.slice Ao101 t434.length co101, .slice Ao103 t437.length co103] 27 (0, 0))) := ⟨by (with_reducible repeat (first | refine blk_drewN ?_ _ | refine blk_drew ?_ | refine blk_alloc ?_ _)); refine blk_far ?_ NB441_449.out _; (with_reducible repeat (first | refine blk_drewN ?_ _ | refine blk_drew ?_ | refine blk_alloc ?_ _)); refine blk_far ?_ NB441_449.out _; (with_reducible repeat (first | refine blk_drewN ?_ _ | refine blk_drew ?_ | refine blk_alloc ?_ _)); refine blk_far ?_ NB441_449.out _; (with_reducible repeat (first | refine blk_drewN ?_ _ | refine blk_drew ?_ | refine blk_alloc ?_ _)); exact BK441.out⟩
   have n5_ : Aside0 ((((w107.setCell ⟨gb449, 0, none⟩ (.int .i64 t442)).setCell ⟨gb449, 1, none⟩ (.slice Ao110 t443.length co110)).setCell ⟨gb449, 2, none⟩ (.slice Ao111 t446.length co111)).heap[gb449]? = some (.cells #[.int .i64 t442, .slice Ao110 t443.length co110, .slice Ao111 t446.length co111] 46 (0, 0))) := ⟨by (with_reducible repeat (first | refine blk_drewN ?_ _ | refine blk_drew ?_ | refine blk_alloc ?_ _)); refine blk_put (cs := #[.int .i64 t442, .slice Ao110 t443.length co110, .slice none 0 0]) ?_ 2 _ rfl; (with_reducible repeat (first | refine blk_drewN ?_ _ | refine blk_drew ?_ | refine blk_alloc ?_ _)); refine blk_put (cs := #[.int .i64 t442, .slice none 0 0, .slice none 0 0]) ?_ 1 _ rfl; (with_reducible repeat (first | refine blk_drewN ?_ _ | refine blk_drew ?_ | refine blk_alloc ?_ _)); refine blk_put (cs := #[.int .i64 0, .slice none 0 0, .slice none 0 0]) ?_ 0 _ rfl; (with_reducible repeat (first | refine blk_drewN ?_ _ | refine blk_drew ?_ | refine blk_alloc ?_ _)); exact BK449.out⟩
   have n6_ : Aside0 (Below w.heap.size w (((w107.setCell ⟨gb449, 0, none⟩ (.int .i64 t442)).setCell ⟨gb449, 1, none⟩ (.slice Ao110 t443.length co110)).setCell ⟨gb449, 2, none⟩ (.slice Ao111 t446.length co111))) := ⟨bq⟩
   (try clear HO436)
   (try clear HO439)
   (try clear HO445)
   (try clear HO448)
   (try clear BK441)
   (try clear BK449)
   (try clear HB)
   generalize (((w107.setCell ⟨gb449, 0, none⟩ (.int .i64 t442)).setCell ⟨gb449, 1, none⟩ (.slice Ao110 t443.length co110)).setCell ⟨gb449, 2, none⟩ (.slice Ao111 t446.length co111)) = w112 at n0_ n1_ n2_ n3_ n4_ n5_ n6_ ⊢
   have HO436 := n0_
   have HO439 := n1_
   have HO445 := n2_
   have HO448 := n3_
   have BK441 := n4_
   have BK449 := n5_
   have HB := n6_
   clear n0_ n1_ n2_ n3_ n4_ n5_ n6_
   have n0_ := Aside0.mk (Kd.R_drew HO436.out)
   have n1_ := Aside0.mk (Kd.R_drew HO439.out)
   have n2_ := Aside0.mk (Kd.R_drew HO445.out)
   have n3_ := Aside0.mk (Kd.R_drew HO448.out)
   have n4_ := Aside0.mk (blk_drew BK441.out)
   have n5_ := Aside0.mk (blk_drew BK449.out)
   have n6_ := Aside0.mk (below_drew1 HB.out)
   clear HO436
   clear HO439
   clear HO445
   clear HO448
   clear BK441
   clear BK449
   clear HB
   have HO436 := n0_
   have HO439 := n1_
   have HO445 := n2_
   have HO448 := n3_
   have BK441 := n4_
   have BK449 := n5_
   have HB := n6_
   clear n0_ n1_ n2_ n3_ n4_ n5_ n6_
   refine start_ (n := 8) (S := fun w' => w'.cell? ⟨gb441, 0, none⟩ = some (.slice Ao101 t434.length co101) ∧ w'.cell? ⟨gb441, 1, none⟩ = some (.slice Ao103 t437.length co103) ∧ w'.cell? ⟨gb449, 0, none⟩ = some (.int .i64 t442) ∧ w'.cell? ⟨gb449, 1, none⟩ = some (.slice Ao110 t443.length co110) ∧ w'.cell? ⟨gb449, 2, none⟩ = some (.slice Ao111 t446.length co111)) (ds := []) #[false, false, false, false, false, false, false, false] (by kernel_rfl) rfl rfl ⟨q_z BK441.out 0, q_z BK441.out 1, q_z BK449.out 0, q_z BK449.out 1, q_z BK449.out 2⟩ (fun hHeld => ?_); refine with_tabW laws_FnCrashLogs.tab6 laws_FnCrashLogs.bits6 (fun HT_ HW_ => ?_)
   generalize w112.drew = w113 at HO436 HO439 HO445 HO448 BK441 BK449 HB hHeld ⊢
   refine pure_ (i := 1) (N := some 25) (v := ?_) (a' := ?_) #[false, true, false, false, false, false, false, false] rfl rfl (any_of HT_.out (by kernel_rfl)) (fun _ _ _ h => h) (Or.inl ⟨by rfl, ?_⟩) ?_ ?_
   rotate_left
   ·intro w'
    go_simp
    (try (simp only [Instr.field, asAgg]; go_simp))
    with_reducible rfl
   rotate_left
   ·simp only [Act.put, List.setIfInBounds_toArray, List.set_cons_zero, List.set_cons_succ, i64_w, i32_w]
    rfl
   refine pure_ (i := 4) (N := some 28) (v := ?_) (a' := ?_) #[false, true, false, false, true, false, false, false] rfl rfl (any_of HT_.out (by kernel_rfl)) (fun _ _ _ h => h) (Or.inl ⟨by rfl, ?_⟩) ?_ ?_
   rotate_left
   ·intro w'
    go_simp
    (try (simp only [Instr.field, asAgg]; go_simp))
    with_reducible rfl
   rotate_left
   ·simp only [Act.put, List.setIfInBounds_toArray, List.set_cons_zero, List.set_cons_succ, i64_w, i32_w]
    rfl
   refine q_t 0 (some 24) #[true, true, false, false, true, false, false, false] HT_.out HW_.out hHeld ?_
   refine q_t 5 (some 29) #[true, true, false, false, true, true, false, false] HT_.out HW_.out hHeld ?_
   refine one_ (i := 2) (N := some 26) #[true, true, true, false, true, true, false, false] rfl rfl (one_of HT_.out (by kernel_rfl)) (by decide) (fun K hK => ?_)
   refine goes_ Try.func41 (by kernel_rfl) rfl #[.agg #[.slice Ao101 t434.length co101, .slice Ao103 t437.length co103], .int .i64 t440] (by rfl) rfl rfl (by (try simp only [List.map_toArray, List.map_cons, List.map_nil]); first | done | rfl | (simp only [List.length_drop, List.length_take]; rfl)) ?_
   with_reducible refine (spec_CrashLog.calls _ _ t434 _ _ t437 t440 t488 t489 t492 _ ?side1 ?side2 ?side3 ?side4 A98.out).mono ?_
   (case side1 => exact q_c ((Kd.R_reads' HO436.out).2.2))
   (case side2 => exact (Kd.R_reads' HO436.out).2.1)
   (case side3 => exact q_c ((Kd.R_reads' HO439.out).2.2))
   (case side4 => exact (Kd.R_reads' HO439.out).2.1)
   rintro e w114 ⟨v490, v493, rfl, ho0, ho1, hb⟩
   refine ⟨_, rfl, ?_⟩
   have n0_ := Aside0.mk (Kd.R_mono (Kd.R_told (Kd.R_told (Kd.R_old (q_r (HO436.out)) hb) (Kd.R_base ho0)) (Kd.R_base ho1)) (fun _ h_ => h_.1))
   have n1_ := Aside0.mk (Kd.R_mono (Kd.R_told (Kd.R_told (Kd.R_old (q_r (HO439.out)) hb) (Kd.R_base ho0)) (Kd.R_base ho1)) (fun _ h_ => h_.1))
   have n2_ := Aside0.mk (Kd.R_mono (Kd.R_told (Kd.R_told (Kd.R_old (q_r (HO445.out)) hb) (Kd.R_base ho0)) (Kd.R_base ho1)) (fun _ h_ => h_.1))
   have n3_ := Aside0.mk (Kd.R_mono (Kd.R_told (Kd.R_told (Kd.R_old (q_r (HO448.out)) hb) (Kd.R_base ho0)) (Kd.R_base ho1)) (fun _ h_ => h_.1))
   have n4_ := Aside0.mk (Kd.R_lower (Kd.R_new' (Kd.R_new' (Kd.R_new' (Kd.R_new' ho0 (Kd.R_lt (q_r (HO436.out)))) (Kd.R_lt (q_r (HO439.out)))) (Kd.R_lt (q_r (HO445.out)))) (Kd.R_lt (q_r (HO448.out)))) (below_size bq))
   have n5_ := Aside0.mk (Kd.R_lower (Kd.R_new' (Kd.R_new' (Kd.R_new' (Kd.R_new' ho1 (Kd.R_lt (q_r (HO436.out)))) (Kd.R_lt (q_r (HO439.out)))) (Kd.R_lt (q_r (HO445.out)))) (Kd.R_lt (q_r (HO448.out)))) (below_size bq))
   have n6_ := Aside0.mk (blk_below (q_b BK441.out) hb)
   have n7_ := Aside0.mk (blk_below (q_b BK449.out) hb)
   have n8_ := Aside0.mk (below_step bq hb)
   clear HO436
   clear HO439
   clear HO445
   clear HO448
   clear BK441
   clear BK449
   clear HB
   have HO436 := n0_
   have HO439 := n1_
   have HO445 := n2_
   have HO448 := n3_
   have HO491 := n4_
   have HO494 := n5_
   have BK441 := n6_
   have BK449 := n7_
   have HB := n8_
   clear n0_ n1_ n2_ n3_ n4_ n5_ n6_ n7_ n8_
   (try clear hb)
   (try clear hb2)
   (try clear hk)
   (try clear hi)
   (try clear ho0)
   (try clear ho1)
   refine hK.out _ _ ⟨q_z BK441.out 0, q_z BK441.out 1, q_z BK449.out 0, q_z BK449.out 1, q_z BK449.out 2⟩ (fun hHeld => ?_)
   clear hK K
   refine norm_ (a' := ?_) ?_ ?_
   rotate_left
   ·show Act.put _ (some 26) _ = _
    simp only [Act.put, List.setIfInBounds_toArray, List.set_cons_zero, List.set_cons_succ, i64_w, i32_w]
    rfl
   refine pure_ (i := 3) (N := some 27) (v := ?_) (a' := ?_) #[true, true, true, true, true, true, false, false] rfl rfl (any_of HT_.out (by kernel_rfl)) (fun _ _ _ h => h) (Or.inl ⟨by rfl, ?_⟩) ?_ ?_
   rotate_left
   ·intro w'
    go_simp
    (try (simp only [Instr.field, asAgg]; go_simp))
    with_reducible rfl
   rotate_left
   ·simp only [Act.put, List.setIfInBounds_toArray, List.set_cons_zero, List.set_cons_succ, i64_w, i32_w]
    rfl
   refine pure_ (i := 6) (N := some 30) (v := ?_) (a' := ?_) #[true, true, true, true, true, true, true, false] rfl rfl (any_of HT_.out (by kernel_rfl)) (fun _ _ _ h => h) (Or.inl ⟨by rfl, ?_⟩) ?_ ?_
   rotate_left
   ·intro w'
    go_simp
    (try (simp only [Instr.field, asAgg]; go_simp))
    with_reducible rfl
   rotate_left
   ·simp only [Act.put, List.setIfInBounds_toArray, List.set_cons_zero, List.set_cons_succ, i64_w, i32_w]
    rfl
   refine pure_ (i := 7) (N := some 2) (v := ?_) (a' := ?_) #[true, true, true, true, true, true, true, true] rfl rfl (any_of HT_.out (by kernel_rfl)) (fun _ _ _ h => h) (Or.inl ⟨by rfl, ?_⟩) ?_ ?_
   rotate_left
   ·intro w'
    go_simp
    (try (simp only [Instr.field, asAgg]; go_simp))
    with_reducible rfl
   rotate_left
   ·simp only [Act.put, List.setIfInBounds_toArray, List.set_cons_zero, List.set_cons_succ, i64_w, i32_w]
    rfl
   refine done_ (done_of HT_.out (by kernel_rfl)) ?_
   try go_wp2
   go_ret
   exact ⟨q_e, bq⟩

end Go.Proofs.Ytcdpiejcdeedoaa.PFnCrashLogs
