/- The functions that a law reaches, each as a plain Lean function with the proof that the machine comes to its answer: written by program (the kit's print, turned by wip/gen). No conditions. -/
import Derived.Test.YtooiamkaipdmpaaPFnBytesx0
import Derived.Test.YtooiamkaipdmpaaPFnBytesx2
import Derived.Test.YtooiamkaipdmpaaPFnBytesx3
import Derived.Test.YtooiamkaipdmpaaPFnBytesx5
import Derived.Test.YtooiamkaipdmpaaPFnBytesx6
import Derived.Test.YtooiamkaipdmpaaPFnBytesx7
import Derived.Test.YtooiamkaipdmpaaPFnBytesx8
import Derived.Test.YtooiamkaipdmpaaPFnBytesx11
namespace Go.Proofs.Ytooiamkaipdmpaa.PFnBytes
open Go.RowKit Go.Proofs.YtooiamkaipdmpaaW.PrintWords Go.Proofs.YtooiamkaipdmpaaW.PrintLast Go.Proofs.YtooiamkaipdmpaaW.PrintMore
attribute [local go_sem] max2_int min2_int max_two min_two max_three min_three max_four min_four   -- for this text's walks alone
set_option linter.unusedVariables false
set_option linter.unusedSimpArgs false
theorem q_P12 {P : Program} {ops : Array Oper} {Q : Exit → Act → World → Prop} {md : Region.Mode} {S : World → Prop} {ds : List Nat} {T : Bool × List (List Nat × List Nat)} (i : Nat) (N : Option Tmp) {oi : Oper} {v : Value} {fuel : Nat} {l : Array Bool} {a : Act} {w : World} (l' : Array Bool) (hT : rtab md ops = T) {a' : Act}
    (h : wpAnyLast P md ops Q S ds fuel l' a' w) (hi : ops[i]? = some oi := by rfl) (hN : oi.dst = N := by rfl) (hc : anyT T l.toList l'.toList i = true := by kernel_rfl) (hQ : ∀ c a w, Q (.panic c) (a.put oi.dst v) w → Q (.panic c) a w := by exact fun _ _ _ h => h)
    (hy : Yields P ops oi v a := by refine Or.inl ⟨by rfl, ?_⟩; intro w'; go_simp; (try (simp only [Instr.field, asAgg]; go_simp)); with_reducible rfl) (ha : a.put N v = a' := by simp only [Act.put, List.setIfInBounds_toArray, List.set_cons_zero, List.set_cons_succ, i64_w, i32_w]; rfl) : wpAnyLast P md ops Q S ds (fuel + 1) l a w := pure_ l' hi hN (any_of hT hc) hQ hy ha h

/-! ### laws_FnBytes: function 12 -/
def laws_FnBytes.f (k : Nat) (l0 : List Int) : Option (Bool) := (laws_lwBig.f l0).bind fun t413 => (if t413 = true then (some true) else ((spec_DrawPackNumber.f l0).bind fun t414 => ((impl_PackNumber.f k t414).bind fun t415 => ((spec_DrawUnpackContract.f k l0).bind fun t418 => ((impl_UnpackContract.f k t418).bind fun bt421 => (if (t415.length : Int) = 8 then ((impl_UnpackNumber.f k t415).bind fun bt427 => (if bt427.2 = t414 then (if bt421.1 = 0 then ((impl_PackContract.f k bt421.2.1 bt421.2.2).bind fun bt429 => (if (strOfNums bt429.2).toList = (strOfNums t418).toList then ((spec_DrawPackContract.f k l0).bind fun bt433 => ((impl_PackContract.f k bt433.1 bt433.2).bind fun bt438 => (if bt438.1 = 0 then ((impl_UnpackContract.f k bt438.2).bind fun bt443 => (if bt443.1 = 0 then ((impl_SameContract.f k bt443.2.1 bt443.2.2 bt433.1 bt433.2).bind fun t449 => (some t449)) else (none))) else ((spec_ContractFault.f k bt433.1 bt433.2).bind fun t450 => (some (t450 == bt438.1)))))) else (none))) else ((spec_UnpackContract.f k t418).bind fun bt451 => (if bt451.1 = bt421.1 then ((spec_DrawPackContract.f k l0).bind fun bt456 => ((impl_PackContract.f k bt456.1 bt456.2).bind fun bt461 => (if bt461.1 = 0 then ((impl_UnpackContract.f k bt461.2).bind fun bt466 => (if bt466.1 = 0 then ((impl_SameContract.f k bt466.2.1 bt466.2.2 bt456.1 bt456.2).bind fun t472 => (some t472)) else (none))) else ((spec_ContractFault.f k bt456.1 bt456.2).bind fun t473 => (some (t473 == bt461.1)))))) else (none)))) else (none))) else (none)))))))
def laws_FnBytes.T7 : Bool × List (List Nat × List Nat) := (true, [([], []), ([0], [0]), ([1], [1]), ([2], [2]), ([3], [3]), ([4, 3, 3], [3, 4]), ([5, 3], [3, 5]), ([3], [3]), ([6, 7, 3], [3, 6, 7]), ([3, 8], [3, 8]), ([9, 5], [9]), ([10], [10]), ([11, 10], [10, 11]), ([12, 10], [10, 12]), ([13, 10, 10], [10, 13]), ([14], [14]), ([15, 14], [14, 15]), ([16, 14, 14], [14, 16]), ([17, 14], [14, 17]), ([18, 14], [14, 18]), ([14], [14]), ([20, 14], [14, 20]), ([19, 21, 14], [14, 19, 21]), ([14, 22, 10], [10, 14, 22]), ([10, 23], [10, 23]), ([24, 17], [24]), ([25], [25]), ([26, 25], [25, 26]), ([27, 25], [25, 27]), ([28, 25, 25], [25, 28]), ([29], [29]), ([30, 29, 29], [29, 30]), ([31, 29], [29, 31]), ([29], [29]), ([33, 29], [29, 33]), ([32, 34, 29], [29, 32, 34]), ([29, 35, 25], [25, 29, 35]), ([25, 36], [25, 36])])
def laws_FnBytes.B7 : List Nat := [0, 1, 3, 7, 15, 31, 63, 15, 255, 511, 1023, 2047, 4095, 8191, 16383, 32767, 65535, 131071, 262143, 524287, 32767, 1081343, 4194303, 8388607, 16777215, 33554431, 67108863, 134217727, 268435455, 536870911, 1073741823, 2147483647, 4294967295, 1073741823, 9663676415, 34359738367, 68719476735, 137438953471]
theorem laws_FnBytes.tab7 : rtab .any (opsOf Try.f12 7) = laws_FnBytes.T7 := by kernel_rfl
theorem laws_FnBytes.bits7 : waitsOk laws_FnBytes.T7.2 laws_FnBytes.B7 = true := by kernel_rfl
attribute [local go_sem] Instr.field asAgg
set_option maxHeartbeats 8000000 in
set_option maxRecDepth 100000 in
theorem laws_FnBytes.calls (k : Nat) (A0 : Option Addr) (c0 : Nat) (l0 : List Int) (r : Bool) (w : World) (hr0 : Kd.C (Kd.int .u8) w A0 l0.length l0) (hc0 : l0.length ≤ c0) (h : laws_FnBytes.f k l0 = some r) :
  Calls Try.prog 12 #[.slice A0 l0.length c0] w fun e w' => e = .returned (.bool r) ∧ Below w.heap.size w w' := by
 have hu59 := Try.underlying59
 have hu42 := Try.underlying42
 have hu36 := Try.underlying36
 have hu24 := Try.underlying24
 have HR0 := Aside0.mk hr0
 have HC0 := Aside0.mk hc0
 clear hr0 hc0
 have HB := Aside0.mk (Below.refl w.heap.size w)
 have H : ((laws_lwBig.f l0).bind fun t413 => (if t413 = true then (some true) else ((spec_DrawPackNumber.f l0).bind fun t414 => ((impl_PackNumber.f k t414).bind fun t415 => ((spec_DrawUnpackContract.f k l0).bind fun t418 => ((impl_UnpackContract.f k t418).bind fun bt421 => (if (t415.length : Int) = 8 then ((impl_UnpackNumber.f k t415).bind fun bt427 => (if bt427.2 = t414 then (if bt421.1 = 0 then ((impl_PackContract.f k bt421.2.1 bt421.2.2).bind fun bt429 => (if (strOfNums bt429.2).toList = (strOfNums t418).toList then ((spec_DrawPackContract.f k l0).bind fun bt433 => ((impl_PackContract.f k bt433.1 bt433.2).bind fun bt438 => (if bt438.1 = 0 then ((impl_UnpackContract.f k bt438.2).bind fun bt443 => (if bt443.1 = 0 then ((impl_SameContract.f k bt443.2.1 bt443.2.2 bt433.1 bt433.2).bind fun t449 => (some t449)) else (none))) else ((spec_ContractFault.f k bt433.1 bt433.2).bind fun t450 => (some (t450 == bt438.1)))))) else (none))) else ((spec_UnpackContract.f k t418).bind fun bt451 => (if bt451.1 = bt421.1 then ((spec_DrawPackContract.f k l0).bind fun bt456 => ((impl_PackContract.f k bt456.1 bt456.2).bind fun bt461 => (if bt461.1 = 0 then ((impl_UnpackContract.f k bt461.2).bind fun bt466 => (if bt466.1 = 0 then ((impl_SameContract.f k bt466.2.1 bt466.2.2 bt456.1 bt456.2).bind fun t472 => (some t472)) else (none))) else ((spec_ContractFault.f k bt456.1 bt456.2).bind fun t473 => (some (t473 == bt461.1)))))) else (none)))) else (none))) else (none)))))))) = some r := h
 clear h
 replace H := Option.bind_eq_some_iff.mp H
 obtain ⟨t413, A20, H⟩ := H
 replace H : (if t413 = true then (some true) else ((spec_DrawPackNumber.f l0).bind fun t414 => ((impl_PackNumber.f k t414).bind fun t415 => ((spec_DrawUnpackContract.f k l0).bind fun t418 => ((impl_UnpackContract.f k t418).bind fun bt421 => (if (t415.length : Int) = 8 then ((impl_UnpackNumber.f k t415).bind fun bt427 => (if bt427.2 = t414 then (if bt421.1 = 0 then ((impl_PackContract.f k bt421.2.1 bt421.2.2).bind fun bt429 => (if (strOfNums bt429.2).toList = (strOfNums t418).toList then ((spec_DrawPackContract.f k l0).bind fun bt433 => ((impl_PackContract.f k bt433.1 bt433.2).bind fun bt438 => (if bt438.1 = 0 then ((impl_UnpackContract.f k bt438.2).bind fun bt443 => (if bt443.1 = 0 then ((impl_SameContract.f k bt443.2.1 bt443.2.2 bt433.1 bt433.2).bind fun t449 => (some t449)) else (none))) else ((spec_ContractFault.f k bt433.1 bt433.2).bind fun t450 => (some (t450 == bt438.1)))))) else (none))) else ((spec_UnpackContract.f k t418).bind fun bt451 => (if bt451.1 = bt421.1 then ((spec_DrawPackContract.f k l0).bind fun bt456 => ((impl_PackContract.f k bt456.1 bt456.2).bind fun bt461 => (if bt461.1 = 0 then ((impl_UnpackContract.f k bt461.2).bind fun bt466 => (if bt466.1 = 0 then ((impl_SameContract.f k bt466.2.1 bt466.2.2 bt456.1 bt456.2).bind fun t472 => (some t472)) else (none))) else ((spec_ContractFault.f k bt456.1 bt456.2).bind fun t473 => (some (t473 == bt461.1)))))) else (none)))) else (none))) else (none))))))) = some r := H
 have A2 := Aside0.mk A20
 clear A20
 by_cases c3 : t413 = true
 ·subst c3
  have H1 : (some true) = some r := by rw [if_pos rfl] at H; exact H
  clear H
  have H := H1
  clear H1
  obtain rfl := Option.some.inj H
  go_enter Try.func12, Try.ntmps12
  go_wp2_with (first | ((with_reducible refine gate_callee (f := 53) rfl ?_); refine goesLq (some 11) rfl rfl Try.func53 (by kernel_rfl) rfl #[.slice A0 l0.length c0] rfl ?_; (with_reducible refine (laws_lwBig.calls _ _ l0 true _ ?side1 ?side2 A2.out).mono ?_); (case side1 => exact q_c (HR0.out)); (case side2 => exact HC0.out); rintro e w' ⟨rfl, ⟨nd, rfl⟩⟩; refine ⟨_, rfl, ?_⟩))
  go_ret
  exact ⟨q_e, bq⟩
 ·replace c3 := Bool.eq_false_iff.mpr c3
  subst c3
  have H1 : ((spec_DrawPackNumber.f l0).bind fun t414 => ((impl_PackNumber.f k t414).bind fun t415 => ((spec_DrawUnpackContract.f k l0).bind fun t418 => ((impl_UnpackContract.f k t418).bind fun bt421 => (if (t415.length : Int) = 8 then ((impl_UnpackNumber.f k t415).bind fun bt427 => (if bt427.2 = t414 then (if bt421.1 = 0 then ((impl_PackContract.f k bt421.2.1 bt421.2.2).bind fun bt429 => (if (strOfNums bt429.2).toList = (strOfNums t418).toList then ((spec_DrawPackContract.f k l0).bind fun bt433 => ((impl_PackContract.f k bt433.1 bt433.2).bind fun bt438 => (if bt438.1 = 0 then ((impl_UnpackContract.f k bt438.2).bind fun bt443 => (if bt443.1 = 0 then ((impl_SameContract.f k bt443.2.1 bt443.2.2 bt433.1 bt433.2).bind fun t449 => (some t449)) else (none))) else ((spec_ContractFault.f k bt433.1 bt433.2).bind fun t450 => (some (t450 == bt438.1)))))) else (none))) else ((spec_UnpackContract.f k t418).bind fun bt451 => (if bt451.1 = bt421.1 then ((spec_DrawPackContract.f k l0).bind fun bt456 => ((impl_PackContract.f k bt456.1 bt456.2).bind fun bt461 => (if bt461.1 = 0 then ((impl_UnpackContract.f k bt461.2).bind fun bt466 => (if bt466.1 = 0 then ((impl_SameContract.f k bt466.2.1 bt466.2.2 bt456.1 bt456.2).bind fun t472 => (some t472)) else (none))) else ((spec_ContractFault.f k bt456.1 bt456.2).bind fun t473 => (some (t473 == bt461.1)))))) else (none)))) else (none))) else (none)))))) = some r := by rw [if_neg (show ¬ (false = true) by decide)] at H; exact H
  clear H
  have H := H1
  clear H1
  replace H := Option.bind_eq_some_iff.mp H
  obtain ⟨t414, A40, H⟩ := H
  replace H : ((impl_PackNumber.f k t414).bind fun t415 => ((spec_DrawUnpackContract.f k l0).bind fun t418 => ((impl_UnpackContract.f k t418).bind fun bt421 => (if (t415.length : Int) = 8 then ((impl_UnpackNumber.f k t415).bind fun bt427 => (if bt427.2 = t414 then (if bt421.1 = 0 then ((impl_PackContract.f k bt421.2.1 bt421.2.2).bind fun bt429 => (if (strOfNums bt429.2).toList = (strOfNums t418).toList then ((spec_DrawPackContract.f k l0).bind fun bt433 => ((impl_PackContract.f k bt433.1 bt433.2).bind fun bt438 => (if bt438.1 = 0 then ((impl_UnpackContract.f k bt438.2).bind fun bt443 => (if bt443.1 = 0 then ((impl_SameContract.f k bt443.2.1 bt443.2.2 bt433.1 bt433.2).bind fun t449 => (some t449)) else (none))) else ((spec_ContractFault.f k bt433.1 bt433.2).bind fun t450 => (some (t450 == bt438.1)))))) else (none))) else ((spec_UnpackContract.f k t418).bind fun bt451 => (if bt451.1 = bt421.1 then ((spec_DrawPackContract.f k l0).bind fun bt456 => ((impl_PackContract.f k bt456.1 bt456.2).bind fun bt461 => (if bt461.1 = 0 then ((impl_UnpackContract.f k bt461.2).bind fun bt466 => (if bt466.1 = 0 then ((impl_SameContract.f k bt466.2.1 bt466.2.2 bt456.1 bt456.2).bind fun t472 => (some t472)) else (none))) else ((spec_ContractFault.f k bt456.1 bt456.2).bind fun t473 => (some (t473 == bt461.1)))))) else (none)))) else (none))) else (none))))) = some r := H
  have A4 := Aside0.mk A40
  clear A40
  replace H := Option.bind_eq_some_iff.mp H
  obtain ⟨t415, A50, H⟩ := H
  replace H : ((spec_DrawUnpackContract.f k l0).bind fun t418 => ((impl_UnpackContract.f k t418).bind fun bt421 => (if (t415.length : Int) = 8 then ((impl_UnpackNumber.f k t415).bind fun bt427 => (if bt427.2 = t414 then (if bt421.1 = 0 then ((impl_PackContract.f k bt421.2.1 bt421.2.2).bind fun bt429 => (if (strOfNums bt429.2).toList = (strOfNums t418).toList then ((spec_DrawPackContract.f k l0).bind fun bt433 => ((impl_PackContract.f k bt433.1 bt433.2).bind fun bt438 => (if bt438.1 = 0 then ((impl_UnpackContract.f k bt438.2).bind fun bt443 => (if bt443.1 = 0 then ((impl_SameContract.f k bt443.2.1 bt443.2.2 bt433.1 bt433.2).bind fun t449 => (some t449)) else (none))) else ((spec_ContractFault.f k bt433.1 bt433.2).bind fun t450 => (some (t450 == bt438.1)))))) else (none))) else ((spec_UnpackContract.f k t418).bind fun bt451 => (if bt451.1 = bt421.1 then ((spec_DrawPackContract.f k l0).bind fun bt456 => ((impl_PackContract.f k bt456.1 bt456.2).bind fun bt461 => (if bt461.1 = 0 then ((impl_UnpackContract.f k bt461.2).bind fun bt466 => (if bt466.1 = 0 then ((impl_SameContract.f k bt466.2.1 bt466.2.2 bt456.1 bt456.2).bind fun t472 => (some t472)) else (none))) else ((spec_ContractFault.f k bt456.1 bt456.2).bind fun t473 => (some (t473 == bt461.1)))))) else (none)))) else (none))) else (none)))) = some r := H
  have A5 := Aside0.mk A50
  clear A50
  replace H := Option.bind_eq_some_iff.mp H
  obtain ⟨t418, A60, H⟩ := H
  replace H : ((impl_UnpackContract.f k t418).bind fun bt421 => (if (t415.length : Int) = 8 then ((impl_UnpackNumber.f k t415).bind fun bt427 => (if bt427.2 = t414 then (if bt421.1 = 0 then ((impl_PackContract.f k bt421.2.1 bt421.2.2).bind fun bt429 => (if (strOfNums bt429.2).toList = (strOfNums t418).toList then ((spec_DrawPackContract.f k l0).bind fun bt433 => ((impl_PackContract.f k bt433.1 bt433.2).bind fun bt438 => (if bt438.1 = 0 then ((impl_UnpackContract.f k bt438.2).bind fun bt443 => (if bt443.1 = 0 then ((impl_SameContract.f k bt443.2.1 bt443.2.2 bt433.1 bt433.2).bind fun t449 => (some t449)) else (none))) else ((spec_ContractFault.f k bt433.1 bt433.2).bind fun t450 => (some (t450 == bt438.1)))))) else (none))) else ((spec_UnpackContract.f k t418).bind fun bt451 => (if bt451.1 = bt421.1 then ((spec_DrawPackContract.f k l0).bind fun bt456 => ((impl_PackContract.f k bt456.1 bt456.2).bind fun bt461 => (if bt461.1 = 0 then ((impl_UnpackContract.f k bt461.2).bind fun bt466 => (if bt466.1 = 0 then ((impl_SameContract.f k bt466.2.1 bt466.2.2 bt456.1 bt456.2).bind fun t472 => (some t472)) else (none))) else ((spec_ContractFault.f k bt456.1 bt456.2).bind fun t473 => (some (t473 == bt461.1)))))) else (none)))) else (none))) else (none))) = some r := H
  have A6 := Aside0.mk A60
  clear A60
  replace H := Option.bind_eq_some_iff.mp H
  obtain ⟨⟨t421, t422, t423⟩, A70, H⟩ := H
  replace H : (if (t415.length : Int) = 8 then ((impl_UnpackNumber.f k t415).bind fun bt427 => (if bt427.2 = t414 then (if t421 = 0 then ((impl_PackContract.f k t422 t423).bind fun bt429 => (if (strOfNums bt429.2).toList = (strOfNums t418).toList then ((spec_DrawPackContract.f k l0).bind fun bt433 => ((impl_PackContract.f k bt433.1 bt433.2).bind fun bt438 => (if bt438.1 = 0 then ((impl_UnpackContract.f k bt438.2).bind fun bt443 => (if bt443.1 = 0 then ((impl_SameContract.f k bt443.2.1 bt443.2.2 bt433.1 bt433.2).bind fun t449 => (some t449)) else (none))) else ((spec_ContractFault.f k bt433.1 bt433.2).bind fun t450 => (some (t450 == bt438.1)))))) else (none))) else ((spec_UnpackContract.f k t418).bind fun bt451 => (if bt451.1 = t421 then ((spec_DrawPackContract.f k l0).bind fun bt456 => ((impl_PackContract.f k bt456.1 bt456.2).bind fun bt461 => (if bt461.1 = 0 then ((impl_UnpackContract.f k bt461.2).bind fun bt466 => (if bt466.1 = 0 then ((impl_SameContract.f k bt466.2.1 bt466.2.2 bt456.1 bt456.2).bind fun t472 => (some t472)) else (none))) else ((spec_ContractFault.f k bt456.1 bt456.2).bind fun t473 => (some (t473 == bt461.1)))))) else (none)))) else (none))) else (none)) = some r := H
  have A7 := Aside0.mk A70
  clear A70
  by_cases c8 : (t415.length : Int) = 8
  ·rw [if_pos c8] at H
   have c8b0 : ((t415.length : Int) == 8) = true := beq_iff_eq.mpr c8
   have c8b1 : ((t415.length : Int) != 8) = false := bne_eq_false_iff_eq.mpr c8
   clear c8
   replace H := Option.bind_eq_some_iff.mp H
   obtain ⟨⟨t427, t428⟩, A90, H⟩ := H
   replace H : (if t428 = t414 then (if t421 = 0 then ((impl_PackContract.f k t422 t423).bind fun bt429 => (if (strOfNums bt429.2).toList = (strOfNums t418).toList then ((spec_DrawPackContract.f k l0).bind fun bt433 => ((impl_PackContract.f k bt433.1 bt433.2).bind fun bt438 => (if bt438.1 = 0 then ((impl_UnpackContract.f k bt438.2).bind fun bt443 => (if bt443.1 = 0 then ((impl_SameContract.f k bt443.2.1 bt443.2.2 bt433.1 bt433.2).bind fun t449 => (some t449)) else (none))) else ((spec_ContractFault.f k bt433.1 bt433.2).bind fun t450 => (some (t450 == bt438.1)))))) else (none))) else ((spec_UnpackContract.f k t418).bind fun bt451 => (if bt451.1 = t421 then ((spec_DrawPackContract.f k l0).bind fun bt456 => ((impl_PackContract.f k bt456.1 bt456.2).bind fun bt461 => (if bt461.1 = 0 then ((impl_UnpackContract.f k bt461.2).bind fun bt466 => (if bt466.1 = 0 then ((impl_SameContract.f k bt466.2.1 bt466.2.2 bt456.1 bt456.2).bind fun t472 => (some t472)) else (none))) else ((spec_ContractFault.f k bt456.1 bt456.2).bind fun t473 => (some (t473 == bt461.1)))))) else (none)))) else (none)) = some r := H
   have A9 := Aside0.mk A90
   clear A90
   by_cases c10 : t428 = t414
   ·rw [if_pos c10] at H
    have c10b0 : (t428 == t414) = true := beq_iff_eq.mpr c10
    have c10b1 : (t428 != t414) = false := bne_eq_false_iff_eq.mpr c10
    clear c10
    by_cases c11 : t421 = 0
    ·rw [if_pos c11] at H
     have c11b0 : (t421 == 0) = true := beq_iff_eq.mpr c11
     have c11b1 : (t421 != 0) = false := bne_eq_false_iff_eq.mpr c11
     clear c11
     replace H := Option.bind_eq_some_iff.mp H
     obtain ⟨⟨t429, t430⟩, A120, H⟩ := H
     replace H : (if (strOfNums t430).toList = (strOfNums t418).toList then ((spec_DrawPackContract.f k l0).bind fun bt433 => ((impl_PackContract.f k bt433.1 bt433.2).bind fun bt438 => (if bt438.1 = 0 then ((impl_UnpackContract.f k bt438.2).bind fun bt443 => (if bt443.1 = 0 then ((impl_SameContract.f k bt443.2.1 bt443.2.2 bt433.1 bt433.2).bind fun t449 => (some t449)) else (none))) else ((spec_ContractFault.f k bt433.1 bt433.2).bind fun t450 => (some (t450 == bt438.1)))))) else (none)) = some r := H
     have A12 := Aside0.mk A120
     clear A120
     by_cases c13 : (strOfNums t430).toList = (strOfNums t418).toList
     ·rw [if_pos c13] at H
      have c13b0 : ((strOfNums t430).toList == (strOfNums t418).toList) = true := beq_iff_eq.mpr c13
      have c13b1 : ((strOfNums t430).toList != (strOfNums t418).toList) = false := bne_eq_false_iff_eq.mpr c13
      clear c13
      replace H := Option.bind_eq_some_iff.mp H
      obtain ⟨⟨t433, t434⟩, A140, H⟩ := H
      replace H : ((impl_PackContract.f k t433 t434).bind fun bt438 => (if bt438.1 = 0 then ((impl_UnpackContract.f k bt438.2).bind fun bt443 => (if bt443.1 = 0 then ((impl_SameContract.f k bt443.2.1 bt443.2.2 t433 t434).bind fun t449 => (some t449)) else (none))) else ((spec_ContractFault.f k t433 t434).bind fun t450 => (some (t450 == bt438.1))))) = some r := H
      have A14 := Aside0.mk A140
      clear A140
      replace H := Option.bind_eq_some_iff.mp H
      obtain ⟨⟨t438, t439⟩, A150, H⟩ := H
      replace H : (if t438 = 0 then ((impl_UnpackContract.f k t439).bind fun bt443 => (if bt443.1 = 0 then ((impl_SameContract.f k bt443.2.1 bt443.2.2 t433 t434).bind fun t449 => (some t449)) else (none))) else ((spec_ContractFault.f k t433 t434).bind fun t450 => (some (t450 == t438)))) = some r := H
      have A15 := Aside0.mk A150
      clear A150
      by_cases c16 : t438 = 0
      ·rw [if_pos c16] at H
       have c16b0 : (t438 == 0) = true := beq_iff_eq.mpr c16
       have c16b1 : (t438 != 0) = false := bne_eq_false_iff_eq.mpr c16
       clear c16
       replace H := Option.bind_eq_some_iff.mp H
       obtain ⟨⟨t443, t444, t445⟩, A170, H⟩ := H
       replace H : (if t443 = 0 then ((impl_SameContract.f k t444 t445 t433 t434).bind fun t449 => (some t449)) else (none)) = some r := H
       have A17 := Aside0.mk A170
       clear A170
       by_cases c18 : t443 = 0
       ·rw [if_pos c18] at H
        have c18b0 : (t443 == 0) = true := beq_iff_eq.mpr c18
        have c18b1 : (t443 != 0) = false := bne_eq_false_iff_eq.mpr c18
        clear c18
        replace H := Option.bind_eq_some_iff.mp H
        obtain ⟨t449, A190, H⟩ := H
        replace H : (some t449) = some r := H
        have A19 := Aside0.mk A190
        clear A190
        obtain rfl := Option.some.inj H
        go_enter Try.func12, Try.ntmps12
        try go_wp2_with (first | ((with_reducible refine gate_callee (f := 53) rfl ?_); refine goesLq (some 11) rfl rfl Try.func53 (by kernel_rfl) rfl #[.slice A0 l0.length c0] rfl ?_; (with_reducible refine (laws_lwBig.calls _ _ l0 false _ ?side1 ?side2 A2.out).mono ?_); (case side1 => exact q_c (HR0.out)); (case side2 => exact HC0.out); rintro e w' ⟨rfl, ⟨nd, rfl⟩⟩; refine ⟨_, rfl, ?_⟩) | ((with_reducible refine gate_callee (f := 54) rfl ?_); refine goesLq (some 13) rfl rfl Try.func54 (by kernel_rfl) rfl #[.slice A0 l0.length c0] rfl ?_; (with_reducible refine (spec_DrawPackNumber.calls _ _ l0 t414 _ ?side1 ?side2 A4.out).mono ?_); (case side1 => exact q_c (HR0.out)); (case side2 => exact HC0.out); rintro e w20 ⟨rfl, hb⟩; refine ⟨_, rfl, ?_⟩; have n0_ := Aside0.mk (below_step bq hb); revert n0_; clear HB; intro HB; (try clear hb); (try clear hb2); (try clear hk); (try clear hi)) | ((with_reducible refine gate_callee (f := 55) rfl ?_); refine goesLq (some 15) rfl rfl Try.func55 (by kernel_rfl) rfl #[.int .i64 t414] rfl ?_; (with_reducible refine (impl_PackNumber.calls k t414 t415 _ A5.out).mono ?_); rintro e w21 ⟨v416, rfl, ho0, hb⟩; refine ⟨_, rfl, ?_⟩; have n0_ := Aside0.mk (Kd.R_lower ho0 (below_size bq)); have n1_ := Aside0.mk (below_step bq hb); revert n0_ n1_; clear HB; intro HO417 HB; (try clear hb); (try clear hb2); (try clear hk); (try clear hi); (try clear ho0)) | ((with_reducible refine gate_callee (f := 56) rfl ?_); refine goesLq (some 17) rfl rfl Try.func56 (by kernel_rfl) rfl #[.slice A0 l0.length c0] rfl ?_; (with_reducible refine (spec_DrawUnpackContract.calls k _ _ l0 t418 _ ?side1 ?side2 A6.out).mono ?_); (case side1 => exact q_c ((Kd.C_below HR0.out HB.out))); (case side2 => exact HC0.out); rintro e w22 ⟨v419, rfl, ho0, hb⟩; refine ⟨_, rfl, ?_⟩; have n0_ := Aside0.mk (Kd.R_elder' (q_r (HO417.out)) (Kd.R_base ho0) hb); have n1_ := Aside0.mk (Kd.R_lower (Kd.R_new' ho0 (Kd.R_lt (q_r (HO417.out)))) (below_size bq)); have n2_ := Aside0.mk (below_step bq hb); revert n0_ n1_ n2_; clear HO417 HB; intro HO417 HO420 HB; (try clear hb); (try clear hb2); (try clear hk); (try clear hi); (try clear ho0); obtain ⟨Ao23, co23, eo23⟩ := Kd.R_slice HO420.out; subst eo23) | ((with_reducible refine gate_callee (f := 50) rfl ?_); refine goesLq (some 19) rfl rfl Try.func50 (by kernel_rfl) rfl #[.slice Ao23 t418.length co23] rfl ?_; (with_reducible refine (impl_UnpackContract.calls k _ _ t418 t421 t422 t423 _ ?side1 ?side2 A7.out).mono ?_); (case side1 => exact q_c ((Kd.R_reads' HO420.out).2.2)); (case side2 => exact (Kd.R_reads' HO420.out).2.1); rintro e w24 ⟨v424, rfl, ho0, hb⟩; refine ⟨_, rfl, ?_⟩; have n0_ := Aside0.mk (Kd.R_below (q_r (HO417.out)) hb); have n1_ := Aside0.mk (Kd.R_below (q_r (HO420.out)) hb); have n2_ := Aside0.mk (Kd.R_lower ho0 (below_size bq)); have n3_ := Aside0.mk (below_step bq hb); revert n0_ n1_ n2_ n3_; clear HO417 HO420 HB; intro HO417 HO420 HO425 HB; (try clear hb); (try clear hb2); (try clear hk); (try clear hi); (try clear ho0)) | ((with_reducible refine gate_dst (N := 6) rfl ?_); refine q_box (N := 6) (cs := #[.int .i64 0, .int .i64 0, .slice none 0 0]) (t := 59) ?_; intro gb426 hg w25 hbox hb; have n0_ := Aside0.mk (Kd.R_below (q_r (HO417.out)) hb); have n1_ := Aside0.mk (Kd.R_below (q_r (HO420.out)) hb); have n2_ := Aside0.mk (Kd.R_below (q_r (HO425.out)) hb); have n3_ := Aside0.mk (below_step bq hb); have n4_ := Aside0.mk (hbox); have n5_ := Aside0.mk ((q_g hg bq : w.heap.size ≤ gb426)); have n6_ := Aside0.mk ((q_g hg bq : w.heap.size ≤ gb426)); revert n0_ n1_ n2_ n3_ n4_ n5_ n6_; clear HO417 HO420 HO425 HB; intro HO417 HO420 HO425 HB BK426 GW426 GE426; clear hb hbox hg; obtain ⟨hcz26_0, hcz26_1, hcz26_2, hfz26_0, hfz26_1, hfz26_2⟩ := q_3 BK426.out; obtain ⟨Ao27, co27, eo27⟩ := Kd.R_slice HO425.out; subst eo27; obtain ⟨Ao28, co28, eo28⟩ := Kd.R_slice HO417.out; subst eo28))
        have n0_ : Aside0 (Kd.R (Kd.int .u8) 5 (((w25.setCell ⟨gb426, 0, none⟩ (.int .i64 t421)).setCell ⟨gb426, 1, none⟩ (.int .i64 t422)).setCell ⟨gb426, 2, none⟩ (.slice Ao27 t423.length co27)) w.heap.size (fun k_ => some k_ ≠ (.slice Ao23 t418.length co23 : Value).ownBlock) (.slice Ao28 t415.length co28) t415) := ⟨by (with_reducible repeat (first | apply Kd.R_alloc | apply Kd.R_drewN | apply Kd.R_drew)); exact Kd.R_mono (Kd.R_far (p := ⟨gb426, 2, none⟩) (Kd.R_far (p := ⟨gb426, 1, none⟩) (Kd.R_far (p := ⟨gb426, 0, none⟩) (Kd.R_types HO417.out BK426.out (by decide)) (fun _ hk => hk.2) (.int .i64 t421)) (fun _ hk => hk.2) (.int .i64 t422)) (fun _ hk => hk.2) (.slice Ao27 t423.length co27)) (fun _ hk => hk.1.2)⟩
        have n1_ : Aside0 (Kd.R (Kd.int .u8) 5 (((w25.setCell ⟨gb426, 0, none⟩ (.int .i64 t421)).setCell ⟨gb426, 1, none⟩ (.int .i64 t422)).setCell ⟨gb426, 2, none⟩ (.slice Ao27 t423.length co27)) w.heap.size (fun k_ => some k_ ≠ (.slice Ao28 t415.length co28 : Value).ownBlock) (.slice Ao23 t418.length co23) t418) := ⟨by (with_reducible repeat (first | apply Kd.R_alloc | apply Kd.R_drewN | apply Kd.R_drew)); exact Kd.R_mono (Kd.R_far (p := ⟨gb426, 2, none⟩) (Kd.R_far (p := ⟨gb426, 1, none⟩) (Kd.R_far (p := ⟨gb426, 0, none⟩) (Kd.R_types HO420.out BK426.out (by decide)) (fun _ hk => hk.2) (.int .i64 t421)) (fun _ hk => hk.2) (.int .i64 t422)) (fun _ hk => hk.2) (.slice Ao27 t423.length co27)) (fun _ hk => hk.1.2)⟩
        have n2_ : Aside0 (Kd.R k89 89 (((w25.setCell ⟨gb426, 0, none⟩ (.int .i64 t421)).setCell ⟨gb426, 1, none⟩ (.int .i64 t422)).setCell ⟨gb426, 2, none⟩ (.slice Ao27 t423.length co27)) w.heap.size (fun _ => True) (.slice Ao27 t423.length co27) t423) := ⟨by (with_reducible repeat (first | apply Kd.R_alloc | apply Kd.R_drewN | apply Kd.R_drew)); exact Kd.R_mono (Kd.R_far (p := ⟨gb426, 2, none⟩) (Kd.R_far (p := ⟨gb426, 1, none⟩) (Kd.R_far (p := ⟨gb426, 0, none⟩) (Kd.R_types HO425.out BK426.out (by decide)) (fun _ hk => hk.2) (.int .i64 t421)) (fun _ hk => hk.2) (.int .i64 t422)) (fun _ hk => hk.2) (.slice Ao27 t423.length co27)) (fun _ hk => trivial)⟩
        have n3_ : Aside0 ((((w25.setCell ⟨gb426, 0, none⟩ (.int .i64 t421)).setCell ⟨gb426, 1, none⟩ (.int .i64 t422)).setCell ⟨gb426, 2, none⟩ (.slice Ao27 t423.length co27)).heap[gb426]? = some (.cells #[.int .i64 t421, .int .i64 t422, .slice Ao27 t423.length co27] 59 (0, 0))) := ⟨by (with_reducible repeat (first | refine blk_drewN ?_ _ | refine blk_drew ?_ | refine blk_alloc ?_ _)); refine blk_put (cs := #[.int .i64 t421, .int .i64 t422, .slice none 0 0]) ?_ 2 _ rfl; (with_reducible repeat (first | refine blk_drewN ?_ _ | refine blk_drew ?_ | refine blk_alloc ?_ _)); refine blk_put (cs := #[.int .i64 t421, .int .i64 0, .slice none 0 0]) ?_ 1 _ rfl; (with_reducible repeat (first | refine blk_drewN ?_ _ | refine blk_drew ?_ | refine blk_alloc ?_ _)); refine blk_put (cs := #[.int .i64 0, .int .i64 0, .slice none 0 0]) ?_ 0 _ rfl; (with_reducible repeat (first | refine blk_drewN ?_ _ | refine blk_drew ?_ | refine blk_alloc ?_ _)); exact BK426.out⟩
        have n4_ : Aside0 (Below w.heap.size w (((w25.setCell ⟨gb426, 0, none⟩ (.int .i64 t421)).setCell ⟨gb426, 1, none⟩ (.int .i64 t422)).setCell ⟨gb426, 2, none⟩ (.slice Ao27 t423.length co27))) := ⟨bq⟩
        (try clear HO417)
        (try clear HO420)
        (try clear HO425)
        (try clear BK426)
        (try clear HB)
        generalize (((w25.setCell ⟨gb426, 0, none⟩ (.int .i64 t421)).setCell ⟨gb426, 1, none⟩ (.int .i64 t422)).setCell ⟨gb426, 2, none⟩ (.slice Ao27 t423.length co27)) = w29 at n0_ n1_ n2_ n3_ n4_ ⊢
        have HO417 := n0_
        have HO420 := n1_
        have HO425 := n2_
        have BK426 := n3_
        have HB := n4_
        clear n0_ n1_ n2_ n3_ n4_
        have n0_ := Aside0.mk (Kd.R_drew HO417.out)
        have n1_ := Aside0.mk (Kd.R_drew HO420.out)
        have n2_ := Aside0.mk (Kd.R_drew HO425.out)
        have n3_ := Aside0.mk (blk_drew BK426.out)
        have n4_ := Aside0.mk (below_drew1 HB.out)
        clear HO417
        clear HO420
        clear HO425
        clear BK426
        clear HB
        have HO417 := n0_
        have HO420 := n1_
        have HO425 := n2_
        have BK426 := n3_
        have HB := n4_
        clear n0_ n1_ n2_ n3_ n4_
        refine start_ (n := 38) (S := fun w' => w'.cell? ⟨gb426, 0, none⟩ = some (.int .i64 t421) ∧ w'.cell? ⟨gb426, 1, none⟩ = some (.int .i64 t422) ∧ w'.cell? ⟨gb426, 2, none⟩ = some (.slice Ao27 t423.length co27) ∧ (convert 22 9 (.slice Ao23 t418.length co23)).run Try.prog w' = .ok (.string (strOfNums t418)) w') (ds := []) #[false, false, false, false, false, false, false, false, false, false, false, false, false, false, false, false, false, false, false, false, false, false, false, false, false, false, false, false, false, false, false, false, false, false, false, false, false, false] (by kernel_rfl) rfl rfl ⟨q_z BK426.out 0, q_z BK426.out 1, q_z BK426.out 2, (own_string (P := Try.prog) Try.underlying22 Try.underlying5 Try.underlying9 (Kd.own_of_R HO420.out))⟩ (fun hHeld => ?_); refine with_tabW laws_FnBytes.tab7 laws_FnBytes.bits7 (fun HT_ HW_ => ?_)
        generalize w29.drew = w30 at HO417 HO420 HO425 BK426 HB hHeld ⊢
        refine q_P12 0 (some 20) #[true, false, false, false, false, false, false, false, false, false, false, false, false, false, false, false, false, false, false, false, false, false, false, false, false, false, false, false, false, false, false, false, false, false, false, false, false, false] HT_.out ?_
        refine q_P12 1 (some 21) #[true, true, false, false, false, false, false, false, false, false, false, false, false, false, false, false, false, false, false, false, false, false, false, false, false, false, false, false, false, false, false, false, false, false, false, false, false, false] HT_.out ?_
        refine q_P12 2 (some 22) #[true, true, true, false, false, false, false, false, false, false, false, false, false, false, false, false, false, false, false, false, false, false, false, false, false, false, false, false, false, false, false, false, false, false, false, false, false, false] HT_.out ?_
        refine q_P12 3 (some 23) #[true, true, true, true, false, false, false, false, false, false, false, false, false, false, false, false, false, false, false, false, false, false, false, false, false, false, false, false, false, false, false, false, false, false, false, false, false, false] HT_.out ?_
        refine q_P12 4 (some 24) #[true, true, true, true, true, false, false, false, false, false, false, false, false, false, false, false, false, false, false, false, false, false, false, false, false, false, false, false, false, false, false, false, false, false, false, false, false, false] HT_.out ?_
        refine q_P12 7 (some 27) #[true, true, true, true, true, false, false, true, false, false, false, false, false, false, false, false, false, false, false, false, false, false, false, false, false, false, false, false, false, false, false, false, false, false, false, false, false, false] HT_.out ?_
        refine one_ (i := 5) (N := some 25) #[true, true, true, true, true, true, false, true, false, false, false, false, false, false, false, false, false, false, false, false, false, false, false, false, false, false, false, false, false, false, false, false, false, false, false, false, false, false] rfl rfl (one_of HT_.out (by kernel_rfl)) (by decide) (fun K hK => ?_)
        refine goes_ Try.func57 (by kernel_rfl) rfl #[.slice Ao28 t415.length co28] (by rfl) rfl rfl (by (try simp only [List.map_toArray, List.map_cons, List.map_nil]); first | done | rfl | (simp only [List.length_drop, List.length_take]; rfl)) ?_
        with_reducible refine (impl_UnpackNumber.calls k _ _ t415 t427 t428 _ ?side1 ?side2 A9.out).mono ?_
        (case side1 => exact q_c ((Kd.R_reads' HO417.out).2.2))
        (case side2 => exact (Kd.R_reads' HO417.out).2.1)
        rintro e w31 ⟨rfl, hb⟩
        refine ⟨_, rfl, ?_⟩
        have n0_ := Aside0.mk (Kd.R_below (q_r (HO417.out)) hb)
        have n1_ := Aside0.mk (Kd.R_below (q_r (HO420.out)) hb)
        have n2_ := Aside0.mk (Kd.R_below (q_r (HO425.out)) hb)
        have n3_ := Aside0.mk (blk_below (q_b BK426.out) hb)
        have n4_ := Aside0.mk (below_step bq hb)
        clear HO417
        clear HO420
        clear HO425
        clear BK426
        clear HB
        have HO417 := n0_
        have HO420 := n1_
        have HO425 := n2_
        have BK426 := n3_
        have HB := n4_
        clear n0_ n1_ n2_ n3_ n4_
        (try clear hb)
        (try clear hb2)
        (try clear hk)
        (try clear hi)
        refine hK.out _ _ ⟨q_z BK426.out 0, q_z BK426.out 1, q_z BK426.out 2, (own_string (P := Try.prog) Try.underlying22 Try.underlying5 Try.underlying9 (Kd.own_of_R HO420.out))⟩ (fun hHeld => ?_)
        clear hK K
        refine norm_ (a' := ?_) ?_ ?_
        rotate_left
        ·show Act.put _ (some 25) _ = _
         simp only [Act.put, List.setIfInBounds_toArray, List.set_cons_zero, List.set_cons_succ, i64_w, i32_w]
         rfl
        refine q_P12 6 (some 26) #[true, true, true, true, true, true, true, true, false, false, false, false, false, false, false, false, false, false, false, false, false, false, false, false, false, false, false, false, false, false, false, false, false, false, false, false, false, false] HT_.out ?_
        refine q_P12 8 (some 28) #[true, true, true, true, true, true, true, true, true, false, false, false, false, false, false, false, false, false, false, false, false, false, false, false, false, false, false, false, false, false, false, false, false, false, false, false, false, false] HT_.out ?_
        refine q_P12 9 (some 29) #[true, true, true, true, true, true, true, true, true, true, false, false, false, false, false, false, false, false, false, false, false, false, false, false, false, false, false, false, false, false, false, false, false, false, false, false, false, false] HT_.out ?_
        refine q_P12 10 (some 30) #[true, true, true, true, true, true, true, true, true, true, true, false, false, false, false, false, false, false, false, false, false, false, false, false, false, false, false, false, false, false, false, false, false, false, false, false, false, false] HT_.out ?_
        refine q_P12 11 (some 31) #[true, true, true, true, true, true, true, true, true, true, true, true, false, false, false, false, false, false, false, false, false, false, false, false, false, false, false, false, false, false, false, false, false, false, false, false, false, false] HT_.out ?_
        refine q_t 12 (some 32) #[true, true, true, true, true, true, true, true, true, true, true, true, true, false, false, false, false, false, false, false, false, false, false, false, false, false, false, false, false, false, false, false, false, false, false, false, false, false] HT_.out HW_.out hHeld ?_
        refine q_P12 13 (some 33) #[true, true, true, true, true, true, true, true, true, true, true, true, true, true, false, false, false, false, false, false, false, false, false, false, false, false, false, false, false, false, false, false, false, false, false, false, false, false] HT_.out ?_
        refine q_P12 14 (some 34) #[true, true, true, true, true, true, true, true, true, true, true, true, true, true, true, false, false, false, false, false, false, false, false, false, false, false, false, false, false, false, false, false, false, false, false, false, false, false] HT_.out ?_
        refine q_P12 15 (some 35) #[true, true, true, true, true, true, true, true, true, true, true, true, true, true, true, true, false, false, false, false, false, false, false, false, false, false, false, false, false, false, false, false, false, false, false, false, false, false] HT_.out ?_
        refine q_P12 20 (some 40) #[true, true, true, true, true, true, true, true, true, true, true, true, true, true, true, true, false, false, false, false, true, false, false, false, false, false, false, false, false, false, false, false, false, false, false, false, false, false] HT_.out ?_
        refine q_t 21 (some 41) #[true, true, true, true, true, true, true, true, true, true, true, true, true, true, true, true, false, false, false, false, true, true, false, false, false, false, false, false, false, false, false, false, false, false, false, false, false, false] HT_.out HW_.out hHeld ?_
        refine q_t 16 (some 36) #[true, true, true, true, true, true, true, true, true, true, true, true, true, true, true, true, true, false, false, false, true, true, false, false, false, false, false, false, false, false, false, false, false, false, false, false, false, false] HT_.out HW_.out hHeld ?_
        refine one_ (i := 17) (N := some 37) #[true, true, true, true, true, true, true, true, true, true, true, true, true, true, true, true, true, true, false, false, true, true, false, false, false, false, false, false, false, false, false, false, false, false, false, false, false, false] rfl rfl (one_of HT_.out (by kernel_rfl)) (by decide) (fun K hK => ?_)
        refine goes_ Try.func47 (by kernel_rfl) rfl #[.agg #[.int .i64 t422, .slice Ao27 t423.length co27]] (by rfl) rfl rfl (by (try simp only [List.map_toArray, List.map_cons, List.map_nil]); first | done | rfl | (simp only [List.length_drop, List.length_take]; rfl)) ?_
        with_reducible refine (impl_PackContract.calls k t422 _ _ t423 t429 t430 _ ?side1 ?side2 A12.out).mono ?_
        (case side1 => exact q_c ((Kd.R_reads' HO425.out).2.2))
        (case side2 => exact (Kd.R_reads' HO425.out).2.1)
        rintro e w32 ⟨v431, rfl, ho0, hb⟩
        refine ⟨_, rfl, ?_⟩
        have n0_ := Aside0.mk (Kd.R_elder' (q_r (HO417.out)) (Kd.R_base ho0) hb)
        have n1_ := Aside0.mk (Kd.R_elder' (q_r (HO420.out)) (Kd.R_base ho0) hb)
        have n2_ := Aside0.mk (Kd.R_below (q_r (HO425.out)) hb)
        have n3_ := Aside0.mk (Kd.R_lower (Kd.R_new' (Kd.R_new' ho0 (Kd.R_lt (q_r (HO417.out)))) (Kd.R_lt (q_r (HO420.out)))) (below_size bq))
        have n4_ := Aside0.mk (blk_below (q_b BK426.out) hb)
        have n5_ := Aside0.mk (below_step bq hb)
        clear HO417
        clear HO420
        clear HO425
        clear BK426
        clear HB
        have HO417 := n0_
        have HO420 := n1_
        have HO425 := n2_
        have HO432 := n3_
        have BK426 := n4_
        have HB := n5_
        clear n0_ n1_ n2_ n3_ n4_ n5_
        (try clear hb)
        (try clear hb2)
        (try clear hk)
        (try clear hi)
        (try clear ho0)
        have hcv34 := own_string (P := Try.prog) Try.underlying22 Try.underlying5 Try.underlying9 (Kd.own_of_R HO420.out)
        refine hK.out _ _ ⟨q_z BK426.out 0, q_z BK426.out 1, q_z BK426.out 2, (own_string (P := Try.prog) Try.underlying22 Try.underlying5 Try.underlying9 (Kd.own_of_R HO420.out))⟩ (fun hHeld => ?_)
        clear hK K
        refine norm_ (a' := ?_) ?_ ?_
        rotate_left
        ·show Act.put _ (some 37) _ = _
         simp only [Act.put, List.setIfInBounds_toArray, List.set_cons_zero, List.set_cons_succ, i64_w, i32_w]
         rfl
        refine q_P12 18 (some 38) #[true, true, true, true, true, true, true, true, true, true, true, true, true, true, true, true, true, true, true, false, true, true, false, false, false, false, false, false, false, false, false, false, false, false, false, false, false, false] HT_.out ?_
        refine one_ (i := 19) (N := some 39) #[true, true, true, true, true, true, true, true, true, true, true, true, true, true, true, true, true, true, true, true, true, true, false, false, false, false, false, false, false, false, false, false, false, false, false, false, false, false] rfl rfl (one_of HT_.out (by kernel_rfl)) (by decide) (fun K hK => ?_)
        have hcv33 := own_string (P := Try.prog) Try.underlying22 Try.underlying5 Try.underlying9 (Kd.own_of_R HO432.out)
        refine value_ (w1 := ?_) (v := ?_) (by rfl) rfl ?_ ?_
        rotate_left 2
        ·go_simp
         constructor
         ·rfl
         ·rfl
        clear hcv33
        refine hK.out _ _ ⟨q_z BK426.out 0, q_z BK426.out 1, q_z BK426.out 2, (own_string (P := Try.prog) Try.underlying22 Try.underlying5 Try.underlying9 (Kd.own_of_R HO420.out))⟩ (fun hHeld => ?_)
        clear hK K
        refine norm_ (a' := ?_) ?_ ?_
        rotate_left
        ·show Act.put _ (some 39) _ = _
         simp only [Act.put, List.setIfInBounds_toArray, List.set_cons_zero, List.set_cons_succ, i64_w, i32_w]
         rfl
        refine q_P12 22 (some 42) #[true, true, true, true, true, true, true, true, true, true, true, true, true, true, true, true, true, true, true, true, true, true, true, false, false, false, false, false, false, false, false, false, false, false, false, false, false, false] HT_.out ?_
        refine q_P12 23 (some 43) #[true, true, true, true, true, true, true, true, true, true, true, true, true, true, true, true, true, true, true, true, true, true, true, true, false, false, false, false, false, false, false, false, false, false, false, false, false, false] HT_.out ?_
        refine q_P12 24 (some 44) #[true, true, true, true, true, true, true, true, true, true, true, true, true, true, true, true, true, true, true, true, true, true, true, true, true, false, false, false, false, false, false, false, false, false, false, false, false, false] HT_.out ?_
        refine q_P12 25 (some 45) #[true, true, true, true, true, true, true, true, true, true, true, true, true, true, true, true, true, true, true, true, true, true, true, true, true, true, false, false, false, false, false, false, false, false, false, false, false, false] HT_.out ?_
        refine q_P12 26 (some 46) #[true, true, true, true, true, true, true, true, true, true, true, true, true, true, true, true, true, true, true, true, true, true, true, true, true, true, true, false, false, false, false, false, false, false, false, false, false, false] HT_.out ?_
        refine q_t 27 (some 47) #[true, true, true, true, true, true, true, true, true, true, true, true, true, true, true, true, true, true, true, true, true, true, true, true, true, true, true, true, false, false, false, false, false, false, false, false, false, false] HT_.out HW_.out hHeld ?_
        refine q_P12 28 (some 48) #[true, true, true, true, true, true, true, true, true, true, true, true, true, true, true, true, true, true, true, true, true, true, true, true, true, true, true, true, true, false, false, false, false, false, false, false, false, false] HT_.out ?_
        refine q_P12 29 (some 49) #[true, true, true, true, true, true, true, true, true, true, true, true, true, true, true, true, true, true, true, true, true, true, true, true, true, true, true, true, true, true, false, false, false, false, false, false, false, false] HT_.out ?_
        refine pure_ (i := 30) (N := some 50) (v := undef) (a' := ?_) #[true, true, true, true, true, true, true, true, true, true, true, true, true, true, true, true, true, true, true, true, true, true, true, true, true, true, true, true, true, true, true, false, false, false, false, false, false, false] rfl rfl (any_of HT_.out (by kernel_rfl)) (fun _ _ _ h => h) (Or.inr ⟨by rfl, rfl⟩) ?_ ?_
        rotate_left
        ·simp only [Act.put, List.setIfInBounds_toArray, List.set_cons_zero, List.set_cons_succ, i64_w, i32_w]
         rfl
        refine pure_ (i := 31) (N := some 51) (v := undef) (a' := ?_) #[true, true, true, true, true, true, true, true, true, true, true, true, true, true, true, true, true, true, true, true, true, true, true, true, true, true, true, true, true, true, true, true, false, false, false, false, false, false] rfl rfl (any_of HT_.out (by kernel_rfl)) (fun _ _ _ h => h) (Or.inr ⟨by rfl, rfl⟩) ?_ ?_
        rotate_left
        ·simp only [Act.put, List.setIfInBounds_toArray, List.set_cons_zero, List.set_cons_succ, i64_w, i32_w]
         rfl
        refine pure_ (i := 32) (N := some 52) (v := undef) (a' := ?_) #[true, true, true, true, true, true, true, true, true, true, true, true, true, true, true, true, true, true, true, true, true, true, true, true, true, true, true, true, true, true, true, true, true, false, false, false, false, false] rfl rfl (any_of HT_.out (by kernel_rfl)) (fun _ _ _ h => h) (Or.inr ⟨by rfl, rfl⟩) ?_ ?_
        rotate_left
        ·simp only [Act.put, List.setIfInBounds_toArray, List.set_cons_zero, List.set_cons_succ, i64_w, i32_w]
         rfl
        refine pure_ (i := 33) (N := some 53) (v := undef) (a' := ?_) #[true, true, true, true, true, true, true, true, true, true, true, true, true, true, true, true, true, true, true, true, true, true, true, true, true, true, true, true, true, true, true, true, true, true, false, false, false, false] rfl rfl (any_of HT_.out (by kernel_rfl)) (fun _ _ _ h => h) (Or.inr ⟨by rfl, rfl⟩) ?_ ?_
        rotate_left
        ·simp only [Act.put, List.setIfInBounds_toArray, List.set_cons_zero, List.set_cons_succ, i64_w, i32_w]
         rfl
        refine pure_ (i := 34) (N := some 54) (v := undef) (a' := ?_) #[true, true, true, true, true, true, true, true, true, true, true, true, true, true, true, true, true, true, true, true, true, true, true, true, true, true, true, true, true, true, true, true, true, true, true, false, false, false] rfl rfl (any_of HT_.out (by kernel_rfl)) (fun _ _ _ h => h) (Or.inr ⟨by rfl, rfl⟩) ?_ ?_
        rotate_left
        ·simp only [Act.put, List.setIfInBounds_toArray, List.set_cons_zero, List.set_cons_succ, i64_w, i32_w]
         rfl
        refine pure_ (i := 35) (N := some 55) (v := undef) (a' := ?_) #[true, true, true, true, true, true, true, true, true, true, true, true, true, true, true, true, true, true, true, true, true, true, true, true, true, true, true, true, true, true, true, true, true, true, true, true, false, false] rfl rfl (any_of HT_.out (by kernel_rfl)) (fun _ _ _ h => h) (Or.inr ⟨by rfl, rfl⟩) ?_ ?_
        rotate_left
        ·simp only [Act.put, List.setIfInBounds_toArray, List.set_cons_zero, List.set_cons_succ, i64_w, i32_w]
         rfl
        refine q_P12 36 (some 56) #[true, true, true, true, true, true, true, true, true, true, true, true, true, true, true, true, true, true, true, true, true, true, true, true, true, true, true, true, true, true, true, true, true, true, true, true, true, false] HT_.out ?_
        refine q_P12 37 (some 57) #[true, true, true, true, true, true, true, true, true, true, true, true, true, true, true, true, true, true, true, true, true, true, true, true, true, true, true, true, true, true, true, true, true, true, true, true, true, true] HT_.out ?_
        refine done_ (done_of HT_.out (by kernel_rfl)) ?_
        try go_wp2_with (first | ((with_reducible refine gate_callee (f := 58) rfl ?_); refine goesLq (some 59) rfl rfl Try.func58 (by kernel_rfl) rfl #[.slice A0 l0.length c0] rfl ?_; (with_reducible refine (spec_DrawPackContract.calls k _ _ l0 t433 t434 _ ?side1 ?side2 A14.out).mono ?_); (case side1 => exact q_c ((Kd.C_below HR0.out HB.out))); (case side2 => exact HC0.out); rintro e w36 ⟨v435, rfl, ho0, hb⟩; refine ⟨_, rfl, ?_⟩; have n0_ := Aside0.mk (Kd.R_below (q_r (HO417.out)) hb); have n1_ := Aside0.mk (Kd.R_below (q_r (HO420.out)) hb); have n2_ := Aside0.mk (Kd.R_elder' (q_r (HO425.out)) (Kd.R_base ho0) hb); have n3_ := Aside0.mk (Kd.R_below (q_r (HO432.out)) hb); have n4_ := Aside0.mk (Kd.R_lower (Kd.R_new' ho0 (Kd.R_lt (q_r (HO425.out)))) (below_size bq)); have n5_ := Aside0.mk (blk_below (q_b BK426.out) hb); have n6_ := Aside0.mk (below_step bq hb); revert n0_ n1_ n2_ n3_ n4_ n5_ n6_; clear HO417 HO420 HO425 HO432 BK426 HB; intro HO417 HO420 HO425 HO432 HO436 BK426 HB; (try clear hb); (try clear hb2); (try clear hk); (try clear hi); (try clear ho0)) | ((with_reducible refine gate_dst (N := 7) rfl ?_); refine q_box (N := 7) (cs := #[.int .i64 0, .slice none 0 0]) (t := 36) ?_; intro gb437 hg w37 hbox hb; have n0_ := Aside0.mk (Kd.R_below (q_r (HO417.out)) hb); have n1_ := Aside0.mk (Kd.R_below (q_r (HO420.out)) hb); have n2_ := Aside0.mk (Kd.R_below (q_r (HO425.out)) hb); have n3_ := Aside0.mk (Kd.R_below (q_r (HO432.out)) hb); have n4_ := Aside0.mk (Kd.R_below (q_r (HO436.out)) hb); have n5_ := Aside0.mk (blk_below (q_b BK426.out) hb); have n6_ := Aside0.mk (below_step bq hb); have n7_ := Aside0.mk (hbox); have n8_ := Aside0.mk ((q_g hg bq : w.heap.size ≤ gb437)); have n9_ := Aside0.mk ((q_g hg bq : w.heap.size ≤ gb437)); have n10_ := Aside0.mk ((q_n hg (q_b BK426.out) : gb426 ≠ gb437)); have n11_ := Aside0.mk ((q_m hg (q_b BK426.out) : gb437 ≠ gb426)); revert n0_ n1_ n2_ n3_ n4_ n5_ n6_ n7_ n8_ n9_ n10_ n11_; clear HO417 HO420 HO425 HO432 HO436 BK426 HB; intro HO417 HO420 HO425 HO432 HO436 BK426 HB BK437 GW437 GE437 NB426_437 NB437_426; clear hb hbox hg; have hnb38 := NB437_426.out; have hnc38 := NB426_437.out; obtain ⟨hcz39_0, hcz39_1, hfz39_0, hfz39_1⟩ := q_2 BK437.out; obtain ⟨Ao40, co40, eo40⟩ := Kd.R_slice HO436.out; subst eo40) | ((with_reducible refine gate_callee (f := 47) rfl ?_); refine goesLq (some 61) rfl rfl Try.func47 (by kernel_rfl) rfl #[.agg #[.int .i64 t433, .slice Ao40 t434.length co40]] rfl ?_; (with_reducible refine (impl_PackContract.calls k t433 _ _ t434 t438 t439 _ ?side1 ?side2 A15.out).mono ?_); (case side1 => refine (Kd.R_reads' (e := 89) (base := w.heap.size) (ok := fun k_ => (True ∧ some k_ ≠ (.slice Ao27 t423.length co27 : Value).ownBlock)) (n := t434.length) (c := co40) ?_).2.2; exact (by (with_reducible repeat (first | apply Kd.R_alloc | apply Kd.R_drewN | apply Kd.R_drew)); exact (Kd.R_mono (Kd.R_far (p := ⟨gb437, 1, none⟩) (Kd.R_far (p := ⟨gb437, 0, none⟩) (Kd.R_types HO436.out BK437.out (by decide)) (fun _ hk => hk.2) (.int .i64 t433)) (fun _ hk => hk.2) (.slice Ao40 t434.length co40)) (fun _ h_ => h_.1)))); (case side2 => exact (Kd.R_reads' HO436.out).2.1); rintro e w41 ⟨v440, rfl, ho0, hb⟩; refine ⟨_, rfl, ?_⟩; have n0_ := Aside0.mk (Kd.R_elder' (by (with_reducible repeat (first | apply Kd.R_alloc | apply Kd.R_drewN | apply Kd.R_drew)); exact (Kd.R_mono (Kd.R_far (p := ⟨gb437, 1, none⟩) (Kd.R_far (p := ⟨gb437, 0, none⟩) (Kd.R_types HO417.out BK437.out (by decide)) (fun _ hk => hk.2) (.int .i64 t433)) (fun _ hk => hk.2) (.slice Ao40 t434.length co40)) (fun _ h_ => h_.1))) (Kd.R_base ho0) hb); have n1_ := Aside0.mk (Kd.R_elder' (by (with_reducible repeat (first | apply Kd.R_alloc | apply Kd.R_drewN | apply Kd.R_drew)); exact (Kd.R_mono (Kd.R_far (p := ⟨gb437, 1, none⟩) (Kd.R_far (p := ⟨gb437, 0, none⟩) (Kd.R_types HO420.out BK437.out (by decide)) (fun _ hk => hk.2) (.int .i64 t433)) (fun _ hk => hk.2) (.slice Ao40 t434.length co40)) (fun _ h_ => h_.1))) (Kd.R_base ho0) hb); have n2_ := Aside0.mk (Kd.R_below (by (with_reducible repeat (first | apply Kd.R_alloc | apply Kd.R_drewN | apply Kd.R_drew)); exact (Kd.R_mono (Kd.R_far (p := ⟨gb437, 1, none⟩) (Kd.R_far (p := ⟨gb437, 0, none⟩) (Kd.R_types HO425.out BK437.out (by decide)) (fun _ hk => hk.2) (.int .i64 t433)) (fun _ hk => hk.2) (.slice Ao40 t434.length co40)) (fun _ h_ => h_.1))) hb); have n3_ := Aside0.mk (Kd.R_elder' (by (with_reducible repeat (first | apply Kd.R_alloc | apply Kd.R_drewN | apply Kd.R_drew)); exact (Kd.R_mono (Kd.R_far (p := ⟨gb437, 1, none⟩) (Kd.R_far (p := ⟨gb437, 0, none⟩) (Kd.R_types HO432.out BK437.out (by decide)) (fun _ hk => hk.2) (.int .i64 t433)) (fun _ hk => hk.2) (.slice Ao40 t434.length co40)) (fun _ h_ => h_.1))) (Kd.R_base ho0) hb); have n4_ := Aside0.mk (Kd.R_below (by (with_reducible repeat (first | apply Kd.R_alloc | apply Kd.R_drewN | apply Kd.R_drew)); exact (Kd.R_mono (Kd.R_far (p := ⟨gb437, 1, none⟩) (Kd.R_far (p := ⟨gb437, 0, none⟩) (Kd.R_types HO436.out BK437.out (by decide)) (fun _ hk => hk.2) (.int .i64 t433)) (fun _ hk => hk.2) (.slice Ao40 t434.length co40)) (fun _ h_ => h_.1))) hb); have n5_ := Aside0.mk (Kd.R_lower (Kd.R_new' (Kd.R_new' (Kd.R_new' ho0 (Kd.R_lt (by (with_reducible repeat (first | apply Kd.R_alloc | apply Kd.R_drewN | apply Kd.R_drew)); exact (Kd.R_mono (Kd.R_far (p := ⟨gb437, 1, none⟩) (Kd.R_far (p := ⟨gb437, 0, none⟩) (Kd.R_types HO417.out BK437.out (by decide)) (fun _ hk => hk.2) (.int .i64 t433)) (fun _ hk => hk.2) (.slice Ao40 t434.length co40)) (fun _ h_ => h_.1))))) (Kd.R_lt (by (with_reducible repeat (first | apply Kd.R_alloc | apply Kd.R_drewN | apply Kd.R_drew)); exact (Kd.R_mono (Kd.R_far (p := ⟨gb437, 1, none⟩) (Kd.R_far (p := ⟨gb437, 0, none⟩) (Kd.R_types HO420.out BK437.out (by decide)) (fun _ hk => hk.2) (.int .i64 t433)) (fun _ hk => hk.2) (.slice Ao40 t434.length co40)) (fun _ h_ => h_.1))))) (Kd.R_lt (by (with_reducible repeat (first | apply Kd.R_alloc | apply Kd.R_drewN | apply Kd.R_drew)); exact (Kd.R_mono (Kd.R_far (p := ⟨gb437, 1, none⟩) (Kd.R_far (p := ⟨gb437, 0, none⟩) (Kd.R_types HO432.out BK437.out (by decide)) (fun _ hk => hk.2) (.int .i64 t433)) (fun _ hk => hk.2) (.slice Ao40 t434.length co40)) (fun _ h_ => h_.1))))) (below_size bq)); have n6_ := Aside0.mk (blk_below (g := gb426) (o := .cells #[.int .i64 t421, .int .i64 t422, .slice Ao27 t423.length co27] 59 (0, 0)) (by (with_reducible repeat (first | refine blk_drewN ?_ _ | refine blk_drew ?_ | refine blk_alloc ?_ _)); refine blk_far ?_ NB426_437.out _; (with_reducible repeat (first | refine blk_drewN ?_ _ | refine blk_drew ?_ | refine blk_alloc ?_ _)); refine blk_far ?_ NB426_437.out _; (with_reducible repeat (first | refine blk_drewN ?_ _ | refine blk_drew ?_ | refine blk_alloc ?_ _)); exact BK426.out) hb); have n7_ := Aside0.mk (blk_below (g := gb437) (o := .cells #[.int .i64 t433, .slice Ao40 t434.length co40] 36 (0, 0)) (by (with_reducible repeat (first | refine blk_drewN ?_ _ | refine blk_drew ?_ | refine blk_alloc ?_ _)); refine blk_put (cs := #[.int .i64 t433, .slice none 0 0]) ?_ 1 _ rfl; (with_reducible repeat (first | refine blk_drewN ?_ _ | refine blk_drew ?_ | refine blk_alloc ?_ _)); refine blk_put (cs := #[.int .i64 0, .slice none 0 0]) ?_ 0 _ rfl; (with_reducible repeat (first | refine blk_drewN ?_ _ | refine blk_drew ?_ | refine blk_alloc ?_ _)); exact BK437.out) hb); have n8_ := Aside0.mk (below_step bq hb); revert n0_ n1_ n2_ n3_ n4_ n5_ n6_ n7_ n8_; clear HO417 HO420 HO425 HO432 HO436 BK426 BK437 HB; intro HO417 HO420 HO425 HO432 HO436 HO441 BK426 BK437 HB; (try clear hb); (try clear hb2); (try clear hk); (try clear hi); (try clear ho0)) | ((with_reducible refine gate_dst (N := 8) rfl ?_); refine q_box (N := 8) (cs := #[.int .i64 0, .slice none 0 0]) (t := 24) ?_; intro gb442 hg w42 hbox hb; have n0_ := Aside0.mk (Kd.R_below (q_r (HO417.out)) hb); have n1_ := Aside0.mk (Kd.R_below (q_r (HO420.out)) hb); have n2_ := Aside0.mk (Kd.R_below (q_r (HO425.out)) hb); have n3_ := Aside0.mk (Kd.R_below (q_r (HO432.out)) hb); have n4_ := Aside0.mk (Kd.R_below (q_r (HO436.out)) hb); have n5_ := Aside0.mk (Kd.R_below (q_r (HO441.out)) hb); have n6_ := Aside0.mk (blk_below (q_b BK426.out) hb); have n7_ := Aside0.mk (blk_below (q_b BK437.out) hb); have n8_ := Aside0.mk (below_step bq hb); have n9_ := Aside0.mk (hbox); have n10_ := Aside0.mk ((q_g hg bq : w.heap.size ≤ gb442)); have n11_ := Aside0.mk ((q_g hg bq : w.heap.size ≤ gb442)); have n12_ := Aside0.mk ((q_n hg (q_b BK426.out) : gb426 ≠ gb442)); have n13_ := Aside0.mk ((q_m hg (q_b BK426.out) : gb442 ≠ gb426)); have n14_ := Aside0.mk ((q_n hg (q_b BK437.out) : gb437 ≠ gb442)); have n15_ := Aside0.mk ((q_m hg (q_b BK437.out) : gb442 ≠ gb437)); revert n0_ n1_ n2_ n3_ n4_ n5_ n6_ n7_ n8_ n9_ n10_ n11_ n12_ n13_ n14_ n15_; clear HO417 HO420 HO425 HO432 HO436 HO441 BK426 BK437 HB; intro HO417 HO420 HO425 HO432 HO436 HO441 BK426 BK437 HB BK442 GW442 GE442 NB426_442 NB442_426 NB437_442 NB442_437; clear hb hbox hg; have hnb43 := NB442_426.out; have hnc43 := NB426_442.out; have hnb44 := NB442_437.out; have hnc44 := NB437_442.out; obtain ⟨hcz45_0, hcz45_1, hfz45_0, hfz45_1⟩ := q_2 BK442.out; obtain ⟨Ao46, co46, eo46⟩ := Kd.R_slice HO441.out; subst eo46) | ((with_reducible refine gate_callee (f := 50) rfl ?_); refine goesLq (some 72) rfl rfl Try.func50 (by kernel_rfl) rfl #[.slice Ao46 t439.length co46] rfl ?_; (with_reducible refine (impl_UnpackContract.calls k _ _ t439 t443 t444 t445 _ ?side1 ?side2 A17.out).mono ?_); (case side1 => refine (Kd.R_reads' (e := 5) (base := w.heap.size) (ok := fun k_ => (((True ∧ some k_ ≠ (.slice Ao28 t415.length co28 : Value).ownBlock) ∧ some k_ ≠ (.slice Ao23 t418.length co23 : Value).ownBlock) ∧ some k_ ≠ (v431 : Value).ownBlock)) (n := t439.length) (c := co46) ?_).2.2; exact (by (with_reducible repeat (first | apply Kd.R_alloc | apply Kd.R_drewN | apply Kd.R_drew)); exact (Kd.R_mono (Kd.R_far (p := ⟨gb442, 1, none⟩) (Kd.R_far (p := ⟨gb442, 0, none⟩) (Kd.R_types HO441.out BK442.out (by decide)) (fun _ hk => hk.2) (.int .i64 t438)) (fun _ hk => hk.2) (.slice Ao46 t439.length co46)) (fun _ h_ => h_.1)))); (case side2 => exact (Kd.R_reads' HO441.out).2.1); rintro e w47 ⟨v446, rfl, ho0, hb⟩; refine ⟨_, rfl, ?_⟩; have n0_ := Aside0.mk (Kd.R_below (by (with_reducible repeat (first | apply Kd.R_alloc | apply Kd.R_drewN | apply Kd.R_drew)); exact (Kd.R_mono (Kd.R_far (p := ⟨gb442, 1, none⟩) (Kd.R_far (p := ⟨gb442, 0, none⟩) (Kd.R_types HO417.out BK442.out (by decide)) (fun _ hk => hk.2) (.int .i64 t438)) (fun _ hk => hk.2) (.slice Ao46 t439.length co46)) (fun _ h_ => h_.1))) hb); have n1_ := Aside0.mk (Kd.R_below (by (with_reducible repeat (first | apply Kd.R_alloc | apply Kd.R_drewN | apply Kd.R_drew)); exact (Kd.R_mono (Kd.R_far (p := ⟨gb442, 1, none⟩) (Kd.R_far (p := ⟨gb442, 0, none⟩) (Kd.R_types HO420.out BK442.out (by decide)) (fun _ hk => hk.2) (.int .i64 t438)) (fun _ hk => hk.2) (.slice Ao46 t439.length co46)) (fun _ h_ => h_.1))) hb); have n2_ := Aside0.mk (Kd.R_elder' (by (with_reducible repeat (first | apply Kd.R_alloc | apply Kd.R_drewN | apply Kd.R_drew)); exact (Kd.R_mono (Kd.R_far (p := ⟨gb442, 1, none⟩) (Kd.R_far (p := ⟨gb442, 0, none⟩) (Kd.R_types HO425.out BK442.out (by decide)) (fun _ hk => hk.2) (.int .i64 t438)) (fun _ hk => hk.2) (.slice Ao46 t439.length co46)) (fun _ h_ => h_.1))) (Kd.R_base ho0) hb); have n3_ := Aside0.mk (Kd.R_below (by (with_reducible repeat (first | apply Kd.R_alloc | apply Kd.R_drewN | apply Kd.R_drew)); exact (Kd.R_mono (Kd.R_far (p := ⟨gb442, 1, none⟩) (Kd.R_far (p := ⟨gb442, 0, none⟩) (Kd.R_types HO432.out BK442.out (by decide)) (fun _ hk => hk.2) (.int .i64 t438)) (fun _ hk => hk.2) (.slice Ao46 t439.length co46)) (fun _ h_ => h_.1))) hb); have n4_ := Aside0.mk (Kd.R_elder' (by (with_reducible repeat (first | apply Kd.R_alloc | apply Kd.R_drewN | apply Kd.R_drew)); exact (Kd.R_mono (Kd.R_far (p := ⟨gb442, 1, none⟩) (Kd.R_far (p := ⟨gb442, 0, none⟩) (Kd.R_types HO436.out BK442.out (by decide)) (fun _ hk => hk.2) (.int .i64 t438)) (fun _ hk => hk.2) (.slice Ao46 t439.length co46)) (fun _ h_ => h_.1))) (Kd.R_base ho0) hb); have n5_ := Aside0.mk (Kd.R_below (by (with_reducible repeat (first | apply Kd.R_alloc | apply Kd.R_drewN | apply Kd.R_drew)); exact (Kd.R_mono (Kd.R_far (p := ⟨gb442, 1, none⟩) (Kd.R_far (p := ⟨gb442, 0, none⟩) (Kd.R_types HO441.out BK442.out (by decide)) (fun _ hk => hk.2) (.int .i64 t438)) (fun _ hk => hk.2) (.slice Ao46 t439.length co46)) (fun _ h_ => h_.1))) hb); have n6_ := Aside0.mk (Kd.R_lower (Kd.R_new' (Kd.R_new' ho0 (Kd.R_lt (by (with_reducible repeat (first | apply Kd.R_alloc | apply Kd.R_drewN | apply Kd.R_drew)); exact (Kd.R_mono (Kd.R_far (p := ⟨gb442, 1, none⟩) (Kd.R_far (p := ⟨gb442, 0, none⟩) (Kd.R_types HO425.out BK442.out (by decide)) (fun _ hk => hk.2) (.int .i64 t438)) (fun _ hk => hk.2) (.slice Ao46 t439.length co46)) (fun _ h_ => h_.1))))) (Kd.R_lt (by (with_reducible repeat (first | apply Kd.R_alloc | apply Kd.R_drewN | apply Kd.R_drew)); exact (Kd.R_mono (Kd.R_far (p := ⟨gb442, 1, none⟩) (Kd.R_far (p := ⟨gb442, 0, none⟩) (Kd.R_types HO436.out BK442.out (by decide)) (fun _ hk => hk.2) (.int .i64 t438)) (fun _ hk => hk.2) (.slice Ao46 t439.length co46)) (fun _ h_ => h_.1))))) (below_size bq)); have n7_ := Aside0.mk (blk_below (g := gb426) (o := .cells #[.int .i64 t421, .int .i64 t422, .slice Ao27 t423.length co27] 59 (0, 0)) (by (with_reducible repeat (first | refine blk_drewN ?_ _ | refine blk_drew ?_ | refine blk_alloc ?_ _)); refine blk_far ?_ NB426_442.out _; (with_reducible repeat (first | refine blk_drewN ?_ _ | refine blk_drew ?_ | refine blk_alloc ?_ _)); refine blk_far ?_ NB426_442.out _; (with_reducible repeat (first | refine blk_drewN ?_ _ | refine blk_drew ?_ | refine blk_alloc ?_ _)); exact BK426.out) hb); have n8_ := Aside0.mk (blk_below (g := gb437) (o := .cells #[.int .i64 t433, .slice Ao40 t434.length co40] 36 (0, 0)) (by (with_reducible repeat (first | refine blk_drewN ?_ _ | refine blk_drew ?_ | refine blk_alloc ?_ _)); refine blk_far ?_ NB437_442.out _; (with_reducible repeat (first | refine blk_drewN ?_ _ | refine blk_drew ?_ | refine blk_alloc ?_ _)); refine blk_far ?_ NB437_442.out _; (with_reducible repeat (first | refine blk_drewN ?_ _ | refine blk_drew ?_ | refine blk_alloc ?_ _)); exact BK437.out) hb); have n9_ := Aside0.mk (blk_below (g := gb442) (o := .cells #[.int .i64 t438, .slice Ao46 t439.length co46] 24 (0, 0)) (by (with_reducible repeat (first | refine blk_drewN ?_ _ | refine blk_drew ?_ | refine blk_alloc ?_ _)); refine blk_put (cs := #[.int .i64 t438, .slice none 0 0]) ?_ 1 _ rfl; (with_reducible repeat (first | refine blk_drewN ?_ _ | refine blk_drew ?_ | refine blk_alloc ?_ _)); refine blk_put (cs := #[.int .i64 0, .slice none 0 0]) ?_ 0 _ rfl; (with_reducible repeat (first | refine blk_drewN ?_ _ | refine blk_drew ?_ | refine blk_alloc ?_ _)); exact BK442.out) hb); have n10_ := Aside0.mk (below_step bq hb); revert n0_ n1_ n2_ n3_ n4_ n5_ n6_ n7_ n8_ n9_ n10_; clear HO417 HO420 HO425 HO432 HO436 HO441 BK426 BK437 BK442 HB; intro HO417 HO420 HO425 HO432 HO436 HO441 HO447 BK426 BK437 BK442 HB; (try clear hb); (try clear hb2); (try clear hk); (try clear hi); (try clear ho0)) | ((with_reducible refine gate_dst (N := 9) rfl ?_); refine q_box (N := 9) (cs := #[.int .i64 0, .int .i64 0, .slice none 0 0]) (t := 59) ?_; intro gb448 hg w48 hbox hb; have n0_ := Aside0.mk (Kd.R_below (q_r (HO417.out)) hb); have n1_ := Aside0.mk (Kd.R_below (q_r (HO420.out)) hb); have n2_ := Aside0.mk (Kd.R_below (q_r (HO425.out)) hb); have n3_ := Aside0.mk (Kd.R_below (q_r (HO432.out)) hb); have n4_ := Aside0.mk (Kd.R_below (q_r (HO436.out)) hb); have n5_ := Aside0.mk (Kd.R_below (q_r (HO441.out)) hb); have n6_ := Aside0.mk (Kd.R_below (q_r (HO447.out)) hb); have n7_ := Aside0.mk (blk_below (q_b BK426.out) hb); have n8_ := Aside0.mk (blk_below (q_b BK437.out) hb); have n9_ := Aside0.mk (blk_below (q_b BK442.out) hb); have n10_ := Aside0.mk (below_step bq hb); have n11_ := Aside0.mk (hbox); have n12_ := Aside0.mk ((q_g hg bq : w.heap.size ≤ gb448)); have n13_ := Aside0.mk ((q_g hg bq : w.heap.size ≤ gb448)); have n14_ := Aside0.mk ((q_n hg (q_b BK426.out) : gb426 ≠ gb448)); have n15_ := Aside0.mk ((q_m hg (q_b BK426.out) : gb448 ≠ gb426)); have n16_ := Aside0.mk ((q_n hg (q_b BK437.out) : gb437 ≠ gb448)); have n17_ := Aside0.mk ((q_m hg (q_b BK437.out) : gb448 ≠ gb437)); have n18_ := Aside0.mk ((q_n hg (q_b BK442.out) : gb442 ≠ gb448)); have n19_ := Aside0.mk ((q_m hg (q_b BK442.out) : gb448 ≠ gb442)); revert n0_ n1_ n2_ n3_ n4_ n5_ n6_ n7_ n8_ n9_ n10_ n11_ n12_ n13_ n14_ n15_ n16_ n17_ n18_ n19_; clear HO417 HO420 HO425 HO432 HO436 HO441 HO447 BK426 BK437 BK442 HB; intro HO417 HO420 HO425 HO432 HO436 HO441 HO447 BK426 BK437 BK442 HB BK448 GW448 GE448 NB426_448 NB448_426 NB437_448 NB448_437 NB442_448 NB448_442; clear hb hbox hg; have hnb49 := NB448_426.out; have hnc49 := NB426_448.out; have hnb50 := NB448_437.out; have hnc50 := NB437_448.out; have hnb51 := NB448_442.out; have hnc51 := NB442_448.out; obtain ⟨hcz52_0, hcz52_1, hcz52_2, hfz52_0, hfz52_1, hfz52_2⟩ := q_3 BK448.out; obtain ⟨Ao53, co53, eo53⟩ := Kd.R_slice HO447.out; subst eo53; obtain ⟨hcz54_0, hcz54_1, hfz54_0, hfz54_1⟩ := q_2 BK437.out) | (go_at_call 23; (with_reducible refine (impl_SameContract.calls k t444 _ _ t445 t433 _ _ t434 t449 _ ?side1 ?side2 ?side3 ?side4 A19.out).mono ?_); (case side1 => refine (Kd.R_reads' (e := 89) (base := w.heap.size) (ok := fun k_ => ((True ∧ some k_ ≠ (.slice Ao27 t423.length co27 : Value).ownBlock) ∧ some k_ ≠ (.slice Ao40 t434.length co40 : Value).ownBlock)) (n := t445.length) (c := co53) ?_).2.2; exact (by (with_reducible repeat (first | apply Kd.R_alloc | apply Kd.R_drewN | apply Kd.R_drew)); exact (Kd.R_mono (Kd.R_far (p := ⟨gb448, 2, none⟩) (Kd.R_far (p := ⟨gb448, 1, none⟩) (Kd.R_far (p := ⟨gb448, 0, none⟩) (Kd.R_types HO447.out BK448.out (by decide)) (fun _ hk => hk.2) (.int .i64 t443)) (fun _ hk => hk.2) (.int .i64 t444)) (fun _ hk => hk.2) (.slice Ao53 t445.length co53)) (fun _ h_ => h_.1)))); (case side2 => exact (Kd.R_reads' HO447.out).2.1); (case side3 => refine (Kd.R_reads' (e := 89) (base := w.heap.size) (ok := fun k_ => ((True ∧ some k_ ≠ (.slice Ao27 t423.length co27 : Value).ownBlock) ∧ some k_ ≠ (.slice Ao53 t445.length co53 : Value).ownBlock)) (n := t434.length) (c := co40) ?_).2.2; exact (by (with_reducible repeat (first | apply Kd.R_alloc | apply Kd.R_drewN | apply Kd.R_drew)); exact (Kd.R_mono (Kd.R_far (p := ⟨gb448, 2, none⟩) (Kd.R_far (p := ⟨gb448, 1, none⟩) (Kd.R_far (p := ⟨gb448, 0, none⟩) (Kd.R_types HO436.out BK448.out (by decide)) (fun _ hk => hk.2) (.int .i64 t443)) (fun _ hk => hk.2) (.int .i64 t444)) (fun _ hk => hk.2) (.slice Ao53 t445.length co53)) (fun _ h_ => h_.1)))); (case side4 => exact (Kd.R_reads' HO436.out).2.1); rintro e w55 ⟨rfl, hb⟩; have n0_ := Aside0.mk (Kd.R_below (by (with_reducible repeat (first | apply Kd.R_alloc | apply Kd.R_drewN | apply Kd.R_drew)); exact (Kd.R_mono (Kd.R_far (p := ⟨gb448, 2, none⟩) (Kd.R_far (p := ⟨gb448, 1, none⟩) (Kd.R_far (p := ⟨gb448, 0, none⟩) (Kd.R_types HO417.out BK448.out (by decide)) (fun _ hk => hk.2) (.int .i64 t443)) (fun _ hk => hk.2) (.int .i64 t444)) (fun _ hk => hk.2) (.slice Ao53 t445.length co53)) (fun _ h_ => h_.1))) hb); have n1_ := Aside0.mk (Kd.R_below (by (with_reducible repeat (first | apply Kd.R_alloc | apply Kd.R_drewN | apply Kd.R_drew)); exact (Kd.R_mono (Kd.R_far (p := ⟨gb448, 2, none⟩) (Kd.R_far (p := ⟨gb448, 1, none⟩) (Kd.R_far (p := ⟨gb448, 0, none⟩) (Kd.R_types HO420.out BK448.out (by decide)) (fun _ hk => hk.2) (.int .i64 t443)) (fun _ hk => hk.2) (.int .i64 t444)) (fun _ hk => hk.2) (.slice Ao53 t445.length co53)) (fun _ h_ => h_.1))) hb); have n2_ := Aside0.mk (Kd.R_below (by (with_reducible repeat (first | apply Kd.R_alloc | apply Kd.R_drewN | apply Kd.R_drew)); exact (Kd.R_mono (Kd.R_far (p := ⟨gb448, 2, none⟩) (Kd.R_far (p := ⟨gb448, 1, none⟩) (Kd.R_far (p := ⟨gb448, 0, none⟩) (Kd.R_types HO425.out BK448.out (by decide)) (fun _ hk => hk.2) (.int .i64 t443)) (fun _ hk => hk.2) (.int .i64 t444)) (fun _ hk => hk.2) (.slice Ao53 t445.length co53)) (fun _ h_ => h_.1))) hb); have n3_ := Aside0.mk (Kd.R_below (by (with_reducible repeat (first | apply Kd.R_alloc | apply Kd.R_drewN | apply Kd.R_drew)); exact (Kd.R_mono (Kd.R_far (p := ⟨gb448, 2, none⟩) (Kd.R_far (p := ⟨gb448, 1, none⟩) (Kd.R_far (p := ⟨gb448, 0, none⟩) (Kd.R_types HO432.out BK448.out (by decide)) (fun _ hk => hk.2) (.int .i64 t443)) (fun _ hk => hk.2) (.int .i64 t444)) (fun _ hk => hk.2) (.slice Ao53 t445.length co53)) (fun _ h_ => h_.1))) hb); have n4_ := Aside0.mk (Kd.R_below (by (with_reducible repeat (first | apply Kd.R_alloc | apply Kd.R_drewN | apply Kd.R_drew)); exact (Kd.R_mono (Kd.R_far (p := ⟨gb448, 2, none⟩) (Kd.R_far (p := ⟨gb448, 1, none⟩) (Kd.R_far (p := ⟨gb448, 0, none⟩) (Kd.R_types HO436.out BK448.out (by decide)) (fun _ hk => hk.2) (.int .i64 t443)) (fun _ hk => hk.2) (.int .i64 t444)) (fun _ hk => hk.2) (.slice Ao53 t445.length co53)) (fun _ h_ => h_.1))) hb); have n5_ := Aside0.mk (Kd.R_below (by (with_reducible repeat (first | apply Kd.R_alloc | apply Kd.R_drewN | apply Kd.R_drew)); exact (Kd.R_mono (Kd.R_far (p := ⟨gb448, 2, none⟩) (Kd.R_far (p := ⟨gb448, 1, none⟩) (Kd.R_far (p := ⟨gb448, 0, none⟩) (Kd.R_types HO441.out BK448.out (by decide)) (fun _ hk => hk.2) (.int .i64 t443)) (fun _ hk => hk.2) (.int .i64 t444)) (fun _ hk => hk.2) (.slice Ao53 t445.length co53)) (fun _ h_ => h_.1))) hb); have n6_ := Aside0.mk (Kd.R_below (by (with_reducible repeat (first | apply Kd.R_alloc | apply Kd.R_drewN | apply Kd.R_drew)); exact (Kd.R_mono (Kd.R_far (p := ⟨gb448, 2, none⟩) (Kd.R_far (p := ⟨gb448, 1, none⟩) (Kd.R_far (p := ⟨gb448, 0, none⟩) (Kd.R_types HO447.out BK448.out (by decide)) (fun _ hk => hk.2) (.int .i64 t443)) (fun _ hk => hk.2) (.int .i64 t444)) (fun _ hk => hk.2) (.slice Ao53 t445.length co53)) (fun _ h_ => h_.1))) hb); have n7_ := Aside0.mk (blk_below (g := gb426) (o := .cells #[.int .i64 t421, .int .i64 t422, .slice Ao27 t423.length co27] 59 (0, 0)) (by (with_reducible repeat (first | refine blk_drewN ?_ _ | refine blk_drew ?_ | refine blk_alloc ?_ _)); refine blk_far ?_ NB426_448.out _; (with_reducible repeat (first | refine blk_drewN ?_ _ | refine blk_drew ?_ | refine blk_alloc ?_ _)); refine blk_far ?_ NB426_448.out _; (with_reducible repeat (first | refine blk_drewN ?_ _ | refine blk_drew ?_ | refine blk_alloc ?_ _)); refine blk_far ?_ NB426_448.out _; (with_reducible repeat (first | refine blk_drewN ?_ _ | refine blk_drew ?_ | refine blk_alloc ?_ _)); exact BK426.out) hb); have n8_ := Aside0.mk (blk_below (g := gb437) (o := .cells #[.int .i64 t433, .slice Ao40 t434.length co40] 36 (0, 0)) (by (with_reducible repeat (first | refine blk_drewN ?_ _ | refine blk_drew ?_ | refine blk_alloc ?_ _)); refine blk_far ?_ NB437_448.out _; (with_reducible repeat (first | refine blk_drewN ?_ _ | refine blk_drew ?_ | refine blk_alloc ?_ _)); refine blk_far ?_ NB437_448.out _; (with_reducible repeat (first | refine blk_drewN ?_ _ | refine blk_drew ?_ | refine blk_alloc ?_ _)); refine blk_far ?_ NB437_448.out _; (with_reducible repeat (first | refine blk_drewN ?_ _ | refine blk_drew ?_ | refine blk_alloc ?_ _)); exact BK437.out) hb); have n9_ := Aside0.mk (blk_below (g := gb442) (o := .cells #[.int .i64 t438, .slice Ao46 t439.length co46] 24 (0, 0)) (by (with_reducible repeat (first | refine blk_drewN ?_ _ | refine blk_drew ?_ | refine blk_alloc ?_ _)); refine blk_far ?_ NB442_448.out _; (with_reducible repeat (first | refine blk_drewN ?_ _ | refine blk_drew ?_ | refine blk_alloc ?_ _)); refine blk_far ?_ NB442_448.out _; (with_reducible repeat (first | refine blk_drewN ?_ _ | refine blk_drew ?_ | refine blk_alloc ?_ _)); refine blk_far ?_ NB442_448.out _; (with_reducible repeat (first | refine blk_drewN ?_ _ | refine blk_drew ?_ | refine blk_alloc ?_ _)); exact BK442.out) hb); have n10_ := Aside0.mk (blk_below (g := gb448) (o := .cells #[.int .i64 t443, .int .i64 t444, .slice Ao53 t445.length co53] 59 (0, 0)) (by (with_reducible repeat (first | refine blk_drewN ?_ _ | refine blk_drew ?_ | refine blk_alloc ?_ _)); refine blk_put (cs := #[.int .i64 t443, .int .i64 t444, .slice none 0 0]) ?_ 2 _ rfl; (with_reducible repeat (first | refine blk_drewN ?_ _ | refine blk_drew ?_ | refine blk_alloc ?_ _)); refine blk_put (cs := #[.int .i64 t443, .int .i64 0, .slice none 0 0]) ?_ 1 _ rfl; (with_reducible repeat (first | refine blk_drewN ?_ _ | refine blk_drew ?_ | refine blk_alloc ?_ _)); refine blk_put (cs := #[.int .i64 0, .int .i64 0, .slice none 0 0]) ?_ 0 _ rfl; (with_reducible repeat (first | refine blk_drewN ?_ _ | refine blk_drew ?_ | refine blk_alloc ?_ _)); exact BK448.out) hb); have n11_ := Aside0.mk (below_step bq hb); revert n0_ n1_ n2_ n3_ n4_ n5_ n6_ n7_ n8_ n9_ n10_ n11_; clear HO417 HO420 HO425 HO432 HO436 HO441 HO447 BK426 BK437 BK442 BK448 HB; intro HO417 HO420 HO425 HO432 HO436 HO441 HO447 BK426 BK437 BK442 BK448 HB; (try clear hb); (try clear hb2); (try clear hk); (try clear hi)))
        go_ret
        exact ⟨q_e, bq⟩
       ·rw [if_neg c18] at H
        exact absurd H (by simp)
      ·rw [if_neg c16] at H
       have c16b0 : (t438 == 0) = false := beq_eq_false_iff_ne.mpr c16
       have c16b1 : (t438 != 0) = true := bne_iff_ne.mpr c16
       replace H := Option.bind_eq_some_iff.mp H
       obtain ⟨t450, A560, H⟩ := H
       replace H : (some (t450 == t438)) = some r := H
       have A56 := Aside0.mk A560
       clear A560
       obtain rfl := Option.some.inj H
       go_enter Try.func12, Try.ntmps12
       try go_wp2_with (first | ((with_reducible refine gate_callee (f := 53) rfl ?_); refine goesLq (some 11) rfl rfl Try.func53 (by kernel_rfl) rfl #[.slice A0 l0.length c0] rfl ?_; (with_reducible refine (laws_lwBig.calls _ _ l0 false _ ?side1 ?side2 A2.out).mono ?_); (case side1 => exact q_c (HR0.out)); (case side2 => exact HC0.out); rintro e w' ⟨rfl, ⟨nd, rfl⟩⟩; refine ⟨_, rfl, ?_⟩) | ((with_reducible refine gate_callee (f := 54) rfl ?_); refine goesLq (some 13) rfl rfl Try.func54 (by kernel_rfl) rfl #[.slice A0 l0.length c0] rfl ?_; (with_reducible refine (spec_DrawPackNumber.calls _ _ l0 t414 _ ?side1 ?side2 A4.out).mono ?_); (case side1 => exact q_c (HR0.out)); (case side2 => exact HC0.out); rintro e w57 ⟨rfl, hb⟩; refine ⟨_, rfl, ?_⟩; have n0_ := Aside0.mk (below_step bq hb); revert n0_; clear HB; intro HB; (try clear hb); (try clear hb2); (try clear hk); (try clear hi)) | ((with_reducible refine gate_callee (f := 55) rfl ?_); refine goesLq (some 15) rfl rfl Try.func55 (by kernel_rfl) rfl #[.int .i64 t414] rfl ?_; (with_reducible refine (impl_PackNumber.calls k t414 t415 _ A5.out).mono ?_); rintro e w58 ⟨v416, rfl, ho0, hb⟩; refine ⟨_, rfl, ?_⟩; have n0_ := Aside0.mk (Kd.R_lower ho0 (below_size bq)); have n1_ := Aside0.mk (below_step bq hb); revert n0_ n1_; clear HB; intro HO417 HB; (try clear hb); (try clear hb2); (try clear hk); (try clear hi); (try clear ho0)) | ((with_reducible refine gate_callee (f := 56) rfl ?_); refine goesLq (some 17) rfl rfl Try.func56 (by kernel_rfl) rfl #[.slice A0 l0.length c0] rfl ?_; (with_reducible refine (spec_DrawUnpackContract.calls k _ _ l0 t418 _ ?side1 ?side2 A6.out).mono ?_); (case side1 => exact q_c ((Kd.C_below HR0.out HB.out))); (case side2 => exact HC0.out); rintro e w59 ⟨v419, rfl, ho0, hb⟩; refine ⟨_, rfl, ?_⟩; have n0_ := Aside0.mk (Kd.R_elder' (q_r (HO417.out)) (Kd.R_base ho0) hb); have n1_ := Aside0.mk (Kd.R_lower (Kd.R_new' ho0 (Kd.R_lt (q_r (HO417.out)))) (below_size bq)); have n2_ := Aside0.mk (below_step bq hb); revert n0_ n1_ n2_; clear HO417 HB; intro HO417 HO420 HB; (try clear hb); (try clear hb2); (try clear hk); (try clear hi); (try clear ho0); obtain ⟨Ao60, co60, eo60⟩ := Kd.R_slice HO420.out; subst eo60) | ((with_reducible refine gate_callee (f := 50) rfl ?_); refine goesLq (some 19) rfl rfl Try.func50 (by kernel_rfl) rfl #[.slice Ao60 t418.length co60] rfl ?_; (with_reducible refine (impl_UnpackContract.calls k _ _ t418 t421 t422 t423 _ ?side1 ?side2 A7.out).mono ?_); (case side1 => exact q_c ((Kd.R_reads' HO420.out).2.2)); (case side2 => exact (Kd.R_reads' HO420.out).2.1); rintro e w61 ⟨v424, rfl, ho0, hb⟩; refine ⟨_, rfl, ?_⟩; have n0_ := Aside0.mk (Kd.R_below (q_r (HO417.out)) hb); have n1_ := Aside0.mk (Kd.R_below (q_r (HO420.out)) hb); have n2_ := Aside0.mk (Kd.R_lower ho0 (below_size bq)); have n3_ := Aside0.mk (below_step bq hb); revert n0_ n1_ n2_ n3_; clear HO417 HO420 HB; intro HO417 HO420 HO425 HB; (try clear hb); (try clear hb2); (try clear hk); (try clear hi); (try clear ho0)) | ((with_reducible refine gate_dst (N := 6) rfl ?_); refine q_box (N := 6) (cs := #[.int .i64 0, .int .i64 0, .slice none 0 0]) (t := 59) ?_; intro gb426 hg w62 hbox hb; have n0_ := Aside0.mk (Kd.R_below (q_r (HO417.out)) hb); have n1_ := Aside0.mk (Kd.R_below (q_r (HO420.out)) hb); have n2_ := Aside0.mk (Kd.R_below (q_r (HO425.out)) hb); have n3_ := Aside0.mk (below_step bq hb); have n4_ := Aside0.mk (hbox); have n5_ := Aside0.mk ((q_g hg bq : w.heap.size ≤ gb426)); have n6_ := Aside0.mk ((q_g hg bq : w.heap.size ≤ gb426)); revert n0_ n1_ n2_ n3_ n4_ n5_ n6_; clear HO417 HO420 HO425 HB; intro HO417 HO420 HO425 HB BK426 GW426 GE426; clear hb hbox hg; obtain ⟨hcz63_0, hcz63_1, hcz63_2, hfz63_0, hfz63_1, hfz63_2⟩ := q_3 BK426.out; obtain ⟨Ao64, co64, eo64⟩ := Kd.R_slice HO425.out; subst eo64; obtain ⟨Ao65, co65, eo65⟩ := Kd.R_slice HO417.out; subst eo65))
       have n0_ : Aside0 (Kd.R (Kd.int .u8) 5 (((w62.setCell ⟨gb426, 0, none⟩ (.int .i64 t421)).setCell ⟨gb426, 1, none⟩ (.int .i64 t422)).setCell ⟨gb426, 2, none⟩ (.slice Ao64 t423.length co64)) w.heap.size (fun k_ => some k_ ≠ (.slice Ao60 t418.length co60 : Value).ownBlock) (.slice Ao65 t415.length co65) t415) := ⟨by (with_reducible repeat (first | apply Kd.R_alloc | apply Kd.R_drewN | apply Kd.R_drew)); exact Kd.R_mono (Kd.R_far (p := ⟨gb426, 2, none⟩) (Kd.R_far (p := ⟨gb426, 1, none⟩) (Kd.R_far (p := ⟨gb426, 0, none⟩) (Kd.R_types HO417.out BK426.out (by decide)) (fun _ hk => hk.2) (.int .i64 t421)) (fun _ hk => hk.2) (.int .i64 t422)) (fun _ hk => hk.2) (.slice Ao64 t423.length co64)) (fun _ hk => hk.1.2)⟩
       have n1_ : Aside0 (Kd.R (Kd.int .u8) 5 (((w62.setCell ⟨gb426, 0, none⟩ (.int .i64 t421)).setCell ⟨gb426, 1, none⟩ (.int .i64 t422)).setCell ⟨gb426, 2, none⟩ (.slice Ao64 t423.length co64)) w.heap.size (fun k_ => some k_ ≠ (.slice Ao65 t415.length co65 : Value).ownBlock) (.slice Ao60 t418.length co60) t418) := ⟨by (with_reducible repeat (first | apply Kd.R_alloc | apply Kd.R_drewN | apply Kd.R_drew)); exact Kd.R_mono (Kd.R_far (p := ⟨gb426, 2, none⟩) (Kd.R_far (p := ⟨gb426, 1, none⟩) (Kd.R_far (p := ⟨gb426, 0, none⟩) (Kd.R_types HO420.out BK426.out (by decide)) (fun _ hk => hk.2) (.int .i64 t421)) (fun _ hk => hk.2) (.int .i64 t422)) (fun _ hk => hk.2) (.slice Ao64 t423.length co64)) (fun _ hk => hk.1.2)⟩
       have n2_ : Aside0 (Kd.R k89 89 (((w62.setCell ⟨gb426, 0, none⟩ (.int .i64 t421)).setCell ⟨gb426, 1, none⟩ (.int .i64 t422)).setCell ⟨gb426, 2, none⟩ (.slice Ao64 t423.length co64)) w.heap.size (fun _ => True) (.slice Ao64 t423.length co64) t423) := ⟨by (with_reducible repeat (first | apply Kd.R_alloc | apply Kd.R_drewN | apply Kd.R_drew)); exact Kd.R_mono (Kd.R_far (p := ⟨gb426, 2, none⟩) (Kd.R_far (p := ⟨gb426, 1, none⟩) (Kd.R_far (p := ⟨gb426, 0, none⟩) (Kd.R_types HO425.out BK426.out (by decide)) (fun _ hk => hk.2) (.int .i64 t421)) (fun _ hk => hk.2) (.int .i64 t422)) (fun _ hk => hk.2) (.slice Ao64 t423.length co64)) (fun _ hk => trivial)⟩
       have n3_ : Aside0 ((((w62.setCell ⟨gb426, 0, none⟩ (.int .i64 t421)).setCell ⟨gb426, 1, none⟩ (.int .i64 t422)).setCell ⟨gb426, 2, none⟩ (.slice Ao64 t423.length co64)).heap[gb426]? = some (.cells #[.int .i64 t421, .int .i64 t422, .slice Ao64 t423.length co64] 59 (0, 0))) := ⟨by (with_reducible repeat (first | refine blk_drewN ?_ _ | refine blk_drew ?_ | refine blk_alloc ?_ _)); refine blk_put (cs := #[.int .i64 t421, .int .i64 t422, .slice none 0 0]) ?_ 2 _ rfl; (with_reducible repeat (first | refine blk_drewN ?_ _ | refine blk_drew ?_ | refine blk_alloc ?_ _)); refine blk_put (cs := #[.int .i64 t421, .int .i64 0, .slice none 0 0]) ?_ 1 _ rfl; (with_reducible repeat (first | refine blk_drewN ?_ _ | refine blk_drew ?_ | refine blk_alloc ?_ _)); refine blk_put (cs := #[.int .i64 0, .int .i64 0, .slice none 0 0]) ?_ 0 _ rfl; (with_reducible repeat (first | refine blk_drewN ?_ _ | refine blk_drew ?_ | refine blk_alloc ?_ _)); exact BK426.out⟩
       have n4_ : Aside0 (Below w.heap.size w (((w62.setCell ⟨gb426, 0, none⟩ (.int .i64 t421)).setCell ⟨gb426, 1, none⟩ (.int .i64 t422)).setCell ⟨gb426, 2, none⟩ (.slice Ao64 t423.length co64))) := ⟨bq⟩
       (try clear HO417)
       (try clear HO420)
       (try clear HO425)
       (try clear BK426)
       (try clear HB)
       generalize (((w62.setCell ⟨gb426, 0, none⟩ (.int .i64 t421)).setCell ⟨gb426, 1, none⟩ (.int .i64 t422)).setCell ⟨gb426, 2, none⟩ (.slice Ao64 t423.length co64)) = w66 at n0_ n1_ n2_ n3_ n4_ ⊢
       have HO417 := n0_
       have HO420 := n1_
       have HO425 := n2_
       have BK426 := n3_
       have HB := n4_
       clear n0_ n1_ n2_ n3_ n4_
       have n0_ := Aside0.mk (Kd.R_drew HO417.out)
       have n1_ := Aside0.mk (Kd.R_drew HO420.out)
       have n2_ := Aside0.mk (Kd.R_drew HO425.out)
       have n3_ := Aside0.mk (blk_drew BK426.out)
       have n4_ := Aside0.mk (below_drew1 HB.out)
       clear HO417
       clear HO420
       clear HO425
       clear BK426
       clear HB
       have HO417 := n0_
       have HO420 := n1_
       have HO425 := n2_
       have BK426 := n3_
       have HB := n4_
       clear n0_ n1_ n2_ n3_ n4_
       refine start_ (n := 38) (S := fun w' => w'.cell? ⟨gb426, 0, none⟩ = some (.int .i64 t421) ∧ w'.cell? ⟨gb426, 1, none⟩ = some (.int .i64 t422) ∧ w'.cell? ⟨gb426, 2, none⟩ = some (.slice Ao64 t423.length co64) ∧ (convert 22 9 (.slice Ao60 t418.length co60)).run Try.prog w' = .ok (.string (strOfNums t418)) w') (ds := []) #[false, false, false, false, false, false, false, false, false, false, false, false, false, false, false, false, false, false, false, false, false, false, false, false, false, false, false, false, false, false, false, false, false, false, false, false, false, false] (by kernel_rfl) rfl rfl ⟨q_z BK426.out 0, q_z BK426.out 1, q_z BK426.out 2, (own_string (P := Try.prog) Try.underlying22 Try.underlying5 Try.underlying9 (Kd.own_of_R HO420.out))⟩ (fun hHeld => ?_); refine with_tabW laws_FnBytes.tab7 laws_FnBytes.bits7 (fun HT_ HW_ => ?_)
       generalize w66.drew = w67 at HO417 HO420 HO425 BK426 HB hHeld ⊢
       refine q_P12 0 (some 20) #[true, false, false, false, false, false, false, false, false, false, false, false, false, false, false, false, false, false, false, false, false, false, false, false, false, false, false, false, false, false, false, false, false, false, false, false, false, false] HT_.out ?_
       refine q_P12 1 (some 21) #[true, true, false, false, false, false, false, false, false, false, false, false, false, false, false, false, false, false, false, false, false, false, false, false, false, false, false, false, false, false, false, false, false, false, false, false, false, false] HT_.out ?_
       refine q_P12 2 (some 22) #[true, true, true, false, false, false, false, false, false, false, false, false, false, false, false, false, false, false, false, false, false, false, false, false, false, false, false, false, false, false, false, false, false, false, false, false, false, false] HT_.out ?_
       refine q_P12 3 (some 23) #[true, true, true, true, false, false, false, false, false, false, false, false, false, false, false, false, false, false, false, false, false, false, false, false, false, false, false, false, false, false, false, false, false, false, false, false, false, false] HT_.out ?_
       refine q_P12 4 (some 24) #[true, true, true, true, true, false, false, false, false, false, false, false, false, false, false, false, false, false, false, false, false, false, false, false, false, false, false, false, false, false, false, false, false, false, false, false, false, false] HT_.out ?_
       refine q_P12 7 (some 27) #[true, true, true, true, true, false, false, true, false, false, false, false, false, false, false, false, false, false, false, false, false, false, false, false, false, false, false, false, false, false, false, false, false, false, false, false, false, false] HT_.out ?_
       refine one_ (i := 5) (N := some 25) #[true, true, true, true, true, true, false, true, false, false, false, false, false, false, false, false, false, false, false, false, false, false, false, false, false, false, false, false, false, false, false, false, false, false, false, false, false, false] rfl rfl (one_of HT_.out (by kernel_rfl)) (by decide) (fun K hK => ?_)
       refine goes_ Try.func57 (by kernel_rfl) rfl #[.slice Ao65 t415.length co65] (by rfl) rfl rfl (by (try simp only [List.map_toArray, List.map_cons, List.map_nil]); first | done | rfl | (simp only [List.length_drop, List.length_take]; rfl)) ?_
       with_reducible refine (impl_UnpackNumber.calls k _ _ t415 t427 t428 _ ?side1 ?side2 A9.out).mono ?_
       (case side1 => exact q_c ((Kd.R_reads' HO417.out).2.2))
       (case side2 => exact (Kd.R_reads' HO417.out).2.1)
       rintro e w68 ⟨rfl, hb⟩
       refine ⟨_, rfl, ?_⟩
       have n0_ := Aside0.mk (Kd.R_below (q_r (HO417.out)) hb)
       have n1_ := Aside0.mk (Kd.R_below (q_r (HO420.out)) hb)
       have n2_ := Aside0.mk (Kd.R_below (q_r (HO425.out)) hb)
       have n3_ := Aside0.mk (blk_below (q_b BK426.out) hb)
       have n4_ := Aside0.mk (below_step bq hb)
       clear HO417
       clear HO420
       clear HO425
       clear BK426
       clear HB
       have HO417 := n0_
       have HO420 := n1_
       have HO425 := n2_
       have BK426 := n3_
       have HB := n4_
       clear n0_ n1_ n2_ n3_ n4_
       (try clear hb)
       (try clear hb2)
       (try clear hk)
       (try clear hi)
       refine hK.out _ _ ⟨q_z BK426.out 0, q_z BK426.out 1, q_z BK426.out 2, (own_string (P := Try.prog) Try.underlying22 Try.underlying5 Try.underlying9 (Kd.own_of_R HO420.out))⟩ (fun hHeld => ?_)
       clear hK K
       refine norm_ (a' := ?_) ?_ ?_
       rotate_left
       ·show Act.put _ (some 25) _ = _
        simp only [Act.put, List.setIfInBounds_toArray, List.set_cons_zero, List.set_cons_succ, i64_w, i32_w]
        rfl
       refine q_P12 6 (some 26) #[true, true, true, true, true, true, true, true, false, false, false, false, false, false, false, false, false, false, false, false, false, false, false, false, false, false, false, false, false, false, false, false, false, false, false, false, false, false] HT_.out ?_
       refine q_P12 8 (some 28) #[true, true, true, true, true, true, true, true, true, false, false, false, false, false, false, false, false, false, false, false, false, false, false, false, false, false, false, false, false, false, false, false, false, false, false, false, false, false] HT_.out ?_
       refine q_P12 9 (some 29) #[true, true, true, true, true, true, true, true, true, true, false, false, false, false, false, false, false, false, false, false, false, false, false, false, false, false, false, false, false, false, false, false, false, false, false, false, false, false] HT_.out ?_
       refine q_P12 10 (some 30) #[true, true, true, true, true, true, true, true, true, true, true, false, false, false, false, false, false, false, false, false, false, false, false, false, false, false, false, false, false, false, false, false, false, false, false, false, false, false] HT_.out ?_
       refine q_P12 11 (some 31) #[true, true, true, true, true, true, true, true, true, true, true, true, false, false, false, false, false, false, false, false, false, false, false, false, false, false, false, false, false, false, false, false, false, false, false, false, false, false] HT_.out ?_
       refine q_t 12 (some 32) #[true, true, true, true, true, true, true, true, true, true, true, true, true, false, false, false, false, false, false, false, false, false, false, false, false, false, false, false, false, false, false, false, false, false, false, false, false, false] HT_.out HW_.out hHeld ?_
       refine q_P12 13 (some 33) #[true, true, true, true, true, true, true, true, true, true, true, true, true, true, false, false, false, false, false, false, false, false, false, false, false, false, false, false, false, false, false, false, false, false, false, false, false, false] HT_.out ?_
       refine q_P12 14 (some 34) #[true, true, true, true, true, true, true, true, true, true, true, true, true, true, true, false, false, false, false, false, false, false, false, false, false, false, false, false, false, false, false, false, false, false, false, false, false, false] HT_.out ?_
       refine q_P12 15 (some 35) #[true, true, true, true, true, true, true, true, true, true, true, true, true, true, true, true, false, false, false, false, false, false, false, false, false, false, false, false, false, false, false, false, false, false, false, false, false, false] HT_.out ?_
       refine q_P12 20 (some 40) #[true, true, true, true, true, true, true, true, true, true, true, true, true, true, true, true, false, false, false, false, true, false, false, false, false, false, false, false, false, false, false, false, false, false, false, false, false, false] HT_.out ?_
       refine q_t 21 (some 41) #[true, true, true, true, true, true, true, true, true, true, true, true, true, true, true, true, false, false, false, false, true, true, false, false, false, false, false, false, false, false, false, false, false, false, false, false, false, false] HT_.out HW_.out hHeld ?_
       refine q_t 16 (some 36) #[true, true, true, true, true, true, true, true, true, true, true, true, true, true, true, true, true, false, false, false, true, true, false, false, false, false, false, false, false, false, false, false, false, false, false, false, false, false] HT_.out HW_.out hHeld ?_
       refine one_ (i := 17) (N := some 37) #[true, true, true, true, true, true, true, true, true, true, true, true, true, true, true, true, true, true, false, false, true, true, false, false, false, false, false, false, false, false, false, false, false, false, false, false, false, false] rfl rfl (one_of HT_.out (by kernel_rfl)) (by decide) (fun K hK => ?_)
       refine goes_ Try.func47 (by kernel_rfl) rfl #[.agg #[.int .i64 t422, .slice Ao64 t423.length co64]] (by rfl) rfl rfl (by (try simp only [List.map_toArray, List.map_cons, List.map_nil]); first | done | rfl | (simp only [List.length_drop, List.length_take]; rfl)) ?_
       with_reducible refine (impl_PackContract.calls k t422 _ _ t423 t429 t430 _ ?side1 ?side2 A12.out).mono ?_
       (case side1 => exact q_c ((Kd.R_reads' HO425.out).2.2))
       (case side2 => exact (Kd.R_reads' HO425.out).2.1)
       rintro e w69 ⟨v431, rfl, ho0, hb⟩
       refine ⟨_, rfl, ?_⟩
       have n0_ := Aside0.mk (Kd.R_elder' (q_r (HO417.out)) (Kd.R_base ho0) hb)
       have n1_ := Aside0.mk (Kd.R_elder' (q_r (HO420.out)) (Kd.R_base ho0) hb)
       have n2_ := Aside0.mk (Kd.R_below (q_r (HO425.out)) hb)
       have n3_ := Aside0.mk (Kd.R_lower (Kd.R_new' (Kd.R_new' ho0 (Kd.R_lt (q_r (HO417.out)))) (Kd.R_lt (q_r (HO420.out)))) (below_size bq))
       have n4_ := Aside0.mk (blk_below (q_b BK426.out) hb)
       have n5_ := Aside0.mk (below_step bq hb)
       clear HO417
       clear HO420
       clear HO425
       clear BK426
       clear HB
       have HO417 := n0_
       have HO420 := n1_
       have HO425 := n2_
       have HO432 := n3_
       have BK426 := n4_
       have HB := n5_
       clear n0_ n1_ n2_ n3_ n4_ n5_
       (try clear hb)
       (try clear hb2)
       (try clear hk)
       (try clear hi)
       (try clear ho0)
       have hcv71 := own_string (P := Try.prog) Try.underlying22 Try.underlying5 Try.underlying9 (Kd.own_of_R HO420.out)
       refine hK.out _ _ ⟨q_z BK426.out 0, q_z BK426.out 1, q_z BK426.out 2, (own_string (P := Try.prog) Try.underlying22 Try.underlying5 Try.underlying9 (Kd.own_of_R HO420.out))⟩ (fun hHeld => ?_)
       clear hK K
       refine norm_ (a' := ?_) ?_ ?_
       rotate_left
       ·show Act.put _ (some 37) _ = _
        simp only [Act.put, List.setIfInBounds_toArray, List.set_cons_zero, List.set_cons_succ, i64_w, i32_w]
        rfl
       refine q_P12 18 (some 38) #[true, true, true, true, true, true, true, true, true, true, true, true, true, true, true, true, true, true, true, false, true, true, false, false, false, false, false, false, false, false, false, false, false, false, false, false, false, false] HT_.out ?_
       refine one_ (i := 19) (N := some 39) #[true, true, true, true, true, true, true, true, true, true, true, true, true, true, true, true, true, true, true, true, true, true, false, false, false, false, false, false, false, false, false, false, false, false, false, false, false, false] rfl rfl (one_of HT_.out (by kernel_rfl)) (by decide) (fun K hK => ?_)
       have hcv70 := own_string (P := Try.prog) Try.underlying22 Try.underlying5 Try.underlying9 (Kd.own_of_R HO432.out)
       refine value_ (w1 := ?_) (v := ?_) (by rfl) rfl ?_ ?_
       rotate_left 2
       ·go_simp
        constructor
        ·rfl
        ·rfl
       clear hcv70
       refine hK.out _ _ ⟨q_z BK426.out 0, q_z BK426.out 1, q_z BK426.out 2, (own_string (P := Try.prog) Try.underlying22 Try.underlying5 Try.underlying9 (Kd.own_of_R HO420.out))⟩ (fun hHeld => ?_)
       clear hK K
       refine norm_ (a' := ?_) ?_ ?_
       rotate_left
       ·show Act.put _ (some 39) _ = _
        simp only [Act.put, List.setIfInBounds_toArray, List.set_cons_zero, List.set_cons_succ, i64_w, i32_w]
        rfl
       refine q_P12 22 (some 42) #[true, true, true, true, true, true, true, true, true, true, true, true, true, true, true, true, true, true, true, true, true, true, true, false, false, false, false, false, false, false, false, false, false, false, false, false, false, false] HT_.out ?_
       refine q_P12 23 (some 43) #[true, true, true, true, true, true, true, true, true, true, true, true, true, true, true, true, true, true, true, true, true, true, true, true, false, false, false, false, false, false, false, false, false, false, false, false, false, false] HT_.out ?_
       refine q_P12 24 (some 44) #[true, true, true, true, true, true, true, true, true, true, true, true, true, true, true, true, true, true, true, true, true, true, true, true, true, false, false, false, false, false, false, false, false, false, false, false, false, false] HT_.out ?_
       refine q_P12 25 (some 45) #[true, true, true, true, true, true, true, true, true, true, true, true, true, true, true, true, true, true, true, true, true, true, true, true, true, true, false, false, false, false, false, false, false, false, false, false, false, false] HT_.out ?_
       refine q_P12 26 (some 46) #[true, true, true, true, true, true, true, true, true, true, true, true, true, true, true, true, true, true, true, true, true, true, true, true, true, true, true, false, false, false, false, false, false, false, false, false, false, false] HT_.out ?_
       refine q_t 27 (some 47) #[true, true, true, true, true, true, true, true, true, true, true, true, true, true, true, true, true, true, true, true, true, true, true, true, true, true, true, true, false, false, false, false, false, false, false, false, false, false] HT_.out HW_.out hHeld ?_
       refine q_P12 28 (some 48) #[true, true, true, true, true, true, true, true, true, true, true, true, true, true, true, true, true, true, true, true, true, true, true, true, true, true, true, true, true, false, false, false, false, false, false, false, false, false] HT_.out ?_
       refine q_P12 29 (some 49) #[true, true, true, true, true, true, true, true, true, true, true, true, true, true, true, true, true, true, true, true, true, true, true, true, true, true, true, true, true, true, false, false, false, false, false, false, false, false] HT_.out ?_
       refine pure_ (i := 30) (N := some 50) (v := undef) (a' := ?_) #[true, true, true, true, true, true, true, true, true, true, true, true, true, true, true, true, true, true, true, true, true, true, true, true, true, true, true, true, true, true, true, false, false, false, false, false, false, false] rfl rfl (any_of HT_.out (by kernel_rfl)) (fun _ _ _ h => h) (Or.inr ⟨by rfl, rfl⟩) ?_ ?_
       rotate_left
       ·simp only [Act.put, List.setIfInBounds_toArray, List.set_cons_zero, List.set_cons_succ, i64_w, i32_w]
        rfl
       refine pure_ (i := 31) (N := some 51) (v := undef) (a' := ?_) #[true, true, true, true, true, true, true, true, true, true, true, true, true, true, true, true, true, true, true, true, true, true, true, true, true, true, true, true, true, true, true, true, false, false, false, false, false, false] rfl rfl (any_of HT_.out (by kernel_rfl)) (fun _ _ _ h => h) (Or.inr ⟨by rfl, rfl⟩) ?_ ?_
       rotate_left
       ·simp only [Act.put, List.setIfInBounds_toArray, List.set_cons_zero, List.set_cons_succ, i64_w, i32_w]
        rfl
       refine pure_ (i := 32) (N := some 52) (v := undef) (a' := ?_) #[true, true, true, true, true, true, true, true, true, true, true, true, true, true, true, true, true, true, true, true, true, true, true, true, true, true, true, true, true, true, true, true, true, false, false, false, false, false] rfl rfl (any_of HT_.out (by kernel_rfl)) (fun _ _ _ h => h) (Or.inr ⟨by rfl, rfl⟩) ?_ ?_
       rotate_left
       ·simp only [Act.put, List.setIfInBounds_toArray, List.set_cons_zero, List.set_cons_succ, i64_w, i32_w]
        rfl
       refine pure_ (i := 33) (N := some 53) (v := undef) (a' := ?_) #[true, true, true, true, true, true, true, true, true, true, true, true, true, true, true, true, true, true, true, true, true, true, true, true, true, true, true, true, true, true, true, true, true, true, false, false, false, false] rfl rfl (any_of HT_.out (by kernel_rfl)) (fun _ _ _ h => h) (Or.inr ⟨by rfl, rfl⟩) ?_ ?_
       rotate_left
       ·simp only [Act.put, List.setIfInBounds_toArray, List.set_cons_zero, List.set_cons_succ, i64_w, i32_w]
        rfl
       refine pure_ (i := 34) (N := some 54) (v := undef) (a' := ?_) #[true, true, true, true, true, true, true, true, true, true, true, true, true, true, true, true, true, true, true, true, true, true, true, true, true, true, true, true, true, true, true, true, true, true, true, false, false, false] rfl rfl (any_of HT_.out (by kernel_rfl)) (fun _ _ _ h => h) (Or.inr ⟨by rfl, rfl⟩) ?_ ?_
       rotate_left
       ·simp only [Act.put, List.setIfInBounds_toArray, List.set_cons_zero, List.set_cons_succ, i64_w, i32_w]
        rfl
       refine pure_ (i := 35) (N := some 55) (v := undef) (a' := ?_) #[true, true, true, true, true, true, true, true, true, true, true, true, true, true, true, true, true, true, true, true, true, true, true, true, true, true, true, true, true, true, true, true, true, true, true, true, false, false] rfl rfl (any_of HT_.out (by kernel_rfl)) (fun _ _ _ h => h) (Or.inr ⟨by rfl, rfl⟩) ?_ ?_
       rotate_left
       ·simp only [Act.put, List.setIfInBounds_toArray, List.set_cons_zero, List.set_cons_succ, i64_w, i32_w]
        rfl
       refine q_P12 36 (some 56) #[true, true, true, true, true, true, true, true, true, true, true, true, true, true, true, true, true, true, true, true, true, true, true, true, true, true, true, true, true, true, true, true, true, true, true, true, true, false] HT_.out ?_
       refine q_P12 37 (some 57) #[true, true, true, true, true, true, true, true, true, true, true, true, true, true, true, true, true, true, true, true, true, true, true, true, true, true, true, true, true, true, true, true, true, true, true, true, true, true] HT_.out ?_
       refine done_ (done_of HT_.out (by kernel_rfl)) ?_
       try go_wp2_with (first | ((with_reducible refine gate_callee (f := 58) rfl ?_); refine goesLq (some 59) rfl rfl Try.func58 (by kernel_rfl) rfl #[.slice A0 l0.length c0] rfl ?_; (with_reducible refine (spec_DrawPackContract.calls k _ _ l0 t433 t434 _ ?side1 ?side2 A14.out).mono ?_); (case side1 => exact q_c ((Kd.C_below HR0.out HB.out))); (case side2 => exact HC0.out); rintro e w73 ⟨v435, rfl, ho0, hb⟩; refine ⟨_, rfl, ?_⟩; have n0_ := Aside0.mk (Kd.R_below (q_r (HO417.out)) hb); have n1_ := Aside0.mk (Kd.R_below (q_r (HO420.out)) hb); have n2_ := Aside0.mk (Kd.R_elder' (q_r (HO425.out)) (Kd.R_base ho0) hb); have n3_ := Aside0.mk (Kd.R_below (q_r (HO432.out)) hb); have n4_ := Aside0.mk (Kd.R_lower (Kd.R_new' ho0 (Kd.R_lt (q_r (HO425.out)))) (below_size bq)); have n5_ := Aside0.mk (blk_below (q_b BK426.out) hb); have n6_ := Aside0.mk (below_step bq hb); revert n0_ n1_ n2_ n3_ n4_ n5_ n6_; clear HO417 HO420 HO425 HO432 BK426 HB; intro HO417 HO420 HO425 HO432 HO436 BK426 HB; (try clear hb); (try clear hb2); (try clear hk); (try clear hi); (try clear ho0)) | ((with_reducible refine gate_dst (N := 7) rfl ?_); refine q_box (N := 7) (cs := #[.int .i64 0, .slice none 0 0]) (t := 36) ?_; intro gb437 hg w74 hbox hb; have n0_ := Aside0.mk (Kd.R_below (q_r (HO417.out)) hb); have n1_ := Aside0.mk (Kd.R_below (q_r (HO420.out)) hb); have n2_ := Aside0.mk (Kd.R_below (q_r (HO425.out)) hb); have n3_ := Aside0.mk (Kd.R_below (q_r (HO432.out)) hb); have n4_ := Aside0.mk (Kd.R_below (q_r (HO436.out)) hb); have n5_ := Aside0.mk (blk_below (q_b BK426.out) hb); have n6_ := Aside0.mk (below_step bq hb); have n7_ := Aside0.mk (hbox); have n8_ := Aside0.mk ((q_g hg bq : w.heap.size ≤ gb437)); have n9_ := Aside0.mk ((q_g hg bq : w.heap.size ≤ gb437)); have n10_ := Aside0.mk ((q_n hg (q_b BK426.out) : gb426 ≠ gb437)); have n11_ := Aside0.mk ((q_m hg (q_b BK426.out) : gb437 ≠ gb426)); revert n0_ n1_ n2_ n3_ n4_ n5_ n6_ n7_ n8_ n9_ n10_ n11_; clear HO417 HO420 HO425 HO432 HO436 BK426 HB; intro HO417 HO420 HO425 HO432 HO436 BK426 HB BK437 GW437 GE437 NB426_437 NB437_426; clear hb hbox hg; have hnb75 := NB437_426.out; have hnc75 := NB426_437.out; obtain ⟨hcz76_0, hcz76_1, hfz76_0, hfz76_1⟩ := q_2 BK437.out; obtain ⟨Ao77, co77, eo77⟩ := Kd.R_slice HO436.out; subst eo77) | ((with_reducible refine gate_callee (f := 47) rfl ?_); refine goesLq (some 61) rfl rfl Try.func47 (by kernel_rfl) rfl #[.agg #[.int .i64 t433, .slice Ao77 t434.length co77]] rfl ?_; (with_reducible refine (impl_PackContract.calls k t433 _ _ t434 t438 t439 _ ?side1 ?side2 A15.out).mono ?_); (case side1 => refine (Kd.R_reads' (e := 89) (base := w.heap.size) (ok := fun k_ => (True ∧ some k_ ≠ (.slice Ao64 t423.length co64 : Value).ownBlock)) (n := t434.length) (c := co77) ?_).2.2; exact (by (with_reducible repeat (first | apply Kd.R_alloc | apply Kd.R_drewN | apply Kd.R_drew)); exact (Kd.R_mono (Kd.R_far (p := ⟨gb437, 1, none⟩) (Kd.R_far (p := ⟨gb437, 0, none⟩) (Kd.R_types HO436.out BK437.out (by decide)) (fun _ hk => hk.2) (.int .i64 t433)) (fun _ hk => hk.2) (.slice Ao77 t434.length co77)) (fun _ h_ => h_.1)))); (case side2 => exact (Kd.R_reads' HO436.out).2.1); rintro e w78 ⟨v440, rfl, ho0, hb⟩; refine ⟨_, rfl, ?_⟩; have n0_ := Aside0.mk (Kd.R_elder' (by (with_reducible repeat (first | apply Kd.R_alloc | apply Kd.R_drewN | apply Kd.R_drew)); exact (Kd.R_mono (Kd.R_far (p := ⟨gb437, 1, none⟩) (Kd.R_far (p := ⟨gb437, 0, none⟩) (Kd.R_types HO417.out BK437.out (by decide)) (fun _ hk => hk.2) (.int .i64 t433)) (fun _ hk => hk.2) (.slice Ao77 t434.length co77)) (fun _ h_ => h_.1))) (Kd.R_base ho0) hb); have n1_ := Aside0.mk (Kd.R_elder' (by (with_reducible repeat (first | apply Kd.R_alloc | apply Kd.R_drewN | apply Kd.R_drew)); exact (Kd.R_mono (Kd.R_far (p := ⟨gb437, 1, none⟩) (Kd.R_far (p := ⟨gb437, 0, none⟩) (Kd.R_types HO420.out BK437.out (by decide)) (fun _ hk => hk.2) (.int .i64 t433)) (fun _ hk => hk.2) (.slice Ao77 t434.length co77)) (fun _ h_ => h_.1))) (Kd.R_base ho0) hb); have n2_ := Aside0.mk (Kd.R_below (by (with_reducible repeat (first | apply Kd.R_alloc | apply Kd.R_drewN | apply Kd.R_drew)); exact (Kd.R_mono (Kd.R_far (p := ⟨gb437, 1, none⟩) (Kd.R_far (p := ⟨gb437, 0, none⟩) (Kd.R_types HO425.out BK437.out (by decide)) (fun _ hk => hk.2) (.int .i64 t433)) (fun _ hk => hk.2) (.slice Ao77 t434.length co77)) (fun _ h_ => h_.1))) hb); have n3_ := Aside0.mk (Kd.R_elder' (by (with_reducible repeat (first | apply Kd.R_alloc | apply Kd.R_drewN | apply Kd.R_drew)); exact (Kd.R_mono (Kd.R_far (p := ⟨gb437, 1, none⟩) (Kd.R_far (p := ⟨gb437, 0, none⟩) (Kd.R_types HO432.out BK437.out (by decide)) (fun _ hk => hk.2) (.int .i64 t433)) (fun _ hk => hk.2) (.slice Ao77 t434.length co77)) (fun _ h_ => h_.1))) (Kd.R_base ho0) hb); have n4_ := Aside0.mk (Kd.R_below (by (with_reducible repeat (first | apply Kd.R_alloc | apply Kd.R_drewN | apply Kd.R_drew)); exact (Kd.R_mono (Kd.R_far (p := ⟨gb437, 1, none⟩) (Kd.R_far (p := ⟨gb437, 0, none⟩) (Kd.R_types HO436.out BK437.out (by decide)) (fun _ hk => hk.2) (.int .i64 t433)) (fun _ hk => hk.2) (.slice Ao77 t434.length co77)) (fun _ h_ => h_.1))) hb); have n5_ := Aside0.mk (Kd.R_lower (Kd.R_new' (Kd.R_new' (Kd.R_new' ho0 (Kd.R_lt (by (with_reducible repeat (first | apply Kd.R_alloc | apply Kd.R_drewN | apply Kd.R_drew)); exact (Kd.R_mono (Kd.R_far (p := ⟨gb437, 1, none⟩) (Kd.R_far (p := ⟨gb437, 0, none⟩) (Kd.R_types HO417.out BK437.out (by decide)) (fun _ hk => hk.2) (.int .i64 t433)) (fun _ hk => hk.2) (.slice Ao77 t434.length co77)) (fun _ h_ => h_.1))))) (Kd.R_lt (by (with_reducible repeat (first | apply Kd.R_alloc | apply Kd.R_drewN | apply Kd.R_drew)); exact (Kd.R_mono (Kd.R_far (p := ⟨gb437, 1, none⟩) (Kd.R_far (p := ⟨gb437, 0, none⟩) (Kd.R_types HO420.out BK437.out (by decide)) (fun _ hk => hk.2) (.int .i64 t433)) (fun _ hk => hk.2) (.slice Ao77 t434.length co77)) (fun _ h_ => h_.1))))) (Kd.R_lt (by (with_reducible repeat (first | apply Kd.R_alloc | apply Kd.R_drewN | apply Kd.R_drew)); exact (Kd.R_mono (Kd.R_far (p := ⟨gb437, 1, none⟩) (Kd.R_far (p := ⟨gb437, 0, none⟩) (Kd.R_types HO432.out BK437.out (by decide)) (fun _ hk => hk.2) (.int .i64 t433)) (fun _ hk => hk.2) (.slice Ao77 t434.length co77)) (fun _ h_ => h_.1))))) (below_size bq)); have n6_ := Aside0.mk (blk_below (g := gb426) (o := .cells #[.int .i64 t421, .int .i64 t422, .slice Ao64 t423.length co64] 59 (0, 0)) (by (with_reducible repeat (first | refine blk_drewN ?_ _ | refine blk_drew ?_ | refine blk_alloc ?_ _)); refine blk_far ?_ NB426_437.out _; (with_reducible repeat (first | refine blk_drewN ?_ _ | refine blk_drew ?_ | refine blk_alloc ?_ _)); refine blk_far ?_ NB426_437.out _; (with_reducible repeat (first | refine blk_drewN ?_ _ | refine blk_drew ?_ | refine blk_alloc ?_ _)); exact BK426.out) hb); have n7_ := Aside0.mk (blk_below (g := gb437) (o := .cells #[.int .i64 t433, .slice Ao77 t434.length co77] 36 (0, 0)) (by (with_reducible repeat (first | refine blk_drewN ?_ _ | refine blk_drew ?_ | refine blk_alloc ?_ _)); refine blk_put (cs := #[.int .i64 t433, .slice none 0 0]) ?_ 1 _ rfl; (with_reducible repeat (first | refine blk_drewN ?_ _ | refine blk_drew ?_ | refine blk_alloc ?_ _)); refine blk_put (cs := #[.int .i64 0, .slice none 0 0]) ?_ 0 _ rfl; (with_reducible repeat (first | refine blk_drewN ?_ _ | refine blk_drew ?_ | refine blk_alloc ?_ _)); exact BK437.out) hb); have n8_ := Aside0.mk (below_step bq hb); revert n0_ n1_ n2_ n3_ n4_ n5_ n6_ n7_ n8_; clear HO417 HO420 HO425 HO432 HO436 BK426 BK437 HB; intro HO417 HO420 HO425 HO432 HO436 HO441 BK426 BK437 HB; (try clear hb); (try clear hb2); (try clear hk); (try clear hi); (try clear ho0)) | ((with_reducible refine gate_dst (N := 8) rfl ?_); refine q_box (N := 8) (cs := #[.int .i64 0, .slice none 0 0]) (t := 24) ?_; intro gb442 hg w79 hbox hb; have n0_ := Aside0.mk (Kd.R_below (q_r (HO417.out)) hb); have n1_ := Aside0.mk (Kd.R_below (q_r (HO420.out)) hb); have n2_ := Aside0.mk (Kd.R_below (q_r (HO425.out)) hb); have n3_ := Aside0.mk (Kd.R_below (q_r (HO432.out)) hb); have n4_ := Aside0.mk (Kd.R_below (q_r (HO436.out)) hb); have n5_ := Aside0.mk (Kd.R_below (q_r (HO441.out)) hb); have n6_ := Aside0.mk (blk_below (q_b BK426.out) hb); have n7_ := Aside0.mk (blk_below (q_b BK437.out) hb); have n8_ := Aside0.mk (below_step bq hb); have n9_ := Aside0.mk (hbox); have n10_ := Aside0.mk ((q_g hg bq : w.heap.size ≤ gb442)); have n11_ := Aside0.mk ((q_g hg bq : w.heap.size ≤ gb442)); have n12_ := Aside0.mk ((q_n hg (q_b BK426.out) : gb426 ≠ gb442)); have n13_ := Aside0.mk ((q_m hg (q_b BK426.out) : gb442 ≠ gb426)); have n14_ := Aside0.mk ((q_n hg (q_b BK437.out) : gb437 ≠ gb442)); have n15_ := Aside0.mk ((q_m hg (q_b BK437.out) : gb442 ≠ gb437)); revert n0_ n1_ n2_ n3_ n4_ n5_ n6_ n7_ n8_ n9_ n10_ n11_ n12_ n13_ n14_ n15_; clear HO417 HO420 HO425 HO432 HO436 HO441 BK426 BK437 HB; intro HO417 HO420 HO425 HO432 HO436 HO441 BK426 BK437 HB BK442 GW442 GE442 NB426_442 NB442_426 NB437_442 NB442_437; clear hb hbox hg; have hnb80 := NB442_426.out; have hnc80 := NB426_442.out; have hnb81 := NB442_437.out; have hnc81 := NB437_442.out; obtain ⟨hcz82_0, hcz82_1, hfz82_0, hfz82_1⟩ := q_2 BK442.out; obtain ⟨Ao83, co83, eo83⟩ := Kd.R_slice HO441.out; subst eo83))
       have n0_ : Aside0 (Kd.R (Kd.int .u8) 5 ((w79.setCell ⟨gb442, 0, none⟩ (.int .i64 t438)).setCell ⟨gb442, 1, none⟩ (.slice Ao83 t439.length co83)) w.heap.size (fun k_ => some k_ ≠ (.slice Ao60 t418.length co60 : Value).ownBlock ∧ some k_ ≠ (v431 : Value).ownBlock ∧ some k_ ≠ (.slice Ao83 t439.length co83 : Value).ownBlock) (.slice Ao65 t415.length co65) t415) := ⟨by (with_reducible repeat (first | apply Kd.R_alloc | apply Kd.R_drewN | apply Kd.R_drew)); exact Kd.R_mono (Kd.R_far (p := ⟨gb442, 1, none⟩) (Kd.R_far (p := ⟨gb442, 0, none⟩) (Kd.R_types HO417.out BK442.out (by decide)) (fun _ hk => hk.2) (.int .i64 t438)) (fun _ hk => hk.2) (.slice Ao83 t439.length co83)) (fun _ hk => by first | exact ⟨hk.1.1.1, ⟨hk.1.1.2, hk.1.2⟩⟩ | exact ⟨hk.1.1.1.2, ⟨hk.1.1.2, hk.1.2⟩⟩)⟩
       have n1_ : Aside0 (Kd.R (Kd.int .u8) 5 ((w79.setCell ⟨gb442, 0, none⟩ (.int .i64 t438)).setCell ⟨gb442, 1, none⟩ (.slice Ao83 t439.length co83)) w.heap.size (fun k_ => some k_ ≠ (.slice Ao65 t415.length co65 : Value).ownBlock ∧ some k_ ≠ (v431 : Value).ownBlock ∧ some k_ ≠ (.slice Ao83 t439.length co83 : Value).ownBlock) (.slice Ao60 t418.length co60) t418) := ⟨by (with_reducible repeat (first | apply Kd.R_alloc | apply Kd.R_drewN | apply Kd.R_drew)); exact Kd.R_mono (Kd.R_far (p := ⟨gb442, 1, none⟩) (Kd.R_far (p := ⟨gb442, 0, none⟩) (Kd.R_types HO420.out BK442.out (by decide)) (fun _ hk => hk.2) (.int .i64 t438)) (fun _ hk => hk.2) (.slice Ao83 t439.length co83)) (fun _ hk => by first | exact ⟨hk.1.1.1, ⟨hk.1.1.2, hk.1.2⟩⟩ | exact ⟨hk.1.1.1.2, ⟨hk.1.1.2, hk.1.2⟩⟩)⟩
       have n2_ : Aside0 (Kd.R k89 89 ((w79.setCell ⟨gb442, 0, none⟩ (.int .i64 t438)).setCell ⟨gb442, 1, none⟩ (.slice Ao83 t439.length co83)) w.heap.size (fun k_ => some k_ ≠ (.slice Ao77 t434.length co77 : Value).ownBlock) (.slice Ao64 t423.length co64) t423) := ⟨by (with_reducible repeat (first | apply Kd.R_alloc | apply Kd.R_drewN | apply Kd.R_drew)); exact Kd.R_mono (Kd.R_far (p := ⟨gb442, 1, none⟩) (Kd.R_far (p := ⟨gb442, 0, none⟩) (Kd.R_types HO425.out BK442.out (by decide)) (fun _ hk => hk.2) (.int .i64 t438)) (fun _ hk => hk.2) (.slice Ao83 t439.length co83)) (fun _ hk => hk.1.2)⟩
       have n3_ : Aside0 (Kd.R (Kd.int .u8) 5 ((w79.setCell ⟨gb442, 0, none⟩ (.int .i64 t438)).setCell ⟨gb442, 1, none⟩ (.slice Ao83 t439.length co83)) w.heap.size (fun k_ => some k_ ≠ (.slice Ao65 t415.length co65 : Value).ownBlock ∧ some k_ ≠ (.slice Ao60 t418.length co60 : Value).ownBlock ∧ some k_ ≠ (.slice Ao83 t439.length co83 : Value).ownBlock) v431 t430) := ⟨by (with_reducible repeat (first | apply Kd.R_alloc | apply Kd.R_drewN | apply Kd.R_drew)); exact Kd.R_mono (Kd.R_far (p := ⟨gb442, 1, none⟩) (Kd.R_far (p := ⟨gb442, 0, none⟩) (Kd.R_types HO432.out BK442.out (by decide)) (fun _ hk => hk.2) (.int .i64 t438)) (fun _ hk => hk.2) (.slice Ao83 t439.length co83)) (fun _ hk => by first | exact ⟨hk.1.1.1, ⟨hk.1.1.2, hk.1.2⟩⟩ | exact ⟨hk.1.1.1.2, ⟨hk.1.1.2, hk.1.2⟩⟩)⟩
       have n4_ : Aside0 (Kd.R k89 89 ((w79.setCell ⟨gb442, 0, none⟩ (.int .i64 t438)).setCell ⟨gb442, 1, none⟩ (.slice Ao83 t439.length co83)) w.heap.size (fun k_ => some k_ ≠ (.slice Ao64 t423.length co64 : Value).ownBlock) (.slice Ao77 t434.length co77) t434) := ⟨by (with_reducible repeat (first | apply Kd.R_alloc | apply Kd.R_drewN | apply Kd.R_drew)); exact Kd.R_mono (Kd.R_far (p := ⟨gb442, 1, none⟩) (Kd.R_far (p := ⟨gb442, 0, none⟩) (Kd.R_types HO436.out BK442.out (by decide)) (fun _ hk => hk.2) (.int .i64 t438)) (fun _ hk => hk.2) (.slice Ao83 t439.length co83)) (fun _ hk => hk.1.2)⟩
       have n5_ : Aside0 (Kd.R (Kd.int .u8) 5 ((w79.setCell ⟨gb442, 0, none⟩ (.int .i64 t438)).setCell ⟨gb442, 1, none⟩ (.slice Ao83 t439.length co83)) w.heap.size (fun k_ => some k_ ≠ (.slice Ao65 t415.length co65 : Value).ownBlock ∧ some k_ ≠ (.slice Ao60 t418.length co60 : Value).ownBlock ∧ some k_ ≠ (v431 : Value).ownBlock) (.slice Ao83 t439.length co83) t439) := ⟨by (with_reducible repeat (first | apply Kd.R_alloc | apply Kd.R_drewN | apply Kd.R_drew)); exact Kd.R_mono (Kd.R_far (p := ⟨gb442, 1, none⟩) (Kd.R_far (p := ⟨gb442, 0, none⟩) (Kd.R_types HO441.out BK442.out (by decide)) (fun _ hk => hk.2) (.int .i64 t438)) (fun _ hk => hk.2) (.slice Ao83 t439.length co83)) (fun _ hk => ⟨hk.1.1.1.2, ⟨hk.1.1.2, hk.1.2⟩⟩)⟩
       have n6_ : Aside0 (((w79.setCell ⟨gb442, 0, none⟩ (.int .i64 t438)).setCell ⟨gb442, 1, none⟩ (.slice Ao83 t439.length co83)).heap[gb426]? = some (.cells #[.int .i64 t421, .int .i64 t422, .slice Ao64 t423.length co64] 59 (0, 0))) := ⟨by (with_reducible repeat (first | refine blk_drewN ?_ _ | refine blk_drew ?_ | refine blk_alloc ?_ _)); refine blk_far ?_ NB426_442.out _; (with_reducible repeat (first | refine blk_drewN ?_ _ | refine blk_drew ?_ | refine blk_alloc ?_ _)); refine blk_far ?_ NB426_442.out _; (with_reducible repeat (first | refine blk_drewN ?_ _ | refine blk_drew ?_ | refine blk_alloc ?_ _)); exact BK426.out⟩
       have n7_ : Aside0 (((w79.setCell ⟨gb442, 0, none⟩ (.int .i64 t438)).setCell ⟨gb442, 1, none⟩ (.slice Ao83 t439.length co83)).heap[gb437]? = some (.cells #[.int .i64 t433, .slice Ao77 t434.length co77] 36 (0, 0))) := ⟨by (with_reducible repeat (first | refine blk_drewN ?_ _ | refine blk_drew ?_ | refine blk_alloc ?_ _)); refine blk_far ?_ NB437_442.out _; (with_reducible repeat (first | refine blk_drewN ?_ _ | refine blk_drew ?_ | refine blk_alloc ?_ _)); refine blk_far ?_ NB437_442.out _; (with_reducible repeat (first | refine blk_drewN ?_ _ | refine blk_drew ?_ | refine blk_alloc ?_ _)); exact BK437.out⟩
       have n8_ : Aside0 (((w79.setCell ⟨gb442, 0, none⟩ (.int .i64 t438)).setCell ⟨gb442, 1, none⟩ (.slice Ao83 t439.length co83)).heap[gb442]? = some (.cells #[.int .i64 t438, .slice Ao83 t439.length co83] 24 (0, 0))) := ⟨by (with_reducible repeat (first | refine blk_drewN ?_ _ | refine blk_drew ?_ | refine blk_alloc ?_ _)); refine blk_put (cs := #[.int .i64 t438, .slice none 0 0]) ?_ 1 _ rfl; (with_reducible repeat (first | refine blk_drewN ?_ _ | refine blk_drew ?_ | refine blk_alloc ?_ _)); refine blk_put (cs := #[.int .i64 0, .slice none 0 0]) ?_ 0 _ rfl; (with_reducible repeat (first | refine blk_drewN ?_ _ | refine blk_drew ?_ | refine blk_alloc ?_ _)); exact BK442.out⟩
       have n9_ : Aside0 (Below w.heap.size w ((w79.setCell ⟨gb442, 0, none⟩ (.int .i64 t438)).setCell ⟨gb442, 1, none⟩ (.slice Ao83 t439.length co83))) := ⟨bq⟩
       (try clear HO417)
       (try clear HO420)
       (try clear HO425)
       (try clear HO432)
       (try clear HO436)
       (try clear HO441)
       (try clear BK426)
       (try clear BK437)
       (try clear BK442)
       (try clear HB)
       generalize ((w79.setCell ⟨gb442, 0, none⟩ (.int .i64 t438)).setCell ⟨gb442, 1, none⟩ (.slice Ao83 t439.length co83)) = w84 at n0_ n1_ n2_ n3_ n4_ n5_ n6_ n7_ n8_ n9_ ⊢
       have HO417 := n0_
       have HO420 := n1_
       have HO425 := n2_
       have HO432 := n3_
       have HO436 := n4_
       have HO441 := n5_
       have BK426 := n6_
       have BK437 := n7_
       have BK442 := n8_
       have HB := n9_
       clear n0_ n1_ n2_ n3_ n4_ n5_ n6_ n7_ n8_ n9_
       have n0_ := Aside0.mk (Kd.R_drew HO417.out)
       have n1_ := Aside0.mk (Kd.R_drew HO420.out)
       have n2_ := Aside0.mk (Kd.R_drew HO425.out)
       have n3_ := Aside0.mk (Kd.R_drew HO432.out)
       have n4_ := Aside0.mk (Kd.R_drew HO436.out)
       have n5_ := Aside0.mk (Kd.R_drew HO441.out)
       have n6_ := Aside0.mk (blk_drew BK426.out)
       have n7_ := Aside0.mk (blk_drew BK437.out)
       have n8_ := Aside0.mk (blk_drew BK442.out)
       have n9_ := Aside0.mk (below_drew1 HB.out)
       clear HO417
       clear HO420
       clear HO425
       clear HO432
       clear HO436
       clear HO441
       clear BK426
       clear BK437
       clear BK442
       clear HB
       have HO417 := n0_
       have HO420 := n1_
       have HO425 := n2_
       have HO432 := n3_
       have HO436 := n4_
       have HO441 := n5_
       have BK426 := n6_
       have BK437 := n7_
       have BK442 := n8_
       have HB := n9_
       clear n0_ n1_ n2_ n3_ n4_ n5_ n6_ n7_ n8_ n9_
       refine start_ (n := 6) (S := fun w' => w'.cell? ⟨gb437, 0, none⟩ = some (.int .i64 t433) ∧ w'.cell? ⟨gb437, 1, none⟩ = some (.slice Ao77 t434.length co77) ∧ w'.cell? ⟨gb442, 0, none⟩ = some (.int .i64 t438) ∧ w'.cell? ⟨gb442, 1, none⟩ = some (.slice Ao83 t439.length co83)) (ds := []) #[false, false, false, false, false, false] (by kernel_rfl) rfl rfl ⟨q_z BK437.out 0, q_z BK437.out 1, q_z BK442.out 0, q_z BK442.out 1⟩ (fun hHeld => ?_)
       generalize w84.drew = w85 at HO417 HO420 HO425 HO432 HO436 HO441 BK426 BK437 BK442 HB hHeld ⊢
       refine pure_ (i := 2) (N := some 67) (v := ?_) (a' := ?_) #[false, false, true, false, false, false] rfl rfl (by kernel_rfl) (fun _ _ _ h => h) (Or.inl ⟨by rfl, ?_⟩) ?_ ?_
       rotate_left
       ·intro w'
        go_simp
        (try (simp only [Instr.field, asAgg]; go_simp))
        with_reducible rfl
       rotate_left
       ·simp only [Act.put, List.setIfInBounds_toArray, List.set_cons_zero, List.set_cons_succ, i64_w, i32_w]
        rfl
       refine take_ (i := 0) (N := some 65) (v := ?_) (a' := ?_) #[true, false, true, false, false, false] rfl rfl (by kernel_rfl) (fun _ _ _ h => h) (Or.inl ⟨by rfl, ?_⟩) hHeld ?_ ?_
       rotate_left
       ·rintro w' ⟨s0, s1, s2, s3⟩
        go_simp
        with_reducible rfl
       rotate_left
       ·simp only [Act.put, List.setIfInBounds_toArray, List.set_cons_zero, List.set_cons_succ, i64_w, i32_w]
        rfl
       refine take_ (i := 3) (N := some 68) (v := ?_) (a' := ?_) #[true, false, true, true, false, false] rfl rfl (by kernel_rfl) (fun _ _ _ h => h) (Or.inl ⟨by rfl, ?_⟩) hHeld ?_ ?_
       rotate_left
       ·rintro w' ⟨s0, s1, s2, s3⟩
        go_simp
        with_reducible rfl
       rotate_left
       ·simp only [Act.put, List.setIfInBounds_toArray, List.set_cons_zero, List.set_cons_succ, i64_w, i32_w]
        rfl
       refine one_ (i := 1) (N := some 66) #[true, true, true, true, false, false] rfl rfl (by kernel_rfl) (by decide) (fun K hK => ?_)
       refine goes_ Try.func25 (by kernel_rfl) rfl #[.agg #[.int .i64 t433, .slice Ao77 t434.length co77]] (by rfl) rfl rfl (by (try simp only [List.map_toArray, List.map_cons, List.map_nil]); first | done | rfl | (simp only [List.length_drop, List.length_take]; rfl)) ?_
       with_reducible refine (spec_ContractFault.calls k t433 _ _ t434 t450 _ ?side1 ?side2 A56.out).mono ?_
       (case side1 => exact q_c ((Kd.R_reads' HO436.out).2.2))
       (case side2 => exact (Kd.R_reads' HO436.out).2.1)
       rintro e w86 ⟨rfl, hb⟩
       refine ⟨_, rfl, ?_⟩
       have n0_ := Aside0.mk (Kd.R_below (q_r (HO417.out)) hb)
       have n1_ := Aside0.mk (Kd.R_below (q_r (HO420.out)) hb)
       have n2_ := Aside0.mk (Kd.R_below (q_r (HO425.out)) hb)
       have n3_ := Aside0.mk (Kd.R_below (q_r (HO432.out)) hb)
       have n4_ := Aside0.mk (Kd.R_below (q_r (HO436.out)) hb)
       have n5_ := Aside0.mk (Kd.R_below (q_r (HO441.out)) hb)
       have n6_ := Aside0.mk (blk_below (q_b BK426.out) hb)
       have n7_ := Aside0.mk (blk_below (q_b BK437.out) hb)
       have n8_ := Aside0.mk (blk_below (q_b BK442.out) hb)
       have n9_ := Aside0.mk (below_step bq hb)
       clear HO417
       clear HO420
       clear HO425
       clear HO432
       clear HO436
       clear HO441
       clear BK426
       clear BK437
       clear BK442
       clear HB
       have HO417 := n0_
       have HO420 := n1_
       have HO425 := n2_
       have HO432 := n3_
       have HO436 := n4_
       have HO441 := n5_
       have BK426 := n6_
       have BK437 := n7_
       have BK442 := n8_
       have HB := n9_
       clear n0_ n1_ n2_ n3_ n4_ n5_ n6_ n7_ n8_ n9_
       (try clear hb)
       (try clear hb2)
       (try clear hk)
       (try clear hi)
       refine hK.out _ _ ⟨q_z BK437.out 0, q_z BK437.out 1, q_z BK442.out 0, q_z BK442.out 1⟩ (fun hHeld => ?_)
       clear hK K
       refine norm_ (a' := ?_) ?_ ?_
       rotate_left
       ·show Act.put _ (some 66) _ = _
        simp only [Act.put, List.setIfInBounds_toArray, List.set_cons_zero, List.set_cons_succ, i64_w, i32_w]
        rfl
       refine pure_ (i := 4) (N := some 69) (v := ?_) (a' := ?_) #[true, true, true, true, true, false] rfl rfl (by kernel_rfl) (fun _ _ _ h => h) (Or.inl ⟨by rfl, ?_⟩) ?_ ?_
       rotate_left
       ·intro w'
        go_simp
        (try (simp only [Instr.field, asAgg]; go_simp))
        with_reducible rfl
       rotate_left
       ·simp only [Act.put, List.setIfInBounds_toArray, List.set_cons_zero, List.set_cons_succ, i64_w, i32_w]
        rfl
       refine pure_ (i := 5) (N := some 2) (v := ?_) (a' := ?_) #[true, true, true, true, true, true] rfl rfl (by kernel_rfl) (fun _ _ _ h => h) (Or.inl ⟨by rfl, ?_⟩) ?_ ?_
       rotate_left
       ·intro w'
        go_simp
        (try (simp only [Instr.field, asAgg]; go_simp))
        with_reducible rfl
       rotate_left
       ·simp only [Act.put, List.setIfInBounds_toArray, List.set_cons_zero, List.set_cons_succ, i64_w, i32_w]
        rfl
       refine done_ (by kernel_rfl) ?_
       try go_wp2
       go_ret
       exact ⟨q_e, bq⟩
     ·rw [if_neg c13] at H
      have c13b0 : ((strOfNums t430).toList == (strOfNums t418).toList) = false := beq_eq_false_iff_ne.mpr c13
      have c13b1 : ((strOfNums t430).toList != (strOfNums t418).toList) = true := bne_iff_ne.mpr c13
      exact absurd H (by simp)
    ·rw [if_neg c11] at H
     have c11b0 : (t421 == 0) = false := beq_eq_false_iff_ne.mpr c11
     have c11b1 : (t421 != 0) = true := bne_iff_ne.mpr c11
     replace H := Option.bind_eq_some_iff.mp H
     obtain ⟨⟨t451, t452, t453⟩, A870, H⟩ := H
     replace H : (if t451 = t421 then ((spec_DrawPackContract.f k l0).bind fun bt456 => ((impl_PackContract.f k bt456.1 bt456.2).bind fun bt461 => (if bt461.1 = 0 then ((impl_UnpackContract.f k bt461.2).bind fun bt466 => (if bt466.1 = 0 then ((impl_SameContract.f k bt466.2.1 bt466.2.2 bt456.1 bt456.2).bind fun t472 => (some t472)) else (none))) else ((spec_ContractFault.f k bt456.1 bt456.2).bind fun t473 => (some (t473 == bt461.1)))))) else (none)) = some r := H
     have A87 := Aside0.mk A870
     clear A870
     by_cases c88 : t451 = t421
     ·rw [if_pos c88] at H
      have c88b0 : (t451 == t421) = true := beq_iff_eq.mpr c88
      have c88b1 : (t451 != t421) = false := bne_eq_false_iff_eq.mpr c88
      clear c88
      replace H := Option.bind_eq_some_iff.mp H
      obtain ⟨⟨t456, t457⟩, A890, H⟩ := H
      replace H : ((impl_PackContract.f k t456 t457).bind fun bt461 => (if bt461.1 = 0 then ((impl_UnpackContract.f k bt461.2).bind fun bt466 => (if bt466.1 = 0 then ((impl_SameContract.f k bt466.2.1 bt466.2.2 t456 t457).bind fun t472 => (some t472)) else (none))) else ((spec_ContractFault.f k t456 t457).bind fun t473 => (some (t473 == bt461.1))))) = some r := H
      have A89 := Aside0.mk A890
      clear A890
      replace H := Option.bind_eq_some_iff.mp H
      obtain ⟨⟨t461, t462⟩, A900, H⟩ := H
      replace H : (if t461 = 0 then ((impl_UnpackContract.f k t462).bind fun bt466 => (if bt466.1 = 0 then ((impl_SameContract.f k bt466.2.1 bt466.2.2 t456 t457).bind fun t472 => (some t472)) else (none))) else ((spec_ContractFault.f k t456 t457).bind fun t473 => (some (t473 == t461)))) = some r := H
      have A90 := Aside0.mk A900
      clear A900
      by_cases c91 : t461 = 0
      ·rw [if_pos c91] at H
       have c91b0 : (t461 == 0) = true := beq_iff_eq.mpr c91
       have c91b1 : (t461 != 0) = false := bne_eq_false_iff_eq.mpr c91
       clear c91
       replace H := Option.bind_eq_some_iff.mp H
       obtain ⟨⟨t466, t467, t468⟩, A920, H⟩ := H
       replace H : (if t466 = 0 then ((impl_SameContract.f k t467 t468 t456 t457).bind fun t472 => (some t472)) else (none)) = some r := H
       have A92 := Aside0.mk A920
       clear A920
       by_cases c93 : t466 = 0
       ·rw [if_pos c93] at H
        have c93b0 : (t466 == 0) = true := beq_iff_eq.mpr c93
        have c93b1 : (t466 != 0) = false := bne_eq_false_iff_eq.mpr c93
        clear c93
        replace H := Option.bind_eq_some_iff.mp H
        obtain ⟨t472, A940, H⟩ := H
        replace H : (some t472) = some r := H
        have A94 := Aside0.mk A940
        clear A940
        obtain rfl := Option.some.inj H
        go_enter Try.func12, Try.ntmps12
        try go_wp2_with (first | ((with_reducible refine gate_callee (f := 53) rfl ?_); refine goesLq (some 11) rfl rfl Try.func53 (by kernel_rfl) rfl #[.slice A0 l0.length c0] rfl ?_; (with_reducible refine (laws_lwBig.calls _ _ l0 false _ ?side1 ?side2 A2.out).mono ?_); (case side1 => exact q_c (HR0.out)); (case side2 => exact HC0.out); rintro e w' ⟨rfl, ⟨nd, rfl⟩⟩; refine ⟨_, rfl, ?_⟩) | ((with_reducible refine gate_callee (f := 54) rfl ?_); refine goesLq (some 13) rfl rfl Try.func54 (by kernel_rfl) rfl #[.slice A0 l0.length c0] rfl ?_; (with_reducible refine (spec_DrawPackNumber.calls _ _ l0 t414 _ ?side1 ?side2 A4.out).mono ?_); (case side1 => exact q_c (HR0.out)); (case side2 => exact HC0.out); rintro e w95 ⟨rfl, hb⟩; refine ⟨_, rfl, ?_⟩; have n0_ := Aside0.mk (below_step bq hb); revert n0_; clear HB; intro HB; (try clear hb); (try clear hb2); (try clear hk); (try clear hi)) | ((with_reducible refine gate_callee (f := 55) rfl ?_); refine goesLq (some 15) rfl rfl Try.func55 (by kernel_rfl) rfl #[.int .i64 t414] rfl ?_; (with_reducible refine (impl_PackNumber.calls k t414 t415 _ A5.out).mono ?_); rintro e w96 ⟨v416, rfl, ho0, hb⟩; refine ⟨_, rfl, ?_⟩; have n0_ := Aside0.mk (Kd.R_lower ho0 (below_size bq)); have n1_ := Aside0.mk (below_step bq hb); revert n0_ n1_; clear HB; intro HO417 HB; (try clear hb); (try clear hb2); (try clear hk); (try clear hi); (try clear ho0)) | ((with_reducible refine gate_callee (f := 56) rfl ?_); refine goesLq (some 17) rfl rfl Try.func56 (by kernel_rfl) rfl #[.slice A0 l0.length c0] rfl ?_; (with_reducible refine (spec_DrawUnpackContract.calls k _ _ l0 t418 _ ?side1 ?side2 A6.out).mono ?_); (case side1 => exact q_c ((Kd.C_below HR0.out HB.out))); (case side2 => exact HC0.out); rintro e w97 ⟨v419, rfl, ho0, hb⟩; refine ⟨_, rfl, ?_⟩; have n0_ := Aside0.mk (Kd.R_elder' (q_r (HO417.out)) (Kd.R_base ho0) hb); have n1_ := Aside0.mk (Kd.R_lower (Kd.R_new' ho0 (Kd.R_lt (q_r (HO417.out)))) (below_size bq)); have n2_ := Aside0.mk (below_step bq hb); revert n0_ n1_ n2_; clear HO417 HB; intro HO417 HO420 HB; (try clear hb); (try clear hb2); (try clear hk); (try clear hi); (try clear ho0); obtain ⟨Ao98, co98, eo98⟩ := Kd.R_slice HO420.out; subst eo98) | ((with_reducible refine gate_callee (f := 50) rfl ?_); refine goesLq (some 19) rfl rfl Try.func50 (by kernel_rfl) rfl #[.slice Ao98 t418.length co98] rfl ?_; (with_reducible refine (impl_UnpackContract.calls k _ _ t418 t421 t422 t423 _ ?side1 ?side2 A7.out).mono ?_); (case side1 => exact q_c ((Kd.R_reads' HO420.out).2.2)); (case side2 => exact (Kd.R_reads' HO420.out).2.1); rintro e w99 ⟨v424, rfl, ho0, hb⟩; refine ⟨_, rfl, ?_⟩; have n0_ := Aside0.mk (Kd.R_below (q_r (HO417.out)) hb); have n1_ := Aside0.mk (Kd.R_below (q_r (HO420.out)) hb); have n2_ := Aside0.mk (Kd.R_lower ho0 (below_size bq)); have n3_ := Aside0.mk (below_step bq hb); revert n0_ n1_ n2_ n3_; clear HO417 HO420 HB; intro HO417 HO420 HO425 HB; (try clear hb); (try clear hb2); (try clear hk); (try clear hi); (try clear ho0)) | ((with_reducible refine gate_dst (N := 6) rfl ?_); refine q_box (N := 6) (cs := #[.int .i64 0, .int .i64 0, .slice none 0 0]) (t := 59) ?_; intro gb426 hg w100 hbox hb; have n0_ := Aside0.mk (Kd.R_below (q_r (HO417.out)) hb); have n1_ := Aside0.mk (Kd.R_below (q_r (HO420.out)) hb); have n2_ := Aside0.mk (Kd.R_below (q_r (HO425.out)) hb); have n3_ := Aside0.mk (below_step bq hb); have n4_ := Aside0.mk (hbox); have n5_ := Aside0.mk ((q_g hg bq : w.heap.size ≤ gb426)); have n6_ := Aside0.mk ((q_g hg bq : w.heap.size ≤ gb426)); revert n0_ n1_ n2_ n3_ n4_ n5_ n6_; clear HO417 HO420 HO425 HB; intro HO417 HO420 HO425 HB BK426 GW426 GE426; clear hb hbox hg; obtain ⟨hcz101_0, hcz101_1, hcz101_2, hfz101_0, hfz101_1, hfz101_2⟩ := q_3 BK426.out; obtain ⟨Ao102, co102, eo102⟩ := Kd.R_slice HO425.out; subst eo102))
        have n0_ : Aside0 (Kd.R (Kd.int .u8) 5 (((w100.setCell ⟨gb426, 0, none⟩ (.int .i64 t421)).setCell ⟨gb426, 1, none⟩ (.int .i64 t422)).setCell ⟨gb426, 2, none⟩ (.slice Ao102 t423.length co102)) w.heap.size (fun k_ => some k_ ≠ (.slice Ao98 t418.length co98 : Value).ownBlock) v416 t415) := ⟨by (with_reducible repeat (first | apply Kd.R_alloc | apply Kd.R_drewN | apply Kd.R_drew)); exact Kd.R_mono (Kd.R_far (p := ⟨gb426, 2, none⟩) (Kd.R_far (p := ⟨gb426, 1, none⟩) (Kd.R_far (p := ⟨gb426, 0, none⟩) (Kd.R_types HO417.out BK426.out (by decide)) (fun _ hk => hk.2) (.int .i64 t421)) (fun _ hk => hk.2) (.int .i64 t422)) (fun _ hk => hk.2) (.slice Ao102 t423.length co102)) (fun _ hk => hk.1.2)⟩
        have n1_ : Aside0 (Kd.R (Kd.int .u8) 5 (((w100.setCell ⟨gb426, 0, none⟩ (.int .i64 t421)).setCell ⟨gb426, 1, none⟩ (.int .i64 t422)).setCell ⟨gb426, 2, none⟩ (.slice Ao102 t423.length co102)) w.heap.size (fun k_ => some k_ ≠ (v416 : Value).ownBlock) (.slice Ao98 t418.length co98) t418) := ⟨by (with_reducible repeat (first | apply Kd.R_alloc | apply Kd.R_drewN | apply Kd.R_drew)); exact Kd.R_mono (Kd.R_far (p := ⟨gb426, 2, none⟩) (Kd.R_far (p := ⟨gb426, 1, none⟩) (Kd.R_far (p := ⟨gb426, 0, none⟩) (Kd.R_types HO420.out BK426.out (by decide)) (fun _ hk => hk.2) (.int .i64 t421)) (fun _ hk => hk.2) (.int .i64 t422)) (fun _ hk => hk.2) (.slice Ao102 t423.length co102)) (fun _ hk => hk.1.2)⟩
        have n2_ : Aside0 (Kd.R k89 89 (((w100.setCell ⟨gb426, 0, none⟩ (.int .i64 t421)).setCell ⟨gb426, 1, none⟩ (.int .i64 t422)).setCell ⟨gb426, 2, none⟩ (.slice Ao102 t423.length co102)) w.heap.size (fun _ => True) (.slice Ao102 t423.length co102) t423) := ⟨by (with_reducible repeat (first | apply Kd.R_alloc | apply Kd.R_drewN | apply Kd.R_drew)); exact Kd.R_mono (Kd.R_far (p := ⟨gb426, 2, none⟩) (Kd.R_far (p := ⟨gb426, 1, none⟩) (Kd.R_far (p := ⟨gb426, 0, none⟩) (Kd.R_types HO425.out BK426.out (by decide)) (fun _ hk => hk.2) (.int .i64 t421)) (fun _ hk => hk.2) (.int .i64 t422)) (fun _ hk => hk.2) (.slice Ao102 t423.length co102)) (fun _ hk => trivial)⟩
        have n3_ : Aside0 ((((w100.setCell ⟨gb426, 0, none⟩ (.int .i64 t421)).setCell ⟨gb426, 1, none⟩ (.int .i64 t422)).setCell ⟨gb426, 2, none⟩ (.slice Ao102 t423.length co102)).heap[gb426]? = some (.cells #[.int .i64 t421, .int .i64 t422, .slice Ao102 t423.length co102] 59 (0, 0))) := ⟨by (with_reducible repeat (first | refine blk_drewN ?_ _ | refine blk_drew ?_ | refine blk_alloc ?_ _)); refine blk_put (cs := #[.int .i64 t421, .int .i64 t422, .slice none 0 0]) ?_ 2 _ rfl; (with_reducible repeat (first | refine blk_drewN ?_ _ | refine blk_drew ?_ | refine blk_alloc ?_ _)); refine blk_put (cs := #[.int .i64 t421, .int .i64 0, .slice none 0 0]) ?_ 1 _ rfl; (with_reducible repeat (first | refine blk_drewN ?_ _ | refine blk_drew ?_ | refine blk_alloc ?_ _)); refine blk_put (cs := #[.int .i64 0, .int .i64 0, .slice none 0 0]) ?_ 0 _ rfl; (with_reducible repeat (first | refine blk_drewN ?_ _ | refine blk_drew ?_ | refine blk_alloc ?_ _)); exact BK426.out⟩
        have n4_ : Aside0 (Below w.heap.size w (((w100.setCell ⟨gb426, 0, none⟩ (.int .i64 t421)).setCell ⟨gb426, 1, none⟩ (.int .i64 t422)).setCell ⟨gb426, 2, none⟩ (.slice Ao102 t423.length co102))) := ⟨bq⟩
        (try clear HO417)
        (try clear HO420)
        (try clear HO425)
        (try clear BK426)
        (try clear HB)
        generalize (((w100.setCell ⟨gb426, 0, none⟩ (.int .i64 t421)).setCell ⟨gb426, 1, none⟩ (.int .i64 t422)).setCell ⟨gb426, 2, none⟩ (.slice Ao102 t423.length co102)) = w103 at n0_ n1_ n2_ n3_ n4_ ⊢
        have HO417 := n0_
        have HO420 := n1_
        have HO425 := n2_
        have BK426 := n3_
        have HB := n4_
        clear n0_ n1_ n2_ n3_ n4_
        have n0_ := Aside0.mk (Kd.R_drew HO417.out)
        have n1_ := Aside0.mk (Kd.R_drew HO420.out)
        have n2_ := Aside0.mk (Kd.R_drew HO425.out)
        have n3_ := Aside0.mk (blk_drew BK426.out)
        have n4_ := Aside0.mk (below_drew1 HB.out)
        clear HO417
        clear HO420
        clear HO425
        clear BK426
        clear HB
        have HO417 := n0_
        have HO420 := n1_
        have HO425 := n2_
        have BK426 := n3_
        have HB := n4_
        clear n0_ n1_ n2_ n3_ n4_
        obtain ⟨Ao105, co105, eo105⟩ := Kd.R_slice HO417.out
        (first | subst eo105 | (injection eo105 with f1_ f2_ f3_; have f4_ := f1_.symm; have f5_ := f3_.symm; clear f1_ f2_ f3_; subst f4_; subst f5_))
        refine start_ (n := 38) (S := fun w' => w'.cell? ⟨gb426, 0, none⟩ = some (.int .i64 t421) ∧ w'.cell? ⟨gb426, 1, none⟩ = some (.int .i64 t422) ∧ w'.cell? ⟨gb426, 2, none⟩ = some (.slice Ao102 t423.length co102)) (ds := []) #[false, false, false, false, false, false, false, false, false, false, false, false, false, false, false, false, false, false, false, false, false, false, false, false, false, false, false, false, false, false, false, false, false, false, false, false, false, false] (by kernel_rfl) rfl rfl ⟨q_z BK426.out 0, q_z BK426.out 1, q_z BK426.out 2⟩ (fun hHeld => ?_); refine with_tabW laws_FnBytes.tab7 laws_FnBytes.bits7 (fun HT_ HW_ => ?_)
        generalize w103.drew = w104 at HO417 HO420 HO425 BK426 HB hHeld ⊢
        refine q_P12 0 (some 20) #[true, false, false, false, false, false, false, false, false, false, false, false, false, false, false, false, false, false, false, false, false, false, false, false, false, false, false, false, false, false, false, false, false, false, false, false, false, false] HT_.out ?_
        refine q_P12 1 (some 21) #[true, true, false, false, false, false, false, false, false, false, false, false, false, false, false, false, false, false, false, false, false, false, false, false, false, false, false, false, false, false, false, false, false, false, false, false, false, false] HT_.out ?_
        refine q_P12 2 (some 22) #[true, true, true, false, false, false, false, false, false, false, false, false, false, false, false, false, false, false, false, false, false, false, false, false, false, false, false, false, false, false, false, false, false, false, false, false, false, false] HT_.out ?_
        refine q_P12 3 (some 23) #[true, true, true, true, false, false, false, false, false, false, false, false, false, false, false, false, false, false, false, false, false, false, false, false, false, false, false, false, false, false, false, false, false, false, false, false, false, false] HT_.out ?_
        refine q_P12 4 (some 24) #[true, true, true, true, true, false, false, false, false, false, false, false, false, false, false, false, false, false, false, false, false, false, false, false, false, false, false, false, false, false, false, false, false, false, false, false, false, false] HT_.out ?_
        refine q_P12 7 (some 27) #[true, true, true, true, true, false, false, true, false, false, false, false, false, false, false, false, false, false, false, false, false, false, false, false, false, false, false, false, false, false, false, false, false, false, false, false, false, false] HT_.out ?_
        refine one_ (i := 5) (N := some 25) #[true, true, true, true, true, true, false, true, false, false, false, false, false, false, false, false, false, false, false, false, false, false, false, false, false, false, false, false, false, false, false, false, false, false, false, false, false, false] rfl rfl (one_of HT_.out (by kernel_rfl)) (by decide) (fun K hK => ?_)
        refine goes_ Try.func57 (by kernel_rfl) rfl #[.slice Ao105 t415.length co105] (by rfl) rfl rfl (by (try simp only [List.map_toArray, List.map_cons, List.map_nil]); first | done | rfl | (simp only [List.length_drop, List.length_take]; rfl)) ?_
        with_reducible refine (impl_UnpackNumber.calls k _ _ t415 t427 t428 _ ?side1 ?side2 A9.out).mono ?_
        (case side1 => exact q_c ((Kd.R_reads' HO417.out).2.2))
        (case side2 => exact (Kd.R_reads' HO417.out).2.1)
        rintro e w106 ⟨rfl, hb⟩
        refine ⟨_, rfl, ?_⟩
        have n0_ := Aside0.mk (Kd.R_below (q_r (HO417.out)) hb)
        have n1_ := Aside0.mk (Kd.R_below (q_r (HO420.out)) hb)
        have n2_ := Aside0.mk (Kd.R_below (q_r (HO425.out)) hb)
        have n3_ := Aside0.mk (blk_below (q_b BK426.out) hb)
        have n4_ := Aside0.mk (below_step bq hb)
        clear HO417
        clear HO420
        clear HO425
        clear BK426
        clear HB
        have HO417 := n0_
        have HO420 := n1_
        have HO425 := n2_
        have BK426 := n3_
        have HB := n4_
        clear n0_ n1_ n2_ n3_ n4_
        (try clear hb)
        (try clear hb2)
        (try clear hk)
        (try clear hi)
        refine hK.out _ _ ⟨q_z BK426.out 0, q_z BK426.out 1, q_z BK426.out 2⟩ (fun hHeld => ?_)
        clear hK K
        refine norm_ (a' := ?_) ?_ ?_
        rotate_left
        ·show Act.put _ (some 25) _ = _
         simp only [Act.put, List.setIfInBounds_toArray, List.set_cons_zero, List.set_cons_succ, i64_w, i32_w]
         rfl
        refine q_P12 6 (some 26) #[true, true, true, true, true, true, true, true, false, false, false, false, false, false, false, false, false, false, false, false, false, false, false, false, false, false, false, false, false, false, false, false, false, false, false, false, false, false] HT_.out ?_
        refine q_P12 8 (some 28) #[true, true, true, true, true, true, true, true, true, false, false, false, false, false, false, false, false, false, false, false, false, false, false, false, false, false, false, false, false, false, false, false, false, false, false, false, false, false] HT_.out ?_
        refine q_P12 9 (some 29) #[true, true, true, true, true, true, true, true, true, true, false, false, false, false, false, false, false, false, false, false, false, false, false, false, false, false, false, false, false, false, false, false, false, false, false, false, false, false] HT_.out ?_
        refine q_P12 10 (some 30) #[true, true, true, true, true, true, true, true, true, true, true, false, false, false, false, false, false, false, false, false, false, false, false, false, false, false, false, false, false, false, false, false, false, false, false, false, false, false] HT_.out ?_
        refine q_P12 11 (some 31) #[true, true, true, true, true, true, true, true, true, true, true, true, false, false, false, false, false, false, false, false, false, false, false, false, false, false, false, false, false, false, false, false, false, false, false, false, false, false] HT_.out ?_
        refine q_t 12 (some 32) #[true, true, true, true, true, true, true, true, true, true, true, true, true, false, false, false, false, false, false, false, false, false, false, false, false, false, false, false, false, false, false, false, false, false, false, false, false, false] HT_.out HW_.out hHeld ?_
        refine q_P12 13 (some 33) #[true, true, true, true, true, true, true, true, true, true, true, true, true, true, false, false, false, false, false, false, false, false, false, false, false, false, false, false, false, false, false, false, false, false, false, false, false, false] HT_.out ?_
        refine q_P12 14 (some 34) #[true, true, true, true, true, true, true, true, true, true, true, true, true, true, true, false, false, false, false, false, false, false, false, false, false, false, false, false, false, false, false, false, false, false, false, false, false, false] HT_.out ?_
        refine pure_ (i := 15) (N := some 35) (v := undef) (a' := ?_) #[true, true, true, true, true, true, true, true, true, true, true, true, true, true, true, true, false, false, false, false, false, false, false, false, false, false, false, false, false, false, false, false, false, false, false, false, false, false] rfl rfl (any_of HT_.out (by kernel_rfl)) (fun _ _ _ h => h) (Or.inr ⟨by rfl, rfl⟩) ?_ ?_
        rotate_left
        ·simp only [Act.put, List.setIfInBounds_toArray, List.set_cons_zero, List.set_cons_succ, i64_w, i32_w]
         rfl
        refine pure_ (i := 16) (N := some 36) (v := undef) (a' := ?_) #[true, true, true, true, true, true, true, true, true, true, true, true, true, true, true, true, true, false, false, false, false, false, false, false, false, false, false, false, false, false, false, false, false, false, false, false, false, false] rfl rfl (any_of HT_.out (by kernel_rfl)) (fun _ _ _ h => h) (Or.inr ⟨by rfl, rfl⟩) ?_ ?_
        rotate_left
        ·simp only [Act.put, List.setIfInBounds_toArray, List.set_cons_zero, List.set_cons_succ, i64_w, i32_w]
         rfl
        refine pure_ (i := 17) (N := some 37) (v := undef) (a' := ?_) #[true, true, true, true, true, true, true, true, true, true, true, true, true, true, true, true, true, true, false, false, false, false, false, false, false, false, false, false, false, false, false, false, false, false, false, false, false, false] rfl rfl (any_of HT_.out (by kernel_rfl)) (fun _ _ _ h => h) (Or.inr ⟨by rfl, rfl⟩) ?_ ?_
        rotate_left
        ·simp only [Act.put, List.setIfInBounds_toArray, List.set_cons_zero, List.set_cons_succ, i64_w, i32_w]
         rfl
        refine pure_ (i := 18) (N := some 38) (v := undef) (a' := ?_) #[true, true, true, true, true, true, true, true, true, true, true, true, true, true, true, true, true, true, true, false, false, false, false, false, false, false, false, false, false, false, false, false, false, false, false, false, false, false] rfl rfl (any_of HT_.out (by kernel_rfl)) (fun _ _ _ h => h) (Or.inr ⟨by rfl, rfl⟩) ?_ ?_
        rotate_left
        ·simp only [Act.put, List.setIfInBounds_toArray, List.set_cons_zero, List.set_cons_succ, i64_w, i32_w]
         rfl
        refine pure_ (i := 19) (N := some 39) (v := undef) (a' := ?_) #[true, true, true, true, true, true, true, true, true, true, true, true, true, true, true, true, true, true, true, true, false, false, false, false, false, false, false, false, false, false, false, false, false, false, false, false, false, false] rfl rfl (any_of HT_.out (by kernel_rfl)) (fun _ _ _ h => h) (Or.inr ⟨by rfl, rfl⟩) ?_ ?_
        rotate_left
        ·simp only [Act.put, List.setIfInBounds_toArray, List.set_cons_zero, List.set_cons_succ, i64_w, i32_w]
         rfl
        refine pure_ (i := 20) (N := some 40) (v := undef) (a' := ?_) #[true, true, true, true, true, true, true, true, true, true, true, true, true, true, true, true, true, true, true, true, true, false, false, false, false, false, false, false, false, false, false, false, false, false, false, false, false, false] rfl rfl (any_of HT_.out (by kernel_rfl)) (fun _ _ _ h => h) (Or.inr ⟨by rfl, rfl⟩) ?_ ?_
        rotate_left
        ·simp only [Act.put, List.setIfInBounds_toArray, List.set_cons_zero, List.set_cons_succ, i64_w, i32_w]
         rfl
        refine pure_ (i := 21) (N := some 41) (v := undef) (a' := ?_) #[true, true, true, true, true, true, true, true, true, true, true, true, true, true, true, true, true, true, true, true, true, true, false, false, false, false, false, false, false, false, false, false, false, false, false, false, false, false] rfl rfl (any_of HT_.out (by kernel_rfl)) (fun _ _ _ h => h) (Or.inr ⟨by rfl, rfl⟩) ?_ ?_
        rotate_left
        ·simp only [Act.put, List.setIfInBounds_toArray, List.set_cons_zero, List.set_cons_succ, i64_w, i32_w]
         rfl
        refine pure_ (i := 22) (N := some 42) (v := undef) (a' := ?_) #[true, true, true, true, true, true, true, true, true, true, true, true, true, true, true, true, true, true, true, true, true, true, true, false, false, false, false, false, false, false, false, false, false, false, false, false, false, false] rfl rfl (any_of HT_.out (by kernel_rfl)) (fun _ _ _ h => h) (Or.inr ⟨by rfl, rfl⟩) ?_ ?_
        rotate_left
        ·simp only [Act.put, List.setIfInBounds_toArray, List.set_cons_zero, List.set_cons_succ, i64_w, i32_w]
         rfl
        refine q_P12 23 (some 43) #[true, true, true, true, true, true, true, true, true, true, true, true, true, true, true, true, true, true, true, true, true, true, true, true, false, false, false, false, false, false, false, false, false, false, false, false, false, false] HT_.out ?_
        refine q_P12 24 (some 44) #[true, true, true, true, true, true, true, true, true, true, true, true, true, true, true, true, true, true, true, true, true, true, true, true, true, false, false, false, false, false, false, false, false, false, false, false, false, false] HT_.out ?_
        refine q_P12 25 (some 45) #[true, true, true, true, true, true, true, true, true, true, true, true, true, true, true, true, true, true, true, true, true, true, true, true, true, true, false, false, false, false, false, false, false, false, false, false, false, false] HT_.out ?_
        refine q_P12 26 (some 46) #[true, true, true, true, true, true, true, true, true, true, true, true, true, true, true, true, true, true, true, true, true, true, true, true, true, true, true, false, false, false, false, false, false, false, false, false, false, false] HT_.out ?_
        refine q_t 27 (some 47) #[true, true, true, true, true, true, true, true, true, true, true, true, true, true, true, true, true, true, true, true, true, true, true, true, true, true, true, true, false, false, false, false, false, false, false, false, false, false] HT_.out HW_.out hHeld ?_
        refine q_P12 28 (some 48) #[true, true, true, true, true, true, true, true, true, true, true, true, true, true, true, true, true, true, true, true, true, true, true, true, true, true, true, true, true, false, false, false, false, false, false, false, false, false] HT_.out ?_
        refine q_P12 29 (some 49) #[true, true, true, true, true, true, true, true, true, true, true, true, true, true, true, true, true, true, true, true, true, true, true, true, true, true, true, true, true, true, false, false, false, false, false, false, false, false] HT_.out ?_
        refine q_P12 30 (some 50) #[true, true, true, true, true, true, true, true, true, true, true, true, true, true, true, true, true, true, true, true, true, true, true, true, true, true, true, true, true, true, true, false, false, false, false, false, false, false] HT_.out ?_
        refine q_P12 33 (some 53) #[true, true, true, true, true, true, true, true, true, true, true, true, true, true, true, true, true, true, true, true, true, true, true, true, true, true, true, true, true, true, true, false, false, true, false, false, false, false] HT_.out ?_
        refine q_t 34 (some 54) #[true, true, true, true, true, true, true, true, true, true, true, true, true, true, true, true, true, true, true, true, true, true, true, true, true, true, true, true, true, true, true, false, false, true, true, false, false, false] HT_.out HW_.out hHeld ?_
        refine one_ (i := 31) (N := some 51) #[true, true, true, true, true, true, true, true, true, true, true, true, true, true, true, true, true, true, true, true, true, true, true, true, true, true, true, true, true, true, true, true, false, true, true, false, false, false] rfl rfl (one_of HT_.out (by kernel_rfl)) (by decide) (fun K hK => ?_)
        refine goes_ Try.func48 (by kernel_rfl) rfl #[.slice Ao98 t418.length co98] (by rfl) rfl rfl (by (try simp only [List.map_toArray, List.map_cons, List.map_nil]); first | done | rfl | (simp only [List.length_drop, List.length_take]; rfl)) ?_
        with_reducible refine (spec_UnpackContract.calls k _ _ t418 t451 t452 t453 _ ?side1 ?side2 A87.out).mono ?_
        (case side1 => exact q_c ((Kd.R_reads' HO420.out).2.2))
        (case side2 => exact (Kd.R_reads' HO420.out).2.1)
        rintro e w107 ⟨v454, rfl, ho0, hb⟩
        refine ⟨_, rfl, ?_⟩
        have n0_ := Aside0.mk (Kd.R_below (q_r (HO417.out)) hb)
        have n1_ := Aside0.mk (Kd.R_below (q_r (HO420.out)) hb)
        have n2_ := Aside0.mk (Kd.R_elder' (q_r (HO425.out)) (Kd.R_base ho0) hb)
        have n3_ := Aside0.mk (Kd.R_lower (Kd.R_new' ho0 (Kd.R_lt (q_r (HO425.out)))) (below_size bq))
        have n4_ := Aside0.mk (blk_below (q_b BK426.out) hb)
        have n5_ := Aside0.mk (below_step bq hb)
        clear HO417
        clear HO420
        clear HO425
        clear BK426
        clear HB
        have HO417 := n0_
        have HO420 := n1_
        have HO425 := n2_
        have HO455 := n3_
        have BK426 := n4_
        have HB := n5_
        clear n0_ n1_ n2_ n3_ n4_ n5_
        (try clear hb)
        (try clear hb2)
        (try clear hk)
        (try clear hi)
        (try clear ho0)
        refine hK.out _ _ ⟨q_z BK426.out 0, q_z BK426.out 1, q_z BK426.out 2⟩ (fun hHeld => ?_)
        clear hK K
        refine norm_ (a' := ?_) ?_ ?_
        rotate_left
        ·show Act.put _ (some 51) _ = _
         simp only [Act.put, List.setIfInBounds_toArray, List.set_cons_zero, List.set_cons_succ, i64_w, i32_w]
         rfl
        refine q_P12 32 (some 52) #[true, true, true, true, true, true, true, true, true, true, true, true, true, true, true, true, true, true, true, true, true, true, true, true, true, true, true, true, true, true, true, true, true, true, true, false, false, false] HT_.out ?_
        refine q_P12 35 (some 55) #[true, true, true, true, true, true, true, true, true, true, true, true, true, true, true, true, true, true, true, true, true, true, true, true, true, true, true, true, true, true, true, true, true, true, true, true, false, false] HT_.out ?_
        refine q_P12 36 (some 56) #[true, true, true, true, true, true, true, true, true, true, true, true, true, true, true, true, true, true, true, true, true, true, true, true, true, true, true, true, true, true, true, true, true, true, true, true, true, false] HT_.out ?_
        refine q_P12 37 (some 57) #[true, true, true, true, true, true, true, true, true, true, true, true, true, true, true, true, true, true, true, true, true, true, true, true, true, true, true, true, true, true, true, true, true, true, true, true, true, true] HT_.out ?_
        refine done_ (done_of HT_.out (by kernel_rfl)) ?_
        try go_wp2_with (first | ((with_reducible refine gate_callee (f := 58) rfl ?_); refine goesLq (some 59) rfl rfl Try.func58 (by kernel_rfl) rfl #[.slice A0 l0.length c0] rfl ?_; (with_reducible refine (spec_DrawPackContract.calls k _ _ l0 t456 t457 _ ?side1 ?side2 A89.out).mono ?_); (case side1 => exact q_c ((Kd.C_below HR0.out HB.out))); (case side2 => exact HC0.out); rintro e w108 ⟨v458, rfl, ho0, hb⟩; refine ⟨_, rfl, ?_⟩; have n0_ := Aside0.mk (Kd.R_below (q_r (HO417.out)) hb); have n1_ := Aside0.mk (Kd.R_below (q_r (HO420.out)) hb); have n2_ := Aside0.mk (Kd.R_elder' (q_r (HO425.out)) (Kd.R_base ho0) hb); have n3_ := Aside0.mk (Kd.R_elder' (q_r (HO455.out)) (Kd.R_base ho0) hb); have n4_ := Aside0.mk (Kd.R_lower (Kd.R_new' (Kd.R_new' ho0 (Kd.R_lt (q_r (HO425.out)))) (Kd.R_lt (q_r (HO455.out)))) (below_size bq)); have n5_ := Aside0.mk (blk_below (q_b BK426.out) hb); have n6_ := Aside0.mk (below_step bq hb); revert n0_ n1_ n2_ n3_ n4_ n5_ n6_; clear HO417 HO420 HO425 HO455 BK426 HB; intro HO417 HO420 HO425 HO455 HO459 BK426 HB; (try clear hb); (try clear hb2); (try clear hk); (try clear hi); (try clear ho0)) | ((with_reducible refine gate_dst (N := 7) rfl ?_); refine q_box (N := 7) (cs := #[.int .i64 0, .slice none 0 0]) (t := 36) ?_; intro gb460 hg w109 hbox hb; have n0_ := Aside0.mk (Kd.R_below (q_r (HO417.out)) hb); have n1_ := Aside0.mk (Kd.R_below (q_r (HO420.out)) hb); have n2_ := Aside0.mk (Kd.R_below (q_r (HO425.out)) hb); have n3_ := Aside0.mk (Kd.R_below (q_r (HO455.out)) hb); have n4_ := Aside0.mk (Kd.R_below (q_r (HO459.out)) hb); have n5_ := Aside0.mk (blk_below (q_b BK426.out) hb); have n6_ := Aside0.mk (below_step bq hb); have n7_ := Aside0.mk (hbox); have n8_ := Aside0.mk ((q_g hg bq : w.heap.size ≤ gb460)); have n9_ := Aside0.mk ((q_g hg bq : w.heap.size ≤ gb460)); have n10_ := Aside0.mk ((q_n hg (q_b BK426.out) : gb426 ≠ gb460)); have n11_ := Aside0.mk ((q_m hg (q_b BK426.out) : gb460 ≠ gb426)); revert n0_ n1_ n2_ n3_ n4_ n5_ n6_ n7_ n8_ n9_ n10_ n11_; clear HO417 HO420 HO425 HO455 HO459 BK426 HB; intro HO417 HO420 HO425 HO455 HO459 BK426 HB BK460 GW460 GE460 NB426_460 NB460_426; clear hb hbox hg; have hnb110 := NB460_426.out; have hnc110 := NB426_460.out; obtain ⟨hcz111_0, hcz111_1, hfz111_0, hfz111_1⟩ := q_2 BK460.out; obtain ⟨Ao112, co112, eo112⟩ := Kd.R_slice HO459.out; subst eo112) | ((with_reducible refine gate_callee (f := 47) rfl ?_); refine goesLq (some 61) rfl rfl Try.func47 (by kernel_rfl) rfl #[.agg #[.int .i64 t456, .slice Ao112 t457.length co112]] rfl ?_; (with_reducible refine (impl_PackContract.calls k t456 _ _ t457 t461 t462 _ ?side1 ?side2 A90.out).mono ?_); (case side1 => refine (Kd.R_reads' (e := 89) (base := w.heap.size) (ok := fun k_ => ((True ∧ some k_ ≠ (.slice Ao102 t423.length co102 : Value).ownBlock) ∧ some k_ ≠ (v454 : Value).ownBlock)) (n := t457.length) (c := co112) ?_).2.2; exact (by (with_reducible repeat (first | apply Kd.R_alloc | apply Kd.R_drewN | apply Kd.R_drew)); exact (Kd.R_mono (Kd.R_far (p := ⟨gb460, 1, none⟩) (Kd.R_far (p := ⟨gb460, 0, none⟩) (Kd.R_types HO459.out BK460.out (by decide)) (fun _ hk => hk.2) (.int .i64 t456)) (fun _ hk => hk.2) (.slice Ao112 t457.length co112)) (fun _ h_ => h_.1)))); (case side2 => exact (Kd.R_reads' HO459.out).2.1); rintro e w113 ⟨v463, rfl, ho0, hb⟩; refine ⟨_, rfl, ?_⟩; have n0_ := Aside0.mk (Kd.R_elder' (by (with_reducible repeat (first | apply Kd.R_alloc | apply Kd.R_drewN | apply Kd.R_drew)); exact (Kd.R_mono (Kd.R_far (p := ⟨gb460, 1, none⟩) (Kd.R_far (p := ⟨gb460, 0, none⟩) (Kd.R_types HO417.out BK460.out (by decide)) (fun _ hk => hk.2) (.int .i64 t456)) (fun _ hk => hk.2) (.slice Ao112 t457.length co112)) (fun _ h_ => h_.1))) (Kd.R_base ho0) hb); have n1_ := Aside0.mk (Kd.R_elder' (by (with_reducible repeat (first | apply Kd.R_alloc | apply Kd.R_drewN | apply Kd.R_drew)); exact (Kd.R_mono (Kd.R_far (p := ⟨gb460, 1, none⟩) (Kd.R_far (p := ⟨gb460, 0, none⟩) (Kd.R_types HO420.out BK460.out (by decide)) (fun _ hk => hk.2) (.int .i64 t456)) (fun _ hk => hk.2) (.slice Ao112 t457.length co112)) (fun _ h_ => h_.1))) (Kd.R_base ho0) hb); have n2_ := Aside0.mk (Kd.R_below (by (with_reducible repeat (first | apply Kd.R_alloc | apply Kd.R_drewN | apply Kd.R_drew)); exact (Kd.R_mono (Kd.R_far (p := ⟨gb460, 1, none⟩) (Kd.R_far (p := ⟨gb460, 0, none⟩) (Kd.R_types HO425.out BK460.out (by decide)) (fun _ hk => hk.2) (.int .i64 t456)) (fun _ hk => hk.2) (.slice Ao112 t457.length co112)) (fun _ h_ => h_.1))) hb); have n3_ := Aside0.mk (Kd.R_below (by (with_reducible repeat (first | apply Kd.R_alloc | apply Kd.R_drewN | apply Kd.R_drew)); exact (Kd.R_mono (Kd.R_far (p := ⟨gb460, 1, none⟩) (Kd.R_far (p := ⟨gb460, 0, none⟩) (Kd.R_types HO455.out BK460.out (by decide)) (fun _ hk => hk.2) (.int .i64 t456)) (fun _ hk => hk.2) (.slice Ao112 t457.length co112)) (fun _ h_ => h_.1))) hb); have n4_ := Aside0.mk (Kd.R_below (by (with_reducible repeat (first | apply Kd.R_alloc | apply Kd.R_drewN | apply Kd.R_drew)); exact (Kd.R_mono (Kd.R_far (p := ⟨gb460, 1, none⟩) (Kd.R_far (p := ⟨gb460, 0, none⟩) (Kd.R_types HO459.out BK460.out (by decide)) (fun _ hk => hk.2) (.int .i64 t456)) (fun _ hk => hk.2) (.slice Ao112 t457.length co112)) (fun _ h_ => h_.1))) hb); have n5_ := Aside0.mk (Kd.R_lower (Kd.R_new' (Kd.R_new' ho0 (Kd.R_lt (by (with_reducible repeat (first | apply Kd.R_alloc | apply Kd.R_drewN | apply Kd.R_drew)); exact (Kd.R_mono (Kd.R_far (p := ⟨gb460, 1, none⟩) (Kd.R_far (p := ⟨gb460, 0, none⟩) (Kd.R_types HO417.out BK460.out (by decide)) (fun _ hk => hk.2) (.int .i64 t456)) (fun _ hk => hk.2) (.slice Ao112 t457.length co112)) (fun _ h_ => h_.1))))) (Kd.R_lt (by (with_reducible repeat (first | apply Kd.R_alloc | apply Kd.R_drewN | apply Kd.R_drew)); exact (Kd.R_mono (Kd.R_far (p := ⟨gb460, 1, none⟩) (Kd.R_far (p := ⟨gb460, 0, none⟩) (Kd.R_types HO420.out BK460.out (by decide)) (fun _ hk => hk.2) (.int .i64 t456)) (fun _ hk => hk.2) (.slice Ao112 t457.length co112)) (fun _ h_ => h_.1))))) (below_size bq)); have n6_ := Aside0.mk (blk_below (g := gb426) (o := .cells #[.int .i64 t421, .int .i64 t422, .slice Ao102 t423.length co102] 59 (0, 0)) (by (with_reducible repeat (first | refine blk_drewN ?_ _ | refine blk_drew ?_ | refine blk_alloc ?_ _)); refine blk_far ?_ NB426_460.out _; (with_reducible repeat (first | refine blk_drewN ?_ _ | refine blk_drew ?_ | refine blk_alloc ?_ _)); refine blk_far ?_ NB426_460.out _; (with_reducible repeat (first | refine blk_drewN ?_ _ | refine blk_drew ?_ | refine blk_alloc ?_ _)); exact BK426.out) hb); have n7_ := Aside0.mk (blk_below (g := gb460) (o := .cells #[.int .i64 t456, .slice Ao112 t457.length co112] 36 (0, 0)) (by (with_reducible repeat (first | refine blk_drewN ?_ _ | refine blk_drew ?_ | refine blk_alloc ?_ _)); refine blk_put (cs := #[.int .i64 t456, .slice none 0 0]) ?_ 1 _ rfl; (with_reducible repeat (first | refine blk_drewN ?_ _ | refine blk_drew ?_ | refine blk_alloc ?_ _)); refine blk_put (cs := #[.int .i64 0, .slice none 0 0]) ?_ 0 _ rfl; (with_reducible repeat (first | refine blk_drewN ?_ _ | refine blk_drew ?_ | refine blk_alloc ?_ _)); exact BK460.out) hb); have n8_ := Aside0.mk (below_step bq hb); revert n0_ n1_ n2_ n3_ n4_ n5_ n6_ n7_ n8_; clear HO417 HO420 HO425 HO455 HO459 BK426 BK460 HB; intro HO417 HO420 HO425 HO455 HO459 HO464 BK426 BK460 HB; (try clear hb); (try clear hb2); (try clear hk); (try clear hi); (try clear ho0)) | ((with_reducible refine gate_dst (N := 8) rfl ?_); refine q_box (N := 8) (cs := #[.int .i64 0, .slice none 0 0]) (t := 24) ?_; intro gb465 hg w114 hbox hb; have n0_ := Aside0.mk (Kd.R_below (q_r (HO417.out)) hb); have n1_ := Aside0.mk (Kd.R_below (q_r (HO420.out)) hb); have n2_ := Aside0.mk (Kd.R_below (q_r (HO425.out)) hb); have n3_ := Aside0.mk (Kd.R_below (q_r (HO455.out)) hb); have n4_ := Aside0.mk (Kd.R_below (q_r (HO459.out)) hb); have n5_ := Aside0.mk (Kd.R_below (q_r (HO464.out)) hb); have n6_ := Aside0.mk (blk_below (q_b BK426.out) hb); have n7_ := Aside0.mk (blk_below (q_b BK460.out) hb); have n8_ := Aside0.mk (below_step bq hb); have n9_ := Aside0.mk (hbox); have n10_ := Aside0.mk ((q_g hg bq : w.heap.size ≤ gb465)); have n11_ := Aside0.mk ((q_g hg bq : w.heap.size ≤ gb465)); have n12_ := Aside0.mk ((q_n hg (q_b BK426.out) : gb426 ≠ gb465)); have n13_ := Aside0.mk ((q_m hg (q_b BK426.out) : gb465 ≠ gb426)); have n14_ := Aside0.mk ((q_n hg (q_b BK460.out) : gb460 ≠ gb465)); have n15_ := Aside0.mk ((q_m hg (q_b BK460.out) : gb465 ≠ gb460)); revert n0_ n1_ n2_ n3_ n4_ n5_ n6_ n7_ n8_ n9_ n10_ n11_ n12_ n13_ n14_ n15_; clear HO417 HO420 HO425 HO455 HO459 HO464 BK426 BK460 HB; intro HO417 HO420 HO425 HO455 HO459 HO464 BK426 BK460 HB BK465 GW465 GE465 NB426_465 NB465_426 NB460_465 NB465_460; clear hb hbox hg; have hnb115 := NB465_426.out; have hnc115 := NB426_465.out; have hnb116 := NB465_460.out; have hnc116 := NB460_465.out; obtain ⟨hcz117_0, hcz117_1, hfz117_0, hfz117_1⟩ := q_2 BK465.out; obtain ⟨Ao118, co118, eo118⟩ := Kd.R_slice HO464.out; subst eo118) | ((with_reducible refine gate_callee (f := 50) rfl ?_); refine goesLq (some 72) rfl rfl Try.func50 (by kernel_rfl) rfl #[.slice Ao118 t462.length co118] rfl ?_; (with_reducible refine (impl_UnpackContract.calls k _ _ t462 t466 t467 t468 _ ?side1 ?side2 A92.out).mono ?_); (case side1 => refine (Kd.R_reads' (e := 5) (base := w.heap.size) (ok := fun k_ => ((True ∧ some k_ ≠ (.slice Ao105 t415.length co105 : Value).ownBlock) ∧ some k_ ≠ (.slice Ao98 t418.length co98 : Value).ownBlock)) (n := t462.length) (c := co118) ?_).2.2; exact (by (with_reducible repeat (first | apply Kd.R_alloc | apply Kd.R_drewN | apply Kd.R_drew)); exact (Kd.R_mono (Kd.R_far (p := ⟨gb465, 1, none⟩) (Kd.R_far (p := ⟨gb465, 0, none⟩) (Kd.R_types HO464.out BK465.out (by decide)) (fun _ hk => hk.2) (.int .i64 t461)) (fun _ hk => hk.2) (.slice Ao118 t462.length co118)) (fun _ h_ => h_.1)))); (case side2 => exact (Kd.R_reads' HO464.out).2.1); rintro e w119 ⟨v469, rfl, ho0, hb⟩; refine ⟨_, rfl, ?_⟩; have n0_ := Aside0.mk (Kd.R_below (by (with_reducible repeat (first | apply Kd.R_alloc | apply Kd.R_drewN | apply Kd.R_drew)); exact (Kd.R_mono (Kd.R_far (p := ⟨gb465, 1, none⟩) (Kd.R_far (p := ⟨gb465, 0, none⟩) (Kd.R_types HO417.out BK465.out (by decide)) (fun _ hk => hk.2) (.int .i64 t461)) (fun _ hk => hk.2) (.slice Ao118 t462.length co118)) (fun _ h_ => h_.1))) hb); have n1_ := Aside0.mk (Kd.R_below (by (with_reducible repeat (first | apply Kd.R_alloc | apply Kd.R_drewN | apply Kd.R_drew)); exact (Kd.R_mono (Kd.R_far (p := ⟨gb465, 1, none⟩) (Kd.R_far (p := ⟨gb465, 0, none⟩) (Kd.R_types HO420.out BK465.out (by decide)) (fun _ hk => hk.2) (.int .i64 t461)) (fun _ hk => hk.2) (.slice Ao118 t462.length co118)) (fun _ h_ => h_.1))) hb); have n2_ := Aside0.mk (Kd.R_elder' (by (with_reducible repeat (first | apply Kd.R_alloc | apply Kd.R_drewN | apply Kd.R_drew)); exact (Kd.R_mono (Kd.R_far (p := ⟨gb465, 1, none⟩) (Kd.R_far (p := ⟨gb465, 0, none⟩) (Kd.R_types HO425.out BK465.out (by decide)) (fun _ hk => hk.2) (.int .i64 t461)) (fun _ hk => hk.2) (.slice Ao118 t462.length co118)) (fun _ h_ => h_.1))) (Kd.R_base ho0) hb); have n3_ := Aside0.mk (Kd.R_elder' (by (with_reducible repeat (first | apply Kd.R_alloc | apply Kd.R_drewN | apply Kd.R_drew)); exact (Kd.R_mono (Kd.R_far (p := ⟨gb465, 1, none⟩) (Kd.R_far (p := ⟨gb465, 0, none⟩) (Kd.R_types HO455.out BK465.out (by decide)) (fun _ hk => hk.2) (.int .i64 t461)) (fun _ hk => hk.2) (.slice Ao118 t462.length co118)) (fun _ h_ => h_.1))) (Kd.R_base ho0) hb); have n4_ := Aside0.mk (Kd.R_elder' (by (with_reducible repeat (first | apply Kd.R_alloc | apply Kd.R_drewN | apply Kd.R_drew)); exact (Kd.R_mono (Kd.R_far (p := ⟨gb465, 1, none⟩) (Kd.R_far (p := ⟨gb465, 0, none⟩) (Kd.R_types HO459.out BK465.out (by decide)) (fun _ hk => hk.2) (.int .i64 t461)) (fun _ hk => hk.2) (.slice Ao118 t462.length co118)) (fun _ h_ => h_.1))) (Kd.R_base ho0) hb); have n5_ := Aside0.mk (Kd.R_below (by (with_reducible repeat (first | apply Kd.R_alloc | apply Kd.R_drewN | apply Kd.R_drew)); exact (Kd.R_mono (Kd.R_far (p := ⟨gb465, 1, none⟩) (Kd.R_far (p := ⟨gb465, 0, none⟩) (Kd.R_types HO464.out BK465.out (by decide)) (fun _ hk => hk.2) (.int .i64 t461)) (fun _ hk => hk.2) (.slice Ao118 t462.length co118)) (fun _ h_ => h_.1))) hb); have n6_ := Aside0.mk (Kd.R_lower (Kd.R_new' (Kd.R_new' (Kd.R_new' ho0 (Kd.R_lt (by (with_reducible repeat (first | apply Kd.R_alloc | apply Kd.R_drewN | apply Kd.R_drew)); exact (Kd.R_mono (Kd.R_far (p := ⟨gb465, 1, none⟩) (Kd.R_far (p := ⟨gb465, 0, none⟩) (Kd.R_types HO425.out BK465.out (by decide)) (fun _ hk => hk.2) (.int .i64 t461)) (fun _ hk => hk.2) (.slice Ao118 t462.length co118)) (fun _ h_ => h_.1))))) (Kd.R_lt (by (with_reducible repeat (first | apply Kd.R_alloc | apply Kd.R_drewN | apply Kd.R_drew)); exact (Kd.R_mono (Kd.R_far (p := ⟨gb465, 1, none⟩) (Kd.R_far (p := ⟨gb465, 0, none⟩) (Kd.R_types HO455.out BK465.out (by decide)) (fun _ hk => hk.2) (.int .i64 t461)) (fun _ hk => hk.2) (.slice Ao118 t462.length co118)) (fun _ h_ => h_.1))))) (Kd.R_lt (by (with_reducible repeat (first | apply Kd.R_alloc | apply Kd.R_drewN | apply Kd.R_drew)); exact (Kd.R_mono (Kd.R_far (p := ⟨gb465, 1, none⟩) (Kd.R_far (p := ⟨gb465, 0, none⟩) (Kd.R_types HO459.out BK465.out (by decide)) (fun _ hk => hk.2) (.int .i64 t461)) (fun _ hk => hk.2) (.slice Ao118 t462.length co118)) (fun _ h_ => h_.1))))) (below_size bq)); have n7_ := Aside0.mk (blk_below (g := gb426) (o := .cells #[.int .i64 t421, .int .i64 t422, .slice Ao102 t423.length co102] 59 (0, 0)) (by (with_reducible repeat (first | refine blk_drewN ?_ _ | refine blk_drew ?_ | refine blk_alloc ?_ _)); refine blk_far ?_ NB426_465.out _; (with_reducible repeat (first | refine blk_drewN ?_ _ | refine blk_drew ?_ | refine blk_alloc ?_ _)); refine blk_far ?_ NB426_465.out _; (with_reducible repeat (first | refine blk_drewN ?_ _ | refine blk_drew ?_ | refine blk_alloc ?_ _)); exact BK426.out) hb); have n8_ := Aside0.mk (blk_below (g := gb460) (o := .cells #[.int .i64 t456, .slice Ao112 t457.length co112] 36 (0, 0)) (by (with_reducible repeat (first | refine blk_drewN ?_ _ | refine blk_drew ?_ | refine blk_alloc ?_ _)); refine blk_far ?_ NB460_465.out _; (with_reducible repeat (first | refine blk_drewN ?_ _ | refine blk_drew ?_ | refine blk_alloc ?_ _)); refine blk_far ?_ NB460_465.out _; (with_reducible repeat (first | refine blk_drewN ?_ _ | refine blk_drew ?_ | refine blk_alloc ?_ _)); exact BK460.out) hb); have n9_ := Aside0.mk (blk_below (g := gb465) (o := .cells #[.int .i64 t461, .slice Ao118 t462.length co118] 24 (0, 0)) (by (with_reducible repeat (first | refine blk_drewN ?_ _ | refine blk_drew ?_ | refine blk_alloc ?_ _)); refine blk_put (cs := #[.int .i64 t461, .slice none 0 0]) ?_ 1 _ rfl; (with_reducible repeat (first | refine blk_drewN ?_ _ | refine blk_drew ?_ | refine blk_alloc ?_ _)); refine blk_put (cs := #[.int .i64 0, .slice none 0 0]) ?_ 0 _ rfl; (with_reducible repeat (first | refine blk_drewN ?_ _ | refine blk_drew ?_ | refine blk_alloc ?_ _)); exact BK465.out) hb); have n10_ := Aside0.mk (below_step bq hb); revert n0_ n1_ n2_ n3_ n4_ n5_ n6_ n7_ n8_ n9_ n10_; clear HO417 HO420 HO425 HO455 HO459 HO464 BK426 BK460 BK465 HB; intro HO417 HO420 HO425 HO455 HO459 HO464 HO470 BK426 BK460 BK465 HB; (try clear hb); (try clear hb2); (try clear hk); (try clear hi); (try clear ho0)) | ((with_reducible refine gate_dst (N := 9) rfl ?_); refine q_box (N := 9) (cs := #[.int .i64 0, .int .i64 0, .slice none 0 0]) (t := 59) ?_; intro gb471 hg w120 hbox hb; have n0_ := Aside0.mk (Kd.R_below (q_r (HO417.out)) hb); have n1_ := Aside0.mk (Kd.R_below (q_r (HO420.out)) hb); have n2_ := Aside0.mk (Kd.R_below (q_r (HO425.out)) hb); have n3_ := Aside0.mk (Kd.R_below (q_r (HO455.out)) hb); have n4_ := Aside0.mk (Kd.R_below (q_r (HO459.out)) hb); have n5_ := Aside0.mk (Kd.R_below (q_r (HO464.out)) hb); have n6_ := Aside0.mk (Kd.R_below (q_r (HO470.out)) hb); have n7_ := Aside0.mk (blk_below (q_b BK426.out) hb); have n8_ := Aside0.mk (blk_below (q_b BK460.out) hb); have n9_ := Aside0.mk (blk_below (q_b BK465.out) hb); have n10_ := Aside0.mk (below_step bq hb); have n11_ := Aside0.mk (hbox); have n12_ := Aside0.mk ((q_g hg bq : w.heap.size ≤ gb471)); have n13_ := Aside0.mk ((q_g hg bq : w.heap.size ≤ gb471)); have n14_ := Aside0.mk ((q_n hg (q_b BK426.out) : gb426 ≠ gb471)); have n15_ := Aside0.mk ((q_m hg (q_b BK426.out) : gb471 ≠ gb426)); have n16_ := Aside0.mk ((q_n hg (q_b BK460.out) : gb460 ≠ gb471)); have n17_ := Aside0.mk ((q_m hg (q_b BK460.out) : gb471 ≠ gb460)); have n18_ := Aside0.mk ((q_n hg (q_b BK465.out) : gb465 ≠ gb471)); have n19_ := Aside0.mk ((q_m hg (q_b BK465.out) : gb471 ≠ gb465)); revert n0_ n1_ n2_ n3_ n4_ n5_ n6_ n7_ n8_ n9_ n10_ n11_ n12_ n13_ n14_ n15_ n16_ n17_ n18_ n19_; clear HO417 HO420 HO425 HO455 HO459 HO464 HO470 BK426 BK460 BK465 HB; intro HO417 HO420 HO425 HO455 HO459 HO464 HO470 BK426 BK460 BK465 HB BK471 GW471 GE471 NB426_471 NB471_426 NB460_471 NB471_460 NB465_471 NB471_465; clear hb hbox hg; have hnb121 := NB471_426.out; have hnc121 := NB426_471.out; have hnb122 := NB471_460.out; have hnc122 := NB460_471.out; have hnb123 := NB471_465.out; have hnc123 := NB465_471.out; obtain ⟨hcz124_0, hcz124_1, hcz124_2, hfz124_0, hfz124_1, hfz124_2⟩ := q_3 BK471.out; obtain ⟨Ao125, co125, eo125⟩ := Kd.R_slice HO470.out; subst eo125; obtain ⟨hcz126_0, hcz126_1, hfz126_0, hfz126_1⟩ := q_2 BK460.out) | (go_at_call 23; (with_reducible refine (impl_SameContract.calls k t467 _ _ t468 t456 _ _ t457 t472 _ ?side1 ?side2 ?side3 ?side4 A94.out).mono ?_); (case side1 => refine (Kd.R_reads' (e := 89) (base := w.heap.size) (ok := fun k_ => (((True ∧ some k_ ≠ (.slice Ao102 t423.length co102 : Value).ownBlock) ∧ some k_ ≠ (v454 : Value).ownBlock) ∧ some k_ ≠ (.slice Ao112 t457.length co112 : Value).ownBlock)) (n := t468.length) (c := co125) ?_).2.2; exact (by (with_reducible repeat (first | apply Kd.R_alloc | apply Kd.R_drewN | apply Kd.R_drew)); exact (Kd.R_mono (Kd.R_far (p := ⟨gb471, 2, none⟩) (Kd.R_far (p := ⟨gb471, 1, none⟩) (Kd.R_far (p := ⟨gb471, 0, none⟩) (Kd.R_types HO470.out BK471.out (by decide)) (fun _ hk => hk.2) (.int .i64 t466)) (fun _ hk => hk.2) (.int .i64 t467)) (fun _ hk => hk.2) (.slice Ao125 t468.length co125)) (fun _ h_ => h_.1)))); (case side2 => exact (Kd.R_reads' HO470.out).2.1); (case side3 => refine (Kd.R_reads' (e := 89) (base := w.heap.size) (ok := fun k_ => (((True ∧ some k_ ≠ (.slice Ao102 t423.length co102 : Value).ownBlock) ∧ some k_ ≠ (v454 : Value).ownBlock) ∧ some k_ ≠ (.slice Ao125 t468.length co125 : Value).ownBlock)) (n := t457.length) (c := co112) ?_).2.2; exact (by (with_reducible repeat (first | apply Kd.R_alloc | apply Kd.R_drewN | apply Kd.R_drew)); exact (Kd.R_mono (Kd.R_far (p := ⟨gb471, 2, none⟩) (Kd.R_far (p := ⟨gb471, 1, none⟩) (Kd.R_far (p := ⟨gb471, 0, none⟩) (Kd.R_types HO459.out BK471.out (by decide)) (fun _ hk => hk.2) (.int .i64 t466)) (fun _ hk => hk.2) (.int .i64 t467)) (fun _ hk => hk.2) (.slice Ao125 t468.length co125)) (fun _ h_ => h_.1)))); (case side4 => exact (Kd.R_reads' HO459.out).2.1); rintro e w127 ⟨rfl, hb⟩; have n0_ := Aside0.mk (Kd.R_below (by (with_reducible repeat (first | apply Kd.R_alloc | apply Kd.R_drewN | apply Kd.R_drew)); exact (Kd.R_mono (Kd.R_far (p := ⟨gb471, 2, none⟩) (Kd.R_far (p := ⟨gb471, 1, none⟩) (Kd.R_far (p := ⟨gb471, 0, none⟩) (Kd.R_types HO417.out BK471.out (by decide)) (fun _ hk => hk.2) (.int .i64 t466)) (fun _ hk => hk.2) (.int .i64 t467)) (fun _ hk => hk.2) (.slice Ao125 t468.length co125)) (fun _ h_ => h_.1))) hb); have n1_ := Aside0.mk (Kd.R_below (by (with_reducible repeat (first | apply Kd.R_alloc | apply Kd.R_drewN | apply Kd.R_drew)); exact (Kd.R_mono (Kd.R_far (p := ⟨gb471, 2, none⟩) (Kd.R_far (p := ⟨gb471, 1, none⟩) (Kd.R_far (p := ⟨gb471, 0, none⟩) (Kd.R_types HO420.out BK471.out (by decide)) (fun _ hk => hk.2) (.int .i64 t466)) (fun _ hk => hk.2) (.int .i64 t467)) (fun _ hk => hk.2) (.slice Ao125 t468.length co125)) (fun _ h_ => h_.1))) hb); have n2_ := Aside0.mk (Kd.R_below (by (with_reducible repeat (first | apply Kd.R_alloc | apply Kd.R_drewN | apply Kd.R_drew)); exact (Kd.R_mono (Kd.R_far (p := ⟨gb471, 2, none⟩) (Kd.R_far (p := ⟨gb471, 1, none⟩) (Kd.R_far (p := ⟨gb471, 0, none⟩) (Kd.R_types HO425.out BK471.out (by decide)) (fun _ hk => hk.2) (.int .i64 t466)) (fun _ hk => hk.2) (.int .i64 t467)) (fun _ hk => hk.2) (.slice Ao125 t468.length co125)) (fun _ h_ => h_.1))) hb); have n3_ := Aside0.mk (Kd.R_below (by (with_reducible repeat (first | apply Kd.R_alloc | apply Kd.R_drewN | apply Kd.R_drew)); exact (Kd.R_mono (Kd.R_far (p := ⟨gb471, 2, none⟩) (Kd.R_far (p := ⟨gb471, 1, none⟩) (Kd.R_far (p := ⟨gb471, 0, none⟩) (Kd.R_types HO455.out BK471.out (by decide)) (fun _ hk => hk.2) (.int .i64 t466)) (fun _ hk => hk.2) (.int .i64 t467)) (fun _ hk => hk.2) (.slice Ao125 t468.length co125)) (fun _ h_ => h_.1))) hb); have n4_ := Aside0.mk (Kd.R_below (by (with_reducible repeat (first | apply Kd.R_alloc | apply Kd.R_drewN | apply Kd.R_drew)); exact (Kd.R_mono (Kd.R_far (p := ⟨gb471, 2, none⟩) (Kd.R_far (p := ⟨gb471, 1, none⟩) (Kd.R_far (p := ⟨gb471, 0, none⟩) (Kd.R_types HO459.out BK471.out (by decide)) (fun _ hk => hk.2) (.int .i64 t466)) (fun _ hk => hk.2) (.int .i64 t467)) (fun _ hk => hk.2) (.slice Ao125 t468.length co125)) (fun _ h_ => h_.1))) hb); have n5_ := Aside0.mk (Kd.R_below (by (with_reducible repeat (first | apply Kd.R_alloc | apply Kd.R_drewN | apply Kd.R_drew)); exact (Kd.R_mono (Kd.R_far (p := ⟨gb471, 2, none⟩) (Kd.R_far (p := ⟨gb471, 1, none⟩) (Kd.R_far (p := ⟨gb471, 0, none⟩) (Kd.R_types HO464.out BK471.out (by decide)) (fun _ hk => hk.2) (.int .i64 t466)) (fun _ hk => hk.2) (.int .i64 t467)) (fun _ hk => hk.2) (.slice Ao125 t468.length co125)) (fun _ h_ => h_.1))) hb); have n6_ := Aside0.mk (Kd.R_below (by (with_reducible repeat (first | apply Kd.R_alloc | apply Kd.R_drewN | apply Kd.R_drew)); exact (Kd.R_mono (Kd.R_far (p := ⟨gb471, 2, none⟩) (Kd.R_far (p := ⟨gb471, 1, none⟩) (Kd.R_far (p := ⟨gb471, 0, none⟩) (Kd.R_types HO470.out BK471.out (by decide)) (fun _ hk => hk.2) (.int .i64 t466)) (fun _ hk => hk.2) (.int .i64 t467)) (fun _ hk => hk.2) (.slice Ao125 t468.length co125)) (fun _ h_ => h_.1))) hb); have n7_ := Aside0.mk (blk_below (g := gb426) (o := .cells #[.int .i64 t421, .int .i64 t422, .slice Ao102 t423.length co102] 59 (0, 0)) (by (with_reducible repeat (first | refine blk_drewN ?_ _ | refine blk_drew ?_ | refine blk_alloc ?_ _)); refine blk_far ?_ NB426_471.out _; (with_reducible repeat (first | refine blk_drewN ?_ _ | refine blk_drew ?_ | refine blk_alloc ?_ _)); refine blk_far ?_ NB426_471.out _; (with_reducible repeat (first | refine blk_drewN ?_ _ | refine blk_drew ?_ | refine blk_alloc ?_ _)); refine blk_far ?_ NB426_471.out _; (with_reducible repeat (first | refine blk_drewN ?_ _ | refine blk_drew ?_ | refine blk_alloc ?_ _)); exact BK426.out) hb); have n8_ := Aside0.mk (blk_below (g := gb460) (o := .cells #[.int .i64 t456, .slice Ao112 t457.length co112] 36 (0, 0)) (by (with_reducible repeat (first | refine blk_drewN ?_ _ | refine blk_drew ?_ | refine blk_alloc ?_ _)); refine blk_far ?_ NB460_471.out _; (with_reducible repeat (first | refine blk_drewN ?_ _ | refine blk_drew ?_ | refine blk_alloc ?_ _)); refine blk_far ?_ NB460_471.out _; (with_reducible repeat (first | refine blk_drewN ?_ _ | refine blk_drew ?_ | refine blk_alloc ?_ _)); refine blk_far ?_ NB460_471.out _; (with_reducible repeat (first | refine blk_drewN ?_ _ | refine blk_drew ?_ | refine blk_alloc ?_ _)); exact BK460.out) hb); have n9_ := Aside0.mk (blk_below (g := gb465) (o := .cells #[.int .i64 t461, .slice Ao118 t462.length co118] 24 (0, 0)) (by (with_reducible repeat (first | refine blk_drewN ?_ _ | refine blk_drew ?_ | refine blk_alloc ?_ _)); refine blk_far ?_ NB465_471.out _; (with_reducible repeat (first | refine blk_drewN ?_ _ | refine blk_drew ?_ | refine blk_alloc ?_ _)); refine blk_far ?_ NB465_471.out _; (with_reducible repeat (first | refine blk_drewN ?_ _ | refine blk_drew ?_ | refine blk_alloc ?_ _)); refine blk_far ?_ NB465_471.out _; (with_reducible repeat (first | refine blk_drewN ?_ _ | refine blk_drew ?_ | refine blk_alloc ?_ _)); exact BK465.out) hb); have n10_ := Aside0.mk (blk_below (g := gb471) (o := .cells #[.int .i64 t466, .int .i64 t467, .slice Ao125 t468.length co125] 59 (0, 0)) (by (with_reducible repeat (first | refine blk_drewN ?_ _ | refine blk_drew ?_ | refine blk_alloc ?_ _)); refine blk_put (cs := #[.int .i64 t466, .int .i64 t467, .slice none 0 0]) ?_ 2 _ rfl; (with_reducible repeat (first | refine blk_drewN ?_ _ | refine blk_drew ?_ | refine blk_alloc ?_ _)); refine blk_put (cs := #[.int .i64 t466, .int .i64 0, .slice none 0 0]) ?_ 1 _ rfl; (with_reducible repeat (first | refine blk_drewN ?_ _ | refine blk_drew ?_ | refine blk_alloc ?_ _)); refine blk_put (cs := #[.int .i64 0, .int .i64 0, .slice none 0 0]) ?_ 0 _ rfl; (with_reducible repeat (first | refine blk_drewN ?_ _ | refine blk_drew ?_ | refine blk_alloc ?_ _)); exact BK471.out) hb); have n11_ := Aside0.mk (below_step bq hb); revert n0_ n1_ n2_ n3_ n4_ n5_ n6_ n7_ n8_ n9_ n10_ n11_; clear HO417 HO420 HO425 HO455 HO459 HO464 HO470 BK426 BK460 BK465 BK471 HB; intro HO417 HO420 HO425 HO455 HO459 HO464 HO470 BK426 BK460 BK465 BK471 HB; (try clear hb); (try clear hb2); (try clear hk); (try clear hi)))
        go_ret
        exact ⟨q_e, bq⟩
       ·rw [if_neg c93] at H
        exact absurd H (by simp)
      ·rw [if_neg c91] at H
       have c91b0 : (t461 == 0) = false := beq_eq_false_iff_ne.mpr c91
       have c91b1 : (t461 != 0) = true := bne_iff_ne.mpr c91
       replace H := Option.bind_eq_some_iff.mp H
       obtain ⟨t473, A1280, H⟩ := H
       replace H : (some (t473 == t461)) = some r := H
       have A128 := Aside0.mk A1280
       clear A1280
       obtain rfl := Option.some.inj H
       go_enter Try.func12, Try.ntmps12
       try go_wp2_with (first | ((with_reducible refine gate_callee (f := 53) rfl ?_); refine goesLq (some 11) rfl rfl Try.func53 (by kernel_rfl) rfl #[.slice A0 l0.length c0] rfl ?_; (with_reducible refine (laws_lwBig.calls _ _ l0 false _ ?side1 ?side2 A2.out).mono ?_); (case side1 => exact q_c (HR0.out)); (case side2 => exact HC0.out); rintro e w' ⟨rfl, ⟨nd, rfl⟩⟩; refine ⟨_, rfl, ?_⟩) | ((with_reducible refine gate_callee (f := 54) rfl ?_); refine goesLq (some 13) rfl rfl Try.func54 (by kernel_rfl) rfl #[.slice A0 l0.length c0] rfl ?_; (with_reducible refine (spec_DrawPackNumber.calls _ _ l0 t414 _ ?side1 ?side2 A4.out).mono ?_); (case side1 => exact q_c (HR0.out)); (case side2 => exact HC0.out); rintro e w129 ⟨rfl, hb⟩; refine ⟨_, rfl, ?_⟩; have n0_ := Aside0.mk (below_step bq hb); revert n0_; clear HB; intro HB; (try clear hb); (try clear hb2); (try clear hk); (try clear hi)) | ((with_reducible refine gate_callee (f := 55) rfl ?_); refine goesLq (some 15) rfl rfl Try.func55 (by kernel_rfl) rfl #[.int .i64 t414] rfl ?_; (with_reducible refine (impl_PackNumber.calls k t414 t415 _ A5.out).mono ?_); rintro e w130 ⟨v416, rfl, ho0, hb⟩; refine ⟨_, rfl, ?_⟩; have n0_ := Aside0.mk (Kd.R_lower ho0 (below_size bq)); have n1_ := Aside0.mk (below_step bq hb); revert n0_ n1_; clear HB; intro HO417 HB; (try clear hb); (try clear hb2); (try clear hk); (try clear hi); (try clear ho0)) | ((with_reducible refine gate_callee (f := 56) rfl ?_); refine goesLq (some 17) rfl rfl Try.func56 (by kernel_rfl) rfl #[.slice A0 l0.length c0] rfl ?_; (with_reducible refine (spec_DrawUnpackContract.calls k _ _ l0 t418 _ ?side1 ?side2 A6.out).mono ?_); (case side1 => exact q_c ((Kd.C_below HR0.out HB.out))); (case side2 => exact HC0.out); rintro e w131 ⟨v419, rfl, ho0, hb⟩; refine ⟨_, rfl, ?_⟩; have n0_ := Aside0.mk (Kd.R_elder' (q_r (HO417.out)) (Kd.R_base ho0) hb); have n1_ := Aside0.mk (Kd.R_lower (Kd.R_new' ho0 (Kd.R_lt (q_r (HO417.out)))) (below_size bq)); have n2_ := Aside0.mk (below_step bq hb); revert n0_ n1_ n2_; clear HO417 HB; intro HO417 HO420 HB; (try clear hb); (try clear hb2); (try clear hk); (try clear hi); (try clear ho0); obtain ⟨Ao132, co132, eo132⟩ := Kd.R_slice HO420.out; subst eo132) | ((with_reducible refine gate_callee (f := 50) rfl ?_); refine goesLq (some 19) rfl rfl Try.func50 (by kernel_rfl) rfl #[.slice Ao132 t418.length co132] rfl ?_; (with_reducible refine (impl_UnpackContract.calls k _ _ t418 t421 t422 t423 _ ?side1 ?side2 A7.out).mono ?_); (case side1 => exact q_c ((Kd.R_reads' HO420.out).2.2)); (case side2 => exact (Kd.R_reads' HO420.out).2.1); rintro e w133 ⟨v424, rfl, ho0, hb⟩; refine ⟨_, rfl, ?_⟩; have n0_ := Aside0.mk (Kd.R_below (q_r (HO417.out)) hb); have n1_ := Aside0.mk (Kd.R_below (q_r (HO420.out)) hb); have n2_ := Aside0.mk (Kd.R_lower ho0 (below_size bq)); have n3_ := Aside0.mk (below_step bq hb); revert n0_ n1_ n2_ n3_; clear HO417 HO420 HB; intro HO417 HO420 HO425 HB; (try clear hb); (try clear hb2); (try clear hk); (try clear hi); (try clear ho0)) | ((with_reducible refine gate_dst (N := 6) rfl ?_); refine q_box (N := 6) (cs := #[.int .i64 0, .int .i64 0, .slice none 0 0]) (t := 59) ?_; intro gb426 hg w134 hbox hb; have n0_ := Aside0.mk (Kd.R_below (q_r (HO417.out)) hb); have n1_ := Aside0.mk (Kd.R_below (q_r (HO420.out)) hb); have n2_ := Aside0.mk (Kd.R_below (q_r (HO425.out)) hb); have n3_ := Aside0.mk (below_step bq hb); have n4_ := Aside0.mk (hbox); have n5_ := Aside0.mk ((q_g hg bq : w.heap.size ≤ gb426)); have n6_ := Aside0.mk ((q_g hg bq : w.heap.size ≤ gb426)); revert n0_ n1_ n2_ n3_ n4_ n5_ n6_; clear HO417 HO420 HO425 HB; intro HO417 HO420 HO425 HB BK426 GW426 GE426; clear hb hbox hg; obtain ⟨hcz135_0, hcz135_1, hcz135_2, hfz135_0, hfz135_1, hfz135_2⟩ := q_3 BK426.out; obtain ⟨Ao136, co136, eo136⟩ := Kd.R_slice HO425.out; subst eo136))
       have n0_ : Aside0 (Kd.R (Kd.int .u8) 5 (((w134.setCell ⟨gb426, 0, none⟩ (.int .i64 t421)).setCell ⟨gb426, 1, none⟩ (.int .i64 t422)).setCell ⟨gb426, 2, none⟩ (.slice Ao136 t423.length co136)) w.heap.size (fun k_ => some k_ ≠ (.slice Ao132 t418.length co132 : Value).ownBlock) v416 t415) := ⟨by (with_reducible repeat (first | apply Kd.R_alloc | apply Kd.R_drewN | apply Kd.R_drew)); exact Kd.R_mono (Kd.R_far (p := ⟨gb426, 2, none⟩) (Kd.R_far (p := ⟨gb426, 1, none⟩) (Kd.R_far (p := ⟨gb426, 0, none⟩) (Kd.R_types HO417.out BK426.out (by decide)) (fun _ hk => hk.2) (.int .i64 t421)) (fun _ hk => hk.2) (.int .i64 t422)) (fun _ hk => hk.2) (.slice Ao136 t423.length co136)) (fun _ hk => hk.1.2)⟩
       have n1_ : Aside0 (Kd.R (Kd.int .u8) 5 (((w134.setCell ⟨gb426, 0, none⟩ (.int .i64 t421)).setCell ⟨gb426, 1, none⟩ (.int .i64 t422)).setCell ⟨gb426, 2, none⟩ (.slice Ao136 t423.length co136)) w.heap.size (fun k_ => some k_ ≠ (v416 : Value).ownBlock) (.slice Ao132 t418.length co132) t418) := ⟨by (with_reducible repeat (first | apply Kd.R_alloc | apply Kd.R_drewN | apply Kd.R_drew)); exact Kd.R_mono (Kd.R_far (p := ⟨gb426, 2, none⟩) (Kd.R_far (p := ⟨gb426, 1, none⟩) (Kd.R_far (p := ⟨gb426, 0, none⟩) (Kd.R_types HO420.out BK426.out (by decide)) (fun _ hk => hk.2) (.int .i64 t421)) (fun _ hk => hk.2) (.int .i64 t422)) (fun _ hk => hk.2) (.slice Ao136 t423.length co136)) (fun _ hk => hk.1.2)⟩
       have n2_ : Aside0 (Kd.R k89 89 (((w134.setCell ⟨gb426, 0, none⟩ (.int .i64 t421)).setCell ⟨gb426, 1, none⟩ (.int .i64 t422)).setCell ⟨gb426, 2, none⟩ (.slice Ao136 t423.length co136)) w.heap.size (fun _ => True) (.slice Ao136 t423.length co136) t423) := ⟨by (with_reducible repeat (first | apply Kd.R_alloc | apply Kd.R_drewN | apply Kd.R_drew)); exact Kd.R_mono (Kd.R_far (p := ⟨gb426, 2, none⟩) (Kd.R_far (p := ⟨gb426, 1, none⟩) (Kd.R_far (p := ⟨gb426, 0, none⟩) (Kd.R_types HO425.out BK426.out (by decide)) (fun _ hk => hk.2) (.int .i64 t421)) (fun _ hk => hk.2) (.int .i64 t422)) (fun _ hk => hk.2) (.slice Ao136 t423.length co136)) (fun _ hk => trivial)⟩
       have n3_ : Aside0 ((((w134.setCell ⟨gb426, 0, none⟩ (.int .i64 t421)).setCell ⟨gb426, 1, none⟩ (.int .i64 t422)).setCell ⟨gb426, 2, none⟩ (.slice Ao136 t423.length co136)).heap[gb426]? = some (.cells #[.int .i64 t421, .int .i64 t422, .slice Ao136 t423.length co136] 59 (0, 0))) := ⟨by (with_reducible repeat (first | refine blk_drewN ?_ _ | refine blk_drew ?_ | refine blk_alloc ?_ _)); refine blk_put (cs := #[.int .i64 t421, .int .i64 t422, .slice none 0 0]) ?_ 2 _ rfl; (with_reducible repeat (first | refine blk_drewN ?_ _ | refine blk_drew ?_ | refine blk_alloc ?_ _)); refine blk_put (cs := #[.int .i64 t421, .int .i64 0, .slice none 0 0]) ?_ 1 _ rfl; (with_reducible repeat (first | refine blk_drewN ?_ _ | refine blk_drew ?_ | refine blk_alloc ?_ _)); refine blk_put (cs := #[.int .i64 0, .int .i64 0, .slice none 0 0]) ?_ 0 _ rfl; (with_reducible repeat (first | refine blk_drewN ?_ _ | refine blk_drew ?_ | refine blk_alloc ?_ _)); exact BK426.out⟩
       have n4_ : Aside0 (Below w.heap.size w (((w134.setCell ⟨gb426, 0, none⟩ (.int .i64 t421)).setCell ⟨gb426, 1, none⟩ (.int .i64 t422)).setCell ⟨gb426, 2, none⟩ (.slice Ao136 t423.length co136))) := ⟨bq⟩
       (try clear HO417)
       (try clear HO420)
       (try clear HO425)
       (try clear BK426)
       (try clear HB)
       generalize (((w134.setCell ⟨gb426, 0, none⟩ (.int .i64 t421)).setCell ⟨gb426, 1, none⟩ (.int .i64 t422)).setCell ⟨gb426, 2, none⟩ (.slice Ao136 t423.length co136)) = w137 at n0_ n1_ n2_ n3_ n4_ ⊢
       have HO417 := n0_
       have HO420 := n1_
       have HO425 := n2_
       have BK426 := n3_
       have HB := n4_
       clear n0_ n1_ n2_ n3_ n4_
       have n0_ := Aside0.mk (Kd.R_drew HO417.out)
       have n1_ := Aside0.mk (Kd.R_drew HO420.out)
       have n2_ := Aside0.mk (Kd.R_drew HO425.out)
       have n3_ := Aside0.mk (blk_drew BK426.out)
       have n4_ := Aside0.mk (below_drew1 HB.out)
       clear HO417
       clear HO420
       clear HO425
       clear BK426
       clear HB
       have HO417 := n0_
       have HO420 := n1_
       have HO425 := n2_
       have BK426 := n3_
       have HB := n4_
       clear n0_ n1_ n2_ n3_ n4_
       obtain ⟨Ao139, co139, eo139⟩ := Kd.R_slice HO417.out
       (first | subst eo139 | (injection eo139 with f1_ f2_ f3_; have f4_ := f1_.symm; have f5_ := f3_.symm; clear f1_ f2_ f3_; subst f4_; subst f5_))
       refine start_ (n := 38) (S := fun w' => w'.cell? ⟨gb426, 0, none⟩ = some (.int .i64 t421) ∧ w'.cell? ⟨gb426, 1, none⟩ = some (.int .i64 t422) ∧ w'.cell? ⟨gb426, 2, none⟩ = some (.slice Ao136 t423.length co136)) (ds := []) #[false, false, false, false, false, false, false, false, false, false, false, false, false, false, false, false, false, false, false, false, false, false, false, false, false, false, false, false, false, false, false, false, false, false, false, false, false, false] (by kernel_rfl) rfl rfl ⟨q_z BK426.out 0, q_z BK426.out 1, q_z BK426.out 2⟩ (fun hHeld => ?_); refine with_tabW laws_FnBytes.tab7 laws_FnBytes.bits7 (fun HT_ HW_ => ?_)
       generalize w137.drew = w138 at HO417 HO420 HO425 BK426 HB hHeld ⊢
       refine q_P12 0 (some 20) #[true, false, false, false, false, false, false, false, false, false, false, false, false, false, false, false, false, false, false, false, false, false, false, false, false, false, false, false, false, false, false, false, false, false, false, false, false, false] HT_.out ?_
       refine q_P12 1 (some 21) #[true, true, false, false, false, false, false, false, false, false, false, false, false, false, false, false, false, false, false, false, false, false, false, false, false, false, false, false, false, false, false, false, false, false, false, false, false, false] HT_.out ?_
       refine q_P12 2 (some 22) #[true, true, true, false, false, false, false, false, false, false, false, false, false, false, false, false, false, false, false, false, false, false, false, false, false, false, false, false, false, false, false, false, false, false, false, false, false, false] HT_.out ?_
       refine q_P12 3 (some 23) #[true, true, true, true, false, false, false, false, false, false, false, false, false, false, false, false, false, false, false, false, false, false, false, false, false, false, false, false, false, false, false, false, false, false, false, false, false, false] HT_.out ?_
       refine q_P12 4 (some 24) #[true, true, true, true, true, false, false, false, false, false, false, false, false, false, false, false, false, false, false, false, false, false, false, false, false, false, false, false, false, false, false, false, false, false, false, false, false, false] HT_.out ?_
       refine q_P12 7 (some 27) #[true, true, true, true, true, false, false, true, false, false, false, false, false, false, false, false, false, false, false, false, false, false, false, false, false, false, false, false, false, false, false, false, false, false, false, false, false, false] HT_.out ?_
       refine one_ (i := 5) (N := some 25) #[true, true, true, true, true, true, false, true, false, false, false, false, false, false, false, false, false, false, false, false, false, false, false, false, false, false, false, false, false, false, false, false, false, false, false, false, false, false] rfl rfl (one_of HT_.out (by kernel_rfl)) (by decide) (fun K hK => ?_)
       refine goes_ Try.func57 (by kernel_rfl) rfl #[.slice Ao139 t415.length co139] (by rfl) rfl rfl (by (try simp only [List.map_toArray, List.map_cons, List.map_nil]); first | done | rfl | (simp only [List.length_drop, List.length_take]; rfl)) ?_
       with_reducible refine (impl_UnpackNumber.calls k _ _ t415 t427 t428 _ ?side1 ?side2 A9.out).mono ?_
       (case side1 => exact q_c ((Kd.R_reads' HO417.out).2.2))
       (case side2 => exact (Kd.R_reads' HO417.out).2.1)
       rintro e w140 ⟨rfl, hb⟩
       refine ⟨_, rfl, ?_⟩
       have n0_ := Aside0.mk (Kd.R_below (q_r (HO417.out)) hb)
       have n1_ := Aside0.mk (Kd.R_below (q_r (HO420.out)) hb)
       have n2_ := Aside0.mk (Kd.R_below (q_r (HO425.out)) hb)
       have n3_ := Aside0.mk (blk_below (q_b BK426.out) hb)
       have n4_ := Aside0.mk (below_step bq hb)
       clear HO417
       clear HO420
       clear HO425
       clear BK426
       clear HB
       have HO417 := n0_
       have HO420 := n1_
       have HO425 := n2_
       have BK426 := n3_
       have HB := n4_
       clear n0_ n1_ n2_ n3_ n4_
       (try clear hb)
       (try clear hb2)
       (try clear hk)
       (try clear hi)
       refine hK.out _ _ ⟨q_z BK426.out 0, q_z BK426.out 1, q_z BK426.out 2⟩ (fun hHeld => ?_)
       clear hK K
       refine norm_ (a' := ?_) ?_ ?_
       rotate_left
       ·show Act.put _ (some 25) _ = _
        simp only [Act.put, List.setIfInBounds_toArray, List.set_cons_zero, List.set_cons_succ, i64_w, i32_w]
        rfl
       refine q_P12 6 (some 26) #[true, true, true, true, true, true, true, true, false, false, false, false, false, false, false, false, false, false, false, false, false, false, false, false, false, false, false, false, false, false, false, false, false, false, false, false, false, false] HT_.out ?_
       refine q_P12 8 (some 28) #[true, true, true, true, true, true, true, true, true, false, false, false, false, false, false, false, false, false, false, false, false, false, false, false, false, false, false, false, false, false, false, false, false, false, false, false, false, false] HT_.out ?_
       refine q_P12 9 (some 29) #[true, true, true, true, true, true, true, true, true, true, false, false, false, false, false, false, false, false, false, false, false, false, false, false, false, false, false, false, false, false, false, false, false, false, false, false, false, false] HT_.out ?_
       refine q_P12 10 (some 30) #[true, true, true, true, true, true, true, true, true, true, true, false, false, false, false, false, false, false, false, false, false, false, false, false, false, false, false, false, false, false, false, false, false, false, false, false, false, false] HT_.out ?_
       refine q_P12 11 (some 31) #[true, true, true, true, true, true, true, true, true, true, true, true, false, false, false, false, false, false, false, false, false, false, false, false, false, false, false, false, false, false, false, false, false, false, false, false, false, false] HT_.out ?_
       refine q_t 12 (some 32) #[true, true, true, true, true, true, true, true, true, true, true, true, true, false, false, false, false, false, false, false, false, false, false, false, false, false, false, false, false, false, false, false, false, false, false, false, false, false] HT_.out HW_.out hHeld ?_
       refine q_P12 13 (some 33) #[true, true, true, true, true, true, true, true, true, true, true, true, true, true, false, false, false, false, false, false, false, false, false, false, false, false, false, false, false, false, false, false, false, false, false, false, false, false] HT_.out ?_
       refine q_P12 14 (some 34) #[true, true, true, true, true, true, true, true, true, true, true, true, true, true, true, false, false, false, false, false, false, false, false, false, false, false, false, false, false, false, false, false, false, false, false, false, false, false] HT_.out ?_
       refine pure_ (i := 15) (N := some 35) (v := undef) (a' := ?_) #[true, true, true, true, true, true, true, true, true, true, true, true, true, true, true, true, false, false, false, false, false, false, false, false, false, false, false, false, false, false, false, false, false, false, false, false, false, false] rfl rfl (any_of HT_.out (by kernel_rfl)) (fun _ _ _ h => h) (Or.inr ⟨by rfl, rfl⟩) ?_ ?_
       rotate_left
       ·simp only [Act.put, List.setIfInBounds_toArray, List.set_cons_zero, List.set_cons_succ, i64_w, i32_w]
        rfl
       refine pure_ (i := 16) (N := some 36) (v := undef) (a' := ?_) #[true, true, true, true, true, true, true, true, true, true, true, true, true, true, true, true, true, false, false, false, false, false, false, false, false, false, false, false, false, false, false, false, false, false, false, false, false, false] rfl rfl (any_of HT_.out (by kernel_rfl)) (fun _ _ _ h => h) (Or.inr ⟨by rfl, rfl⟩) ?_ ?_
       rotate_left
       ·simp only [Act.put, List.setIfInBounds_toArray, List.set_cons_zero, List.set_cons_succ, i64_w, i32_w]
        rfl
       refine pure_ (i := 17) (N := some 37) (v := undef) (a' := ?_) #[true, true, true, true, true, true, true, true, true, true, true, true, true, true, true, true, true, true, false, false, false, false, false, false, false, false, false, false, false, false, false, false, false, false, false, false, false, false] rfl rfl (any_of HT_.out (by kernel_rfl)) (fun _ _ _ h => h) (Or.inr ⟨by rfl, rfl⟩) ?_ ?_
       rotate_left
       ·simp only [Act.put, List.setIfInBounds_toArray, List.set_cons_zero, List.set_cons_succ, i64_w, i32_w]
        rfl
       refine pure_ (i := 18) (N := some 38) (v := undef) (a' := ?_) #[true, true, true, true, true, true, true, true, true, true, true, true, true, true, true, true, true, true, true, false, false, false, false, false, false, false, false, false, false, false, false, false, false, false, false, false, false, false] rfl rfl (any_of HT_.out (by kernel_rfl)) (fun _ _ _ h => h) (Or.inr ⟨by rfl, rfl⟩) ?_ ?_
       rotate_left
       ·simp only [Act.put, List.setIfInBounds_toArray, List.set_cons_zero, List.set_cons_succ, i64_w, i32_w]
        rfl
       refine pure_ (i := 19) (N := some 39) (v := undef) (a' := ?_) #[true, true, true, true, true, true, true, true, true, true, true, true, true, true, true, true, true, true, true, true, false, false, false, false, false, false, false, false, false, false, false, false, false, false, false, false, false, false] rfl rfl (any_of HT_.out (by kernel_rfl)) (fun _ _ _ h => h) (Or.inr ⟨by rfl, rfl⟩) ?_ ?_
       rotate_left
       ·simp only [Act.put, List.setIfInBounds_toArray, List.set_cons_zero, List.set_cons_succ, i64_w, i32_w]
        rfl
       refine pure_ (i := 20) (N := some 40) (v := undef) (a' := ?_) #[true, true, true, true, true, true, true, true, true, true, true, true, true, true, true, true, true, true, true, true, true, false, false, false, false, false, false, false, false, false, false, false, false, false, false, false, false, false] rfl rfl (any_of HT_.out (by kernel_rfl)) (fun _ _ _ h => h) (Or.inr ⟨by rfl, rfl⟩) ?_ ?_
       rotate_left
       ·simp only [Act.put, List.setIfInBounds_toArray, List.set_cons_zero, List.set_cons_succ, i64_w, i32_w]
        rfl
       refine pure_ (i := 21) (N := some 41) (v := undef) (a' := ?_) #[true, true, true, true, true, true, true, true, true, true, true, true, true, true, true, true, true, true, true, true, true, true, false, false, false, false, false, false, false, false, false, false, false, false, false, false, false, false] rfl rfl (any_of HT_.out (by kernel_rfl)) (fun _ _ _ h => h) (Or.inr ⟨by rfl, rfl⟩) ?_ ?_
       rotate_left
       ·simp only [Act.put, List.setIfInBounds_toArray, List.set_cons_zero, List.set_cons_succ, i64_w, i32_w]
        rfl
       refine pure_ (i := 22) (N := some 42) (v := undef) (a' := ?_) #[true, true, true, true, true, true, true, true, true, true, true, true, true, true, true, true, true, true, true, true, true, true, true, false, false, false, false, false, false, false, false, false, false, false, false, false, false, false] rfl rfl (any_of HT_.out (by kernel_rfl)) (fun _ _ _ h => h) (Or.inr ⟨by rfl, rfl⟩) ?_ ?_
       rotate_left
       ·simp only [Act.put, List.setIfInBounds_toArray, List.set_cons_zero, List.set_cons_succ, i64_w, i32_w]
        rfl
       refine q_P12 23 (some 43) #[true, true, true, true, true, true, true, true, true, true, true, true, true, true, true, true, true, true, true, true, true, true, true, true, false, false, false, false, false, false, false, false, false, false, false, false, false, false] HT_.out ?_
       refine q_P12 24 (some 44) #[true, true, true, true, true, true, true, true, true, true, true, true, true, true, true, true, true, true, true, true, true, true, true, true, true, false, false, false, false, false, false, false, false, false, false, false, false, false] HT_.out ?_
       refine q_P12 25 (some 45) #[true, true, true, true, true, true, true, true, true, true, true, true, true, true, true, true, true, true, true, true, true, true, true, true, true, true, false, false, false, false, false, false, false, false, false, false, false, false] HT_.out ?_
       refine q_P12 26 (some 46) #[true, true, true, true, true, true, true, true, true, true, true, true, true, true, true, true, true, true, true, true, true, true, true, true, true, true, true, false, false, false, false, false, false, false, false, false, false, false] HT_.out ?_
       refine q_t 27 (some 47) #[true, true, true, true, true, true, true, true, true, true, true, true, true, true, true, true, true, true, true, true, true, true, true, true, true, true, true, true, false, false, false, false, false, false, false, false, false, false] HT_.out HW_.out hHeld ?_
       refine q_P12 28 (some 48) #[true, true, true, true, true, true, true, true, true, true, true, true, true, true, true, true, true, true, true, true, true, true, true, true, true, true, true, true, true, false, false, false, false, false, false, false, false, false] HT_.out ?_
       refine q_P12 29 (some 49) #[true, true, true, true, true, true, true, true, true, true, true, true, true, true, true, true, true, true, true, true, true, true, true, true, true, true, true, true, true, true, false, false, false, false, false, false, false, false] HT_.out ?_
       refine q_P12 30 (some 50) #[true, true, true, true, true, true, true, true, true, true, true, true, true, true, true, true, true, true, true, true, true, true, true, true, true, true, true, true, true, true, true, false, false, false, false, false, false, false] HT_.out ?_
       refine q_P12 33 (some 53) #[true, true, true, true, true, true, true, true, true, true, true, true, true, true, true, true, true, true, true, true, true, true, true, true, true, true, true, true, true, true, true, false, false, true, false, false, false, false] HT_.out ?_
       refine q_t 34 (some 54) #[true, true, true, true, true, true, true, true, true, true, true, true, true, true, true, true, true, true, true, true, true, true, true, true, true, true, true, true, true, true, true, false, false, true, true, false, false, false] HT_.out HW_.out hHeld ?_
       refine one_ (i := 31) (N := some 51) #[true, true, true, true, true, true, true, true, true, true, true, true, true, true, true, true, true, true, true, true, true, true, true, true, true, true, true, true, true, true, true, true, false, true, true, false, false, false] rfl rfl (one_of HT_.out (by kernel_rfl)) (by decide) (fun K hK => ?_)
       refine goes_ Try.func48 (by kernel_rfl) rfl #[.slice Ao132 t418.length co132] (by rfl) rfl rfl (by (try simp only [List.map_toArray, List.map_cons, List.map_nil]); first | done | rfl | (simp only [List.length_drop, List.length_take]; rfl)) ?_
       with_reducible refine (spec_UnpackContract.calls k _ _ t418 t451 t452 t453 _ ?side1 ?side2 A87.out).mono ?_
       (case side1 => exact q_c ((Kd.R_reads' HO420.out).2.2))
       (case side2 => exact (Kd.R_reads' HO420.out).2.1)
       rintro e w141 ⟨v454, rfl, ho0, hb⟩
       refine ⟨_, rfl, ?_⟩
       have n0_ := Aside0.mk (Kd.R_below (q_r (HO417.out)) hb)
       have n1_ := Aside0.mk (Kd.R_below (q_r (HO420.out)) hb)
       have n2_ := Aside0.mk (Kd.R_elder' (q_r (HO425.out)) (Kd.R_base ho0) hb)
       have n3_ := Aside0.mk (Kd.R_lower (Kd.R_new' ho0 (Kd.R_lt (q_r (HO425.out)))) (below_size bq))
       have n4_ := Aside0.mk (blk_below (q_b BK426.out) hb)
       have n5_ := Aside0.mk (below_step bq hb)
       clear HO417
       clear HO420
       clear HO425
       clear BK426
       clear HB
       have HO417 := n0_
       have HO420 := n1_
       have HO425 := n2_
       have HO455 := n3_
       have BK426 := n4_
       have HB := n5_
       clear n0_ n1_ n2_ n3_ n4_ n5_
       (try clear hb)
       (try clear hb2)
       (try clear hk)
       (try clear hi)
       (try clear ho0)
       refine hK.out _ _ ⟨q_z BK426.out 0, q_z BK426.out 1, q_z BK426.out 2⟩ (fun hHeld => ?_)
       clear hK K
       refine norm_ (a' := ?_) ?_ ?_
       rotate_left
       ·show Act.put _ (some 51) _ = _
        simp only [Act.put, List.setIfInBounds_toArray, List.set_cons_zero, List.set_cons_succ, i64_w, i32_w]
        rfl
       refine q_P12 32 (some 52) #[true, true, true, true, true, true, true, true, true, true, true, true, true, true, true, true, true, true, true, true, true, true, true, true, true, true, true, true, true, true, true, true, true, true, true, false, false, false] HT_.out ?_
       refine q_P12 35 (some 55) #[true, true, true, true, true, true, true, true, true, true, true, true, true, true, true, true, true, true, true, true, true, true, true, true, true, true, true, true, true, true, true, true, true, true, true, true, false, false] HT_.out ?_
       refine q_P12 36 (some 56) #[true, true, true, true, true, true, true, true, true, true, true, true, true, true, true, true, true, true, true, true, true, true, true, true, true, true, true, true, true, true, true, true, true, true, true, true, true, false] HT_.out ?_
       refine q_P12 37 (some 57) #[true, true, true, true, true, true, true, true, true, true, true, true, true, true, true, true, true, true, true, true, true, true, true, true, true, true, true, true, true, true, true, true, true, true, true, true, true, true] HT_.out ?_
       refine done_ (done_of HT_.out (by kernel_rfl)) ?_
       try go_wp2_with (first | ((with_reducible refine gate_callee (f := 58) rfl ?_); refine goesLq (some 59) rfl rfl Try.func58 (by kernel_rfl) rfl #[.slice A0 l0.length c0] rfl ?_; (with_reducible refine (spec_DrawPackContract.calls k _ _ l0 t456 t457 _ ?side1 ?side2 A89.out).mono ?_); (case side1 => exact q_c ((Kd.C_below HR0.out HB.out))); (case side2 => exact HC0.out); rintro e w142 ⟨v458, rfl, ho0, hb⟩; refine ⟨_, rfl, ?_⟩; have n0_ := Aside0.mk (Kd.R_below (q_r (HO417.out)) hb); have n1_ := Aside0.mk (Kd.R_below (q_r (HO420.out)) hb); have n2_ := Aside0.mk (Kd.R_elder' (q_r (HO425.out)) (Kd.R_base ho0) hb); have n3_ := Aside0.mk (Kd.R_elder' (q_r (HO455.out)) (Kd.R_base ho0) hb); have n4_ := Aside0.mk (Kd.R_lower (Kd.R_new' (Kd.R_new' ho0 (Kd.R_lt (q_r (HO425.out)))) (Kd.R_lt (q_r (HO455.out)))) (below_size bq)); have n5_ := Aside0.mk (blk_below (q_b BK426.out) hb); have n6_ := Aside0.mk (below_step bq hb); revert n0_ n1_ n2_ n3_ n4_ n5_ n6_; clear HO417 HO420 HO425 HO455 BK426 HB; intro HO417 HO420 HO425 HO455 HO459 BK426 HB; (try clear hb); (try clear hb2); (try clear hk); (try clear hi); (try clear ho0)) | ((with_reducible refine gate_dst (N := 7) rfl ?_); refine q_box (N := 7) (cs := #[.int .i64 0, .slice none 0 0]) (t := 36) ?_; intro gb460 hg w143 hbox hb; have n0_ := Aside0.mk (Kd.R_below (q_r (HO417.out)) hb); have n1_ := Aside0.mk (Kd.R_below (q_r (HO420.out)) hb); have n2_ := Aside0.mk (Kd.R_below (q_r (HO425.out)) hb); have n3_ := Aside0.mk (Kd.R_below (q_r (HO455.out)) hb); have n4_ := Aside0.mk (Kd.R_below (q_r (HO459.out)) hb); have n5_ := Aside0.mk (blk_below (q_b BK426.out) hb); have n6_ := Aside0.mk (below_step bq hb); have n7_ := Aside0.mk (hbox); have n8_ := Aside0.mk ((q_g hg bq : w.heap.size ≤ gb460)); have n9_ := Aside0.mk ((q_g hg bq : w.heap.size ≤ gb460)); have n10_ := Aside0.mk ((q_n hg (q_b BK426.out) : gb426 ≠ gb460)); have n11_ := Aside0.mk ((q_m hg (q_b BK426.out) : gb460 ≠ gb426)); revert n0_ n1_ n2_ n3_ n4_ n5_ n6_ n7_ n8_ n9_ n10_ n11_; clear HO417 HO420 HO425 HO455 HO459 BK426 HB; intro HO417 HO420 HO425 HO455 HO459 BK426 HB BK460 GW460 GE460 NB426_460 NB460_426; clear hb hbox hg; have hnb144 := NB460_426.out; have hnc144 := NB426_460.out; obtain ⟨hcz145_0, hcz145_1, hfz145_0, hfz145_1⟩ := q_2 BK460.out; obtain ⟨Ao146, co146, eo146⟩ := Kd.R_slice HO459.out; subst eo146) | ((with_reducible refine gate_callee (f := 47) rfl ?_); refine goesLq (some 61) rfl rfl Try.func47 (by kernel_rfl) rfl #[.agg #[.int .i64 t456, .slice Ao146 t457.length co146]] rfl ?_; (with_reducible refine (impl_PackContract.calls k t456 _ _ t457 t461 t462 _ ?side1 ?side2 A90.out).mono ?_); (case side1 => refine (Kd.R_reads' (e := 89) (base := w.heap.size) (ok := fun k_ => ((True ∧ some k_ ≠ (.slice Ao136 t423.length co136 : Value).ownBlock) ∧ some k_ ≠ (v454 : Value).ownBlock)) (n := t457.length) (c := co146) ?_).2.2; exact (by (with_reducible repeat (first | apply Kd.R_alloc | apply Kd.R_drewN | apply Kd.R_drew)); exact (Kd.R_mono (Kd.R_far (p := ⟨gb460, 1, none⟩) (Kd.R_far (p := ⟨gb460, 0, none⟩) (Kd.R_types HO459.out BK460.out (by decide)) (fun _ hk => hk.2) (.int .i64 t456)) (fun _ hk => hk.2) (.slice Ao146 t457.length co146)) (fun _ h_ => h_.1)))); (case side2 => exact (Kd.R_reads' HO459.out).2.1); rintro e w147 ⟨v463, rfl, ho0, hb⟩; refine ⟨_, rfl, ?_⟩; have n0_ := Aside0.mk (Kd.R_elder' (by (with_reducible repeat (first | apply Kd.R_alloc | apply Kd.R_drewN | apply Kd.R_drew)); exact (Kd.R_mono (Kd.R_far (p := ⟨gb460, 1, none⟩) (Kd.R_far (p := ⟨gb460, 0, none⟩) (Kd.R_types HO417.out BK460.out (by decide)) (fun _ hk => hk.2) (.int .i64 t456)) (fun _ hk => hk.2) (.slice Ao146 t457.length co146)) (fun _ h_ => h_.1))) (Kd.R_base ho0) hb); have n1_ := Aside0.mk (Kd.R_elder' (by (with_reducible repeat (first | apply Kd.R_alloc | apply Kd.R_drewN | apply Kd.R_drew)); exact (Kd.R_mono (Kd.R_far (p := ⟨gb460, 1, none⟩) (Kd.R_far (p := ⟨gb460, 0, none⟩) (Kd.R_types HO420.out BK460.out (by decide)) (fun _ hk => hk.2) (.int .i64 t456)) (fun _ hk => hk.2) (.slice Ao146 t457.length co146)) (fun _ h_ => h_.1))) (Kd.R_base ho0) hb); have n2_ := Aside0.mk (Kd.R_below (by (with_reducible repeat (first | apply Kd.R_alloc | apply Kd.R_drewN | apply Kd.R_drew)); exact (Kd.R_mono (Kd.R_far (p := ⟨gb460, 1, none⟩) (Kd.R_far (p := ⟨gb460, 0, none⟩) (Kd.R_types HO425.out BK460.out (by decide)) (fun _ hk => hk.2) (.int .i64 t456)) (fun _ hk => hk.2) (.slice Ao146 t457.length co146)) (fun _ h_ => h_.1))) hb); have n3_ := Aside0.mk (Kd.R_below (by (with_reducible repeat (first | apply Kd.R_alloc | apply Kd.R_drewN | apply Kd.R_drew)); exact (Kd.R_mono (Kd.R_far (p := ⟨gb460, 1, none⟩) (Kd.R_far (p := ⟨gb460, 0, none⟩) (Kd.R_types HO455.out BK460.out (by decide)) (fun _ hk => hk.2) (.int .i64 t456)) (fun _ hk => hk.2) (.slice Ao146 t457.length co146)) (fun _ h_ => h_.1))) hb); have n4_ := Aside0.mk (Kd.R_below (by (with_reducible repeat (first | apply Kd.R_alloc | apply Kd.R_drewN | apply Kd.R_drew)); exact (Kd.R_mono (Kd.R_far (p := ⟨gb460, 1, none⟩) (Kd.R_far (p := ⟨gb460, 0, none⟩) (Kd.R_types HO459.out BK460.out (by decide)) (fun _ hk => hk.2) (.int .i64 t456)) (fun _ hk => hk.2) (.slice Ao146 t457.length co146)) (fun _ h_ => h_.1))) hb); have n5_ := Aside0.mk (Kd.R_lower (Kd.R_new' (Kd.R_new' ho0 (Kd.R_lt (by (with_reducible repeat (first | apply Kd.R_alloc | apply Kd.R_drewN | apply Kd.R_drew)); exact (Kd.R_mono (Kd.R_far (p := ⟨gb460, 1, none⟩) (Kd.R_far (p := ⟨gb460, 0, none⟩) (Kd.R_types HO417.out BK460.out (by decide)) (fun _ hk => hk.2) (.int .i64 t456)) (fun _ hk => hk.2) (.slice Ao146 t457.length co146)) (fun _ h_ => h_.1))))) (Kd.R_lt (by (with_reducible repeat (first | apply Kd.R_alloc | apply Kd.R_drewN | apply Kd.R_drew)); exact (Kd.R_mono (Kd.R_far (p := ⟨gb460, 1, none⟩) (Kd.R_far (p := ⟨gb460, 0, none⟩) (Kd.R_types HO420.out BK460.out (by decide)) (fun _ hk => hk.2) (.int .i64 t456)) (fun _ hk => hk.2) (.slice Ao146 t457.length co146)) (fun _ h_ => h_.1))))) (below_size bq)); have n6_ := Aside0.mk (blk_below (g := gb426) (o := .cells #[.int .i64 t421, .int .i64 t422, .slice Ao136 t423.length co136] 59 (0, 0)) (by (with_reducible repeat (first | refine blk_drewN ?_ _ | refine blk_drew ?_ | refine blk_alloc ?_ _)); refine blk_far ?_ NB426_460.out _; (with_reducible repeat (first | refine blk_drewN ?_ _ | refine blk_drew ?_ | refine blk_alloc ?_ _)); refine blk_far ?_ NB426_460.out _; (with_reducible repeat (first | refine blk_drewN ?_ _ | refine blk_drew ?_ | refine blk_alloc ?_ _)); exact BK426.out) hb); have n7_ := Aside0.mk (blk_below (g := gb460) (o := .cells #[.int .i64 t456, .slice Ao146 t457.length co146] 36 (0, 0)) (by (with_reducible repeat (first | refine blk_drewN ?_ _ | refine blk_drew ?_ | refine blk_alloc ?_ _)); refine blk_put (cs := #[.int .i64 t456, .slice none 0 0]) ?_ 1 _ rfl; (with_reducible repeat (first | refine blk_drewN ?_ _ | refine blk_drew ?_ | refine blk_alloc ?_ _)); refine blk_put (cs := #[.int .i64 0, .slice none 0 0]) ?_ 0 _ rfl; (with_reducible repeat (first | refine blk_drewN ?_ _ | refine blk_drew ?_ | refine blk_alloc ?_ _)); exact BK460.out) hb); have n8_ := Aside0.mk (below_step bq hb); revert n0_ n1_ n2_ n3_ n4_ n5_ n6_ n7_ n8_; clear HO417 HO420 HO425 HO455 HO459 BK426 BK460 HB; intro HO417 HO420 HO425 HO455 HO459 HO464 BK426 BK460 HB; (try clear hb); (try clear hb2); (try clear hk); (try clear hi); (try clear ho0)) | ((with_reducible refine gate_dst (N := 8) rfl ?_); refine q_box (N := 8) (cs := #[.int .i64 0, .slice none 0 0]) (t := 24) ?_; intro gb465 hg w148 hbox hb; have n0_ := Aside0.mk (Kd.R_below (q_r (HO417.out)) hb); have n1_ := Aside0.mk (Kd.R_below (q_r (HO420.out)) hb); have n2_ := Aside0.mk (Kd.R_below (q_r (HO425.out)) hb); have n3_ := Aside0.mk (Kd.R_below (q_r (HO455.out)) hb); have n4_ := Aside0.mk (Kd.R_below (q_r (HO459.out)) hb); have n5_ := Aside0.mk (Kd.R_below (q_r (HO464.out)) hb); have n6_ := Aside0.mk (blk_below (q_b BK426.out) hb); have n7_ := Aside0.mk (blk_below (q_b BK460.out) hb); have n8_ := Aside0.mk (below_step bq hb); have n9_ := Aside0.mk (hbox); have n10_ := Aside0.mk ((q_g hg bq : w.heap.size ≤ gb465)); have n11_ := Aside0.mk ((q_g hg bq : w.heap.size ≤ gb465)); have n12_ := Aside0.mk ((q_n hg (q_b BK426.out) : gb426 ≠ gb465)); have n13_ := Aside0.mk ((q_m hg (q_b BK426.out) : gb465 ≠ gb426)); have n14_ := Aside0.mk ((q_n hg (q_b BK460.out) : gb460 ≠ gb465)); have n15_ := Aside0.mk ((q_m hg (q_b BK460.out) : gb465 ≠ gb460)); revert n0_ n1_ n2_ n3_ n4_ n5_ n6_ n7_ n8_ n9_ n10_ n11_ n12_ n13_ n14_ n15_; clear HO417 HO420 HO425 HO455 HO459 HO464 BK426 BK460 HB; intro HO417 HO420 HO425 HO455 HO459 HO464 BK426 BK460 HB BK465 GW465 GE465 NB426_465 NB465_426 NB460_465 NB465_460; clear hb hbox hg; have hnb149 := NB465_426.out; have hnc149 := NB426_465.out; have hnb150 := NB465_460.out; have hnc150 := NB460_465.out; obtain ⟨hcz151_0, hcz151_1, hfz151_0, hfz151_1⟩ := q_2 BK465.out; obtain ⟨Ao152, co152, eo152⟩ := Kd.R_slice HO464.out; subst eo152))
       have n0_ : Aside0 (Kd.R (Kd.int .u8) 5 ((w148.setCell ⟨gb465, 0, none⟩ (.int .i64 t461)).setCell ⟨gb465, 1, none⟩ (.slice Ao152 t462.length co152)) w.heap.size (fun k_ => some k_ ≠ (.slice Ao132 t418.length co132 : Value).ownBlock ∧ some k_ ≠ (.slice Ao152 t462.length co152 : Value).ownBlock) (.slice Ao139 t415.length co139) t415) := ⟨by (with_reducible repeat (first | apply Kd.R_alloc | apply Kd.R_drewN | apply Kd.R_drew)); exact Kd.R_mono (Kd.R_far (p := ⟨gb465, 1, none⟩) (Kd.R_far (p := ⟨gb465, 0, none⟩) (Kd.R_types HO417.out BK465.out (by decide)) (fun _ hk => hk.2) (.int .i64 t461)) (fun _ hk => hk.2) (.slice Ao152 t462.length co152)) (fun _ hk => ⟨hk.1.1, hk.1.2⟩)⟩
       have n1_ : Aside0 (Kd.R (Kd.int .u8) 5 ((w148.setCell ⟨gb465, 0, none⟩ (.int .i64 t461)).setCell ⟨gb465, 1, none⟩ (.slice Ao152 t462.length co152)) w.heap.size (fun k_ => some k_ ≠ (.slice Ao139 t415.length co139 : Value).ownBlock ∧ some k_ ≠ (.slice Ao152 t462.length co152 : Value).ownBlock) (.slice Ao132 t418.length co132) t418) := ⟨by (with_reducible repeat (first | apply Kd.R_alloc | apply Kd.R_drewN | apply Kd.R_drew)); exact Kd.R_mono (Kd.R_far (p := ⟨gb465, 1, none⟩) (Kd.R_far (p := ⟨gb465, 0, none⟩) (Kd.R_types HO420.out BK465.out (by decide)) (fun _ hk => hk.2) (.int .i64 t461)) (fun _ hk => hk.2) (.slice Ao152 t462.length co152)) (fun _ hk => ⟨hk.1.1, hk.1.2⟩)⟩
       have n2_ : Aside0 (Kd.R k89 89 ((w148.setCell ⟨gb465, 0, none⟩ (.int .i64 t461)).setCell ⟨gb465, 1, none⟩ (.slice Ao152 t462.length co152)) w.heap.size (fun k_ => some k_ ≠ (v454 : Value).ownBlock ∧ some k_ ≠ (.slice Ao146 t457.length co146 : Value).ownBlock) (.slice Ao136 t423.length co136) t423) := ⟨by (with_reducible repeat (first | apply Kd.R_alloc | apply Kd.R_drewN | apply Kd.R_drew)); exact Kd.R_mono (Kd.R_far (p := ⟨gb465, 1, none⟩) (Kd.R_far (p := ⟨gb465, 0, none⟩) (Kd.R_types HO425.out BK465.out (by decide)) (fun _ hk => hk.2) (.int .i64 t461)) (fun _ hk => hk.2) (.slice Ao152 t462.length co152)) (fun _ hk => ⟨hk.1.1.2, hk.1.2⟩)⟩
       have n3_ : Aside0 (Kd.R k89 89 ((w148.setCell ⟨gb465, 0, none⟩ (.int .i64 t461)).setCell ⟨gb465, 1, none⟩ (.slice Ao152 t462.length co152)) w.heap.size (fun k_ => some k_ ≠ (.slice Ao136 t423.length co136 : Value).ownBlock ∧ some k_ ≠ (.slice Ao146 t457.length co146 : Value).ownBlock) v454 t453) := ⟨by (with_reducible repeat (first | apply Kd.R_alloc | apply Kd.R_drewN | apply Kd.R_drew)); exact Kd.R_mono (Kd.R_far (p := ⟨gb465, 1, none⟩) (Kd.R_far (p := ⟨gb465, 0, none⟩) (Kd.R_types HO455.out BK465.out (by decide)) (fun _ hk => hk.2) (.int .i64 t461)) (fun _ hk => hk.2) (.slice Ao152 t462.length co152)) (fun _ hk => ⟨hk.1.1.2, hk.1.2⟩)⟩
       have n4_ : Aside0 (Kd.R k89 89 ((w148.setCell ⟨gb465, 0, none⟩ (.int .i64 t461)).setCell ⟨gb465, 1, none⟩ (.slice Ao152 t462.length co152)) w.heap.size (fun k_ => some k_ ≠ (.slice Ao136 t423.length co136 : Value).ownBlock ∧ some k_ ≠ (v454 : Value).ownBlock) (.slice Ao146 t457.length co146) t457) := ⟨by (with_reducible repeat (first | apply Kd.R_alloc | apply Kd.R_drewN | apply Kd.R_drew)); exact Kd.R_mono (Kd.R_far (p := ⟨gb465, 1, none⟩) (Kd.R_far (p := ⟨gb465, 0, none⟩) (Kd.R_types HO459.out BK465.out (by decide)) (fun _ hk => hk.2) (.int .i64 t461)) (fun _ hk => hk.2) (.slice Ao152 t462.length co152)) (fun _ hk => ⟨hk.1.1.2, hk.1.2⟩)⟩
       have n5_ : Aside0 (Kd.R (Kd.int .u8) 5 ((w148.setCell ⟨gb465, 0, none⟩ (.int .i64 t461)).setCell ⟨gb465, 1, none⟩ (.slice Ao152 t462.length co152)) w.heap.size (fun k_ => some k_ ≠ (.slice Ao139 t415.length co139 : Value).ownBlock ∧ some k_ ≠ (.slice Ao132 t418.length co132 : Value).ownBlock) (.slice Ao152 t462.length co152) t462) := ⟨by (with_reducible repeat (first | apply Kd.R_alloc | apply Kd.R_drewN | apply Kd.R_drew)); exact Kd.R_mono (Kd.R_far (p := ⟨gb465, 1, none⟩) (Kd.R_far (p := ⟨gb465, 0, none⟩) (Kd.R_types HO464.out BK465.out (by decide)) (fun _ hk => hk.2) (.int .i64 t461)) (fun _ hk => hk.2) (.slice Ao152 t462.length co152)) (fun _ hk => ⟨hk.1.1.2, hk.1.2⟩)⟩
       have n6_ : Aside0 (((w148.setCell ⟨gb465, 0, none⟩ (.int .i64 t461)).setCell ⟨gb465, 1, none⟩ (.slice Ao152 t462.length co152)).heap[gb426]? = some (.cells #[.int .i64 t421, .int .i64 t422, .slice Ao136 t423.length co136] 59 (0, 0))) := ⟨by (with_reducible repeat (first | refine blk_drewN ?_ _ | refine blk_drew ?_ | refine blk_alloc ?_ _)); refine blk_far ?_ NB426_465.out _; (with_reducible repeat (first | refine blk_drewN ?_ _ | refine blk_drew ?_ | refine blk_alloc ?_ _)); refine blk_far ?_ NB426_465.out _; (with_reducible repeat (first | refine blk_drewN ?_ _ | refine blk_drew ?_ | refine blk_alloc ?_ _)); exact BK426.out⟩
       have n7_ : Aside0 (((w148.setCell ⟨gb465, 0, none⟩ (.int .i64 t461)).setCell ⟨gb465, 1, none⟩ (.slice Ao152 t462.length co152)).heap[gb460]? = some (.cells #[.int .i64 t456, .slice Ao146 t457.length co146] 36 (0, 0))) := ⟨by (with_reducible repeat (first | refine blk_drewN ?_ _ | refine blk_drew ?_ | refine blk_alloc ?_ _)); refine blk_far ?_ NB460_465.out _; (with_reducible repeat (first | refine blk_drewN ?_ _ | refine blk_drew ?_ | refine blk_alloc ?_ _)); refine blk_far ?_ NB460_465.out _; (with_reducible repeat (first | refine blk_drewN ?_ _ | refine blk_drew ?_ | refine blk_alloc ?_ _)); exact BK460.out⟩
       have n8_ : Aside0 (((w148.setCell ⟨gb465, 0, none⟩ (.int .i64 t461)).setCell ⟨gb465, 1, none⟩ (.slice Ao152 t462.length co152)).heap[gb465]? = some (.cells #[.int .i64 t461, .slice Ao152 t462.length co152] 24 (0, 0))) := ⟨by (with_reducible repeat (first | refine blk_drewN ?_ _ | refine blk_drew ?_ | refine blk_alloc ?_ _)); refine blk_put (cs := #[.int .i64 t461, .slice none 0 0]) ?_ 1 _ rfl; (with_reducible repeat (first | refine blk_drewN ?_ _ | refine blk_drew ?_ | refine blk_alloc ?_ _)); refine blk_put (cs := #[.int .i64 0, .slice none 0 0]) ?_ 0 _ rfl; (with_reducible repeat (first | refine blk_drewN ?_ _ | refine blk_drew ?_ | refine blk_alloc ?_ _)); exact BK465.out⟩
       have n9_ : Aside0 (Below w.heap.size w ((w148.setCell ⟨gb465, 0, none⟩ (.int .i64 t461)).setCell ⟨gb465, 1, none⟩ (.slice Ao152 t462.length co152))) := ⟨bq⟩
       (try clear HO417)
       (try clear HO420)
       (try clear HO425)
       (try clear HO455)
       (try clear HO459)
       (try clear HO464)
       (try clear BK426)
       (try clear BK460)
       (try clear BK465)
       (try clear HB)
       generalize ((w148.setCell ⟨gb465, 0, none⟩ (.int .i64 t461)).setCell ⟨gb465, 1, none⟩ (.slice Ao152 t462.length co152)) = w153 at n0_ n1_ n2_ n3_ n4_ n5_ n6_ n7_ n8_ n9_ ⊢
       have HO417 := n0_
       have HO420 := n1_
       have HO425 := n2_
       have HO455 := n3_
       have HO459 := n4_
       have HO464 := n5_
       have BK426 := n6_
       have BK460 := n7_
       have BK465 := n8_
       have HB := n9_
       clear n0_ n1_ n2_ n3_ n4_ n5_ n6_ n7_ n8_ n9_
       have n0_ := Aside0.mk (Kd.R_drew HO417.out)
       have n1_ := Aside0.mk (Kd.R_drew HO420.out)
       have n2_ := Aside0.mk (Kd.R_drew HO425.out)
       have n3_ := Aside0.mk (Kd.R_drew HO455.out)
       have n4_ := Aside0.mk (Kd.R_drew HO459.out)
       have n5_ := Aside0.mk (Kd.R_drew HO464.out)
       have n6_ := Aside0.mk (blk_drew BK426.out)
       have n7_ := Aside0.mk (blk_drew BK460.out)
       have n8_ := Aside0.mk (blk_drew BK465.out)
       have n9_ := Aside0.mk (below_drew1 HB.out)
       clear HO417
       clear HO420
       clear HO425
       clear HO455
       clear HO459
       clear HO464
       clear BK426
       clear BK460
       clear BK465
       clear HB
       have HO417 := n0_
       have HO420 := n1_
       have HO425 := n2_
       have HO455 := n3_
       have HO459 := n4_
       have HO464 := n5_
       have BK426 := n6_
       have BK460 := n7_
       have BK465 := n8_
       have HB := n9_
       clear n0_ n1_ n2_ n3_ n4_ n5_ n6_ n7_ n8_ n9_
       refine start_ (n := 6) (S := fun w' => w'.cell? ⟨gb460, 0, none⟩ = some (.int .i64 t456) ∧ w'.cell? ⟨gb460, 1, none⟩ = some (.slice Ao146 t457.length co146) ∧ w'.cell? ⟨gb465, 0, none⟩ = some (.int .i64 t461) ∧ w'.cell? ⟨gb465, 1, none⟩ = some (.slice Ao152 t462.length co152)) (ds := []) #[false, false, false, false, false, false] (by kernel_rfl) rfl rfl ⟨q_z BK460.out 0, q_z BK460.out 1, q_z BK465.out 0, q_z BK465.out 1⟩ (fun hHeld => ?_)
       generalize w153.drew = w154 at HO417 HO420 HO425 HO455 HO459 HO464 BK426 BK460 BK465 HB hHeld ⊢
       refine pure_ (i := 2) (N := some 67) (v := ?_) (a' := ?_) #[false, false, true, false, false, false] rfl rfl (by kernel_rfl) (fun _ _ _ h => h) (Or.inl ⟨by rfl, ?_⟩) ?_ ?_
       rotate_left
       ·intro w'
        go_simp
        (try (simp only [Instr.field, asAgg]; go_simp))
        with_reducible rfl
       rotate_left
       ·simp only [Act.put, List.setIfInBounds_toArray, List.set_cons_zero, List.set_cons_succ, i64_w, i32_w]
        rfl
       refine take_ (i := 0) (N := some 65) (v := ?_) (a' := ?_) #[true, false, true, false, false, false] rfl rfl (by kernel_rfl) (fun _ _ _ h => h) (Or.inl ⟨by rfl, ?_⟩) hHeld ?_ ?_
       rotate_left
       ·rintro w' ⟨s0, s1, s2, s3⟩
        go_simp
        with_reducible rfl
       rotate_left
       ·simp only [Act.put, List.setIfInBounds_toArray, List.set_cons_zero, List.set_cons_succ, i64_w, i32_w]
        rfl
       refine take_ (i := 3) (N := some 68) (v := ?_) (a' := ?_) #[true, false, true, true, false, false] rfl rfl (by kernel_rfl) (fun _ _ _ h => h) (Or.inl ⟨by rfl, ?_⟩) hHeld ?_ ?_
       rotate_left
       ·rintro w' ⟨s0, s1, s2, s3⟩
        go_simp
        with_reducible rfl
       rotate_left
       ·simp only [Act.put, List.setIfInBounds_toArray, List.set_cons_zero, List.set_cons_succ, i64_w, i32_w]
        rfl
       refine one_ (i := 1) (N := some 66) #[true, true, true, true, false, false] rfl rfl (by kernel_rfl) (by decide) (fun K hK => ?_)
       refine goes_ Try.func25 (by kernel_rfl) rfl #[.agg #[.int .i64 t456, .slice Ao146 t457.length co146]] (by rfl) rfl rfl (by (try simp only [List.map_toArray, List.map_cons, List.map_nil]); first | done | rfl | (simp only [List.length_drop, List.length_take]; rfl)) ?_
       with_reducible refine (spec_ContractFault.calls k t456 _ _ t457 t473 _ ?side1 ?side2 A128.out).mono ?_
       (case side1 => exact q_c ((Kd.R_reads' HO459.out).2.2))
       (case side2 => exact (Kd.R_reads' HO459.out).2.1)
       rintro e w155 ⟨rfl, hb⟩
       refine ⟨_, rfl, ?_⟩
       have n0_ := Aside0.mk (Kd.R_below (q_r (HO417.out)) hb)
       have n1_ := Aside0.mk (Kd.R_below (q_r (HO420.out)) hb)
       have n2_ := Aside0.mk (Kd.R_below (q_r (HO425.out)) hb)
       have n3_ := Aside0.mk (Kd.R_below (q_r (HO455.out)) hb)
       have n4_ := Aside0.mk (Kd.R_below (q_r (HO459.out)) hb)
       have n5_ := Aside0.mk (Kd.R_below (q_r (HO464.out)) hb)
       have n6_ := Aside0.mk (blk_below (q_b BK426.out) hb)
       have n7_ := Aside0.mk (blk_below (q_b BK460.out) hb)
       have n8_ := Aside0.mk (blk_below (q_b BK465.out) hb)
       have n9_ := Aside0.mk (below_step bq hb)
       clear HO417
       clear HO420
       clear HO425
       clear HO455
       clear HO459
       clear HO464
       clear BK426
       clear BK460
       clear BK465
       clear HB
       have HO417 := n0_
       have HO420 := n1_
       have HO425 := n2_
       have HO455 := n3_
       have HO459 := n4_
       have HO464 := n5_
       have BK426 := n6_
       have BK460 := n7_
       have BK465 := n8_
       have HB := n9_
       clear n0_ n1_ n2_ n3_ n4_ n5_ n6_ n7_ n8_ n9_
       (try clear hb)
       (try clear hb2)
       (try clear hk)
       (try clear hi)
       refine hK.out _ _ ⟨q_z BK460.out 0, q_z BK460.out 1, q_z BK465.out 0, q_z BK465.out 1⟩ (fun hHeld => ?_)
       clear hK K
       refine norm_ (a' := ?_) ?_ ?_
       rotate_left
       ·show Act.put _ (some 66) _ = _
        simp only [Act.put, List.setIfInBounds_toArray, List.set_cons_zero, List.set_cons_succ, i64_w, i32_w]
        rfl
       refine pure_ (i := 4) (N := some 69) (v := ?_) (a' := ?_) #[true, true, true, true, true, false] rfl rfl (by kernel_rfl) (fun _ _ _ h => h) (Or.inl ⟨by rfl, ?_⟩) ?_ ?_
       rotate_left
       ·intro w'
        go_simp
        (try (simp only [Instr.field, asAgg]; go_simp))
        with_reducible rfl
       rotate_left
       ·simp only [Act.put, List.setIfInBounds_toArray, List.set_cons_zero, List.set_cons_succ, i64_w, i32_w]
        rfl
       refine pure_ (i := 5) (N := some 2) (v := ?_) (a' := ?_) #[true, true, true, true, true, true] rfl rfl (by kernel_rfl) (fun _ _ _ h => h) (Or.inl ⟨by rfl, ?_⟩) ?_ ?_
       rotate_left
       ·intro w'
        go_simp
        (try (simp only [Instr.field, asAgg]; go_simp))
        with_reducible rfl
       rotate_left
       ·simp only [Act.put, List.setIfInBounds_toArray, List.set_cons_zero, List.set_cons_succ, i64_w, i32_w]
        rfl
       refine done_ (by kernel_rfl) ?_
       try go_wp2
       go_ret
       exact ⟨q_e, bq⟩
     ·rw [if_neg c88] at H
      exact absurd H (by simp)
   ·rw [if_neg c10] at H
    have c10b0 : (t428 == t414) = false := beq_eq_false_iff_ne.mpr c10
    have c10b1 : (t428 != t414) = true := bne_iff_ne.mpr c10
    exact absurd H (by simp)
  ·rw [if_neg c8] at H
   have c8b0 : ((t415.length : Int) == 8) = false := beq_eq_false_iff_ne.mpr c8
   have c8b1 : ((t415.length : Int) != 8) = true := bne_iff_ne.mpr c8
   exact absurd H (by simp)

end Go.Proofs.Ytooiamkaipdmpaa.PFnBytes
