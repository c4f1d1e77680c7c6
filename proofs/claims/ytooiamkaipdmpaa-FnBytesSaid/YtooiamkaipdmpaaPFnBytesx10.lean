/- The functions that a law reaches, each as a plain Lean function with the proof that the machine comes to its answer: written by program (the kit's print, turned by wip/gen). No conditions. -/
import Derived.Test.YtooiamkaipdmpaaPFnBytesx0
import Derived.Test.YtooiamkaipdmpaaPFnBytesx8
import Derived.Test.YtooiamkaipdmpaaPFnBytesx9
namespace Go.Proofs.Ytooiamkaipdmpaa.PFnBytes
open Go.RowKit Go.Proofs.YtooiamkaipdmpaaW.PrintWords Go.Proofs.YtooiamkaipdmpaaW.PrintLast Go.Proofs.YtooiamkaipdmpaaW.PrintMore
attribute [local go_sem] max2_int min2_int max_two min_two max_three min_three max_four min_four   -- for this text's walks alone
set_option linter.unusedVariables false
set_option linter.unusedSimpArgs false

/-! ### spec_l1Bent: function 97 -/
def spec_l1Bent.f (k : Nat) (s0_0 : List Int) (s0_1 : Int) : Option (Int × (List (S89)) × Int) := (spec_l1Next.f s0_0 s0_1 9).bind fun bt307 => ((spec_l1Draw.f k s0_0 bt307.2 (wrap64 (1 + bt307.1))).bind fun bt309 => ((spec_l1Next.f s0_0 bt309.2.2 (bt309.2.1.length : Int)).bind fun bt315 => ((spec_l1Next.f s0_0 bt315.2 24).bind fun bt317 => (if bt317.1 = 0 then ((spec_l1Pick.f s0_0 bt317.2 (([0, (-1), 1000000000, 1000000001] : List Int))).bind fun bt322 => (some (bt322.1, bt309.2.1, bt322.2))) else (if bt317.1 = 1 then ((spec_l1Pick.f s0_0 bt317.2 (([(-1), 3, 1] : List Int))).bind fun bt327 => (if 0 ≤ bt315.1 then (if bt315.1 < (bt309.2.1.length : Int) then (some (bt309.1, (bt309.2.1.set (bt315.1 : Int).toNat (⟨bt327.1, (rd_T89 bt309.2.1 bt315.1).f1, (rd_T89 bt309.2.1 bt315.1).f2, (rd_T89 bt309.2.1 bt315.1).f3⟩ : S89)), bt327.2)) else (none)) else (none))) else (if bt317.1 = 2 then ((spec_l1Pick.f s0_0 bt317.2 (([(-1), 6, 5] : List Int))).bind fun bt333 => (if 0 ≤ bt315.1 then (if bt315.1 < (bt309.2.1.length : Int) then (some (bt309.1, (bt309.2.1.set (bt315.1 : Int).toNat (⟨(rd_T89 bt309.2.1 bt315.1).f0, bt333.1, (rd_T89 bt309.2.1 bt315.1).f2, (rd_T89 bt309.2.1 bt315.1).f3⟩ : S89)), bt333.2)) else (none)) else (none))) else (if bt317.1 = 3 then ((spec_l1Pick.f s0_0 bt317.2 (([(-1), 3, 2] : List Int))).bind fun bt339 => (if 0 ≤ bt315.1 then (if bt315.1 < (bt309.2.1.length : Int) then (some (bt309.1, (bt309.2.1.set (bt315.1 : Int).toNat (⟨(rd_T89 bt309.2.1 bt315.1).f0, (rd_T89 bt309.2.1 bt315.1).f1, bt339.1, (rd_T89 bt309.2.1 bt315.1).f3⟩ : S89)), bt339.2)) else (none)) else (none))) else (if bt317.1 = 4 then ((spec_l1Pick.f s0_0 bt317.2 (([0, 1000000000000, 1000000000001, (-9223372036854775808), 3] : List Int))).bind fun bt345 => (if 0 ≤ bt315.1 then (if bt315.1 < (bt309.2.1.length : Int) then (some (bt309.1, (bt309.2.1.set (bt315.1 : Int).toNat (⟨(rd_T89 bt309.2.1 bt315.1).f0, (rd_T89 bt309.2.1 bt315.1).f1, (rd_T89 bt309.2.1 bt315.1).f2, bt345.1⟩ : S89)), bt345.2)) else (none)) else (none))) else (if bt317.1 = 5 then (if 0 ≤ bt315.1 then (if bt315.1 < (bt309.2.1.length : Int) then (if bt309.2.1.length < 4398046511104 then (some (bt309.1, (bt309.2.1 ++ [(⟨(rd_T89 bt309.2.1 bt315.1).f0, (rd_T89 bt309.2.1 bt315.1).f1, (rd_T89 bt309.2.1 bt315.1).f2, (rd_T89 bt309.2.1 bt315.1).f3⟩ : S89)]), bt317.2)) else (none)) else (none)) else (none)) else (if bt317.1 = 6 then (if 1 ≤ (bt309.2.1.length : Int) then (some (bt309.1, (bt309.2.1.take (1 : Int).toNat), bt317.2)) else (none)) else (if bt317.1 = 7 then (if 9 ≤ 8796093022208 then (some (bt309.1, (List.replicate 9 z89), bt317.2)) else (none)) else (some (bt309.1, bt309.2.1, bt317.2)))))))))))))
def spec_l1Bent.T7 : Bool × List (List Nat × List Nat) := (true, [([], []), ([0], [0]), ([], []), ([], []), ([], []), ([3, 4], [3, 4]), ([1, 2, 0, 1, 2, 3, 4, 5], [1, 2]), ([6, 0, 1, 2, 3, 4, 5], [6]), ([7, 5, 5, 0, 1, 2, 3, 4, 5], [5, 7])])
def spec_l1Bent.B7 : List Nat := [0, 1, 0, 0, 0, 24, 63, 127, 255]
theorem spec_l1Bent.tab7 : rtab .any (opsOf Try.f97 7) = spec_l1Bent.T7 := by kernel_rfl
theorem spec_l1Bent.bits7 : waitsOk spec_l1Bent.T7.2 spec_l1Bent.B7 = true := by kernel_rfl
def spec_l1Bent.T9 : Bool × List (List Nat × List Nat) := (true, [([], []), ([0], [0]), ([], []), ([], []), ([], []), ([3, 4], [3, 4]), ([1, 2, 0, 1, 2, 3, 4, 5], [1, 2]), ([6, 0, 1, 2, 3, 4, 5], [6]), ([7, 5, 5, 0, 1, 2, 3, 4, 5], [5, 7])])
def spec_l1Bent.B9 : List Nat := [0, 1, 0, 0, 0, 24, 63, 127, 255]
theorem spec_l1Bent.tab9 : rtab .any (opsOf Try.f97 9) = spec_l1Bent.T9 := by kernel_rfl
theorem spec_l1Bent.bits9 : waitsOk spec_l1Bent.T9.2 spec_l1Bent.B9 = true := by kernel_rfl
def spec_l1Bent.T11 : Bool × List (List Nat × List Nat) := (true, [([], []), ([0], [0]), ([], []), ([], []), ([], []), ([3, 4], [3, 4]), ([1, 2, 0, 1, 2, 3, 4, 5], [1, 2]), ([6, 0, 1, 2, 3, 4, 5], [6]), ([7, 5, 5, 0, 1, 2, 3, 4, 5], [5, 7])])
def spec_l1Bent.B11 : List Nat := [0, 1, 0, 0, 0, 24, 63, 127, 255]
theorem spec_l1Bent.tab11 : rtab .any (opsOf Try.f97 11) = spec_l1Bent.T11 := by kernel_rfl
theorem spec_l1Bent.bits11 : waitsOk spec_l1Bent.T11.2 spec_l1Bent.B11 = true := by kernel_rfl
def spec_l1Bent.T13 : Bool × List (List Nat × List Nat) := (true, [([], []), ([0], [0]), ([], []), ([], []), ([], []), ([3, 4], [3, 4]), ([1, 2, 0, 1, 2, 3, 4, 5], [1, 2]), ([6, 0, 1, 2, 3, 4, 5], [6]), ([7, 5, 5, 0, 1, 2, 3, 4, 5], [5, 7])])
def spec_l1Bent.B13 : List Nat := [0, 1, 0, 0, 0, 24, 63, 127, 255]
theorem spec_l1Bent.tab13 : rtab .any (opsOf Try.f97 13) = spec_l1Bent.T13 := by kernel_rfl
theorem spec_l1Bent.bits13 : waitsOk spec_l1Bent.T13.2 spec_l1Bent.B13 = true := by kernel_rfl
def spec_l1Bent.T15 : Bool × List (List Nat × List Nat) := (true, [([], []), ([0], [0]), ([], []), ([2], [2]), ([], []), ([3, 4], [3, 4]), ([5], [5]), ([6], [6]), ([1, 7], [1, 7]), ([0, 1, 2, 3, 4, 5, 6, 7, 8], []), ([9, 8, 8, 0, 1, 2, 3, 4, 5, 6, 7, 8], [8, 9])])
def spec_l1Bent.B15 : List Nat := [0, 1, 0, 4, 0, 28, 60, 124, 255, 511, 1023]
theorem spec_l1Bent.tab15 : rtab .any (opsOf Try.f97 15) = spec_l1Bent.T15 := by kernel_rfl
theorem spec_l1Bent.bits15 : waitsOk spec_l1Bent.T15.2 spec_l1Bent.B15 = true := by kernel_rfl
set_option maxHeartbeats 8000000 in
set_option maxRecDepth 100000 in
theorem spec_l1Bent.calls (k : Nat) (g : Nat) (s0_0 : List Int) (s0_1 : Int) (r1 : Int) (r2 : List (S89)) (r3 : Int) (w0 w : World) (hI : IsS130 w0 w g s0_0 s0_1) (hB : Below w0.heap.size w0 w) (h : spec_l1Bent.f k s0_0 s0_1 = some (r1, r2, r3)) :
  Calls Try.prog 97 #[.pointer (some ⟨g, 0, none⟩)] w fun e w' => ∃ v1_ : Value, e = .returned (.agg #[.int .i64 r1, v1_]) ∧ Kd.R k89 89 w' w.heap.size (fun _ => True) v1_ r2 ∧ IsS130 w0 w' g s0_0 r3 ∧ Below w0.heap.size w0 w' ∧ KeepBut w w' g none := by
 have hu36 := Try.underlying36
 have hu89 := Try.underlying89
 have HI0 := Aside0.mk hI
 have HK := Aside0.mk (KeepBut.refl w g none)
 have HL := Aside0.mk hB.size
 clear hI
 have HW0 := Aside0.mk hB.size
 have HB := Aside0.mk hB
 clear hB
 have H : ((spec_l1Next.f s0_0 s0_1 9).bind fun bt307 => ((spec_l1Draw.f k s0_0 bt307.2 (wrap64 (1 + bt307.1))).bind fun bt309 => ((spec_l1Next.f s0_0 bt309.2.2 (bt309.2.1.length : Int)).bind fun bt315 => ((spec_l1Next.f s0_0 bt315.2 24).bind fun bt317 => (if bt317.1 = 0 then ((spec_l1Pick.f s0_0 bt317.2 (([0, (-1), 1000000000, 1000000001] : List Int))).bind fun bt322 => (some (bt322.1, bt309.2.1, bt322.2))) else (if bt317.1 = 1 then ((spec_l1Pick.f s0_0 bt317.2 (([(-1), 3, 1] : List Int))).bind fun bt327 => (if 0 ≤ bt315.1 then (if bt315.1 < (bt309.2.1.length : Int) then (some (bt309.1, (bt309.2.1.set (bt315.1 : Int).toNat (⟨bt327.1, (rd_T89 bt309.2.1 bt315.1).f1, (rd_T89 bt309.2.1 bt315.1).f2, (rd_T89 bt309.2.1 bt315.1).f3⟩ : S89)), bt327.2)) else (none)) else (none))) else (if bt317.1 = 2 then ((spec_l1Pick.f s0_0 bt317.2 (([(-1), 6, 5] : List Int))).bind fun bt333 => (if 0 ≤ bt315.1 then (if bt315.1 < (bt309.2.1.length : Int) then (some (bt309.1, (bt309.2.1.set (bt315.1 : Int).toNat (⟨(rd_T89 bt309.2.1 bt315.1).f0, bt333.1, (rd_T89 bt309.2.1 bt315.1).f2, (rd_T89 bt309.2.1 bt315.1).f3⟩ : S89)), bt333.2)) else (none)) else (none))) else (if bt317.1 = 3 then ((spec_l1Pick.f s0_0 bt317.2 (([(-1), 3, 2] : List Int))).bind fun bt339 => (if 0 ≤ bt315.1 then (if bt315.1 < (bt309.2.1.length : Int) then (some (bt309.1, (bt309.2.1.set (bt315.1 : Int).toNat (⟨(rd_T89 bt309.2.1 bt315.1).f0, (rd_T89 bt309.2.1 bt315.1).f1, bt339.1, (rd_T89 bt309.2.1 bt315.1).f3⟩ : S89)), bt339.2)) else (none)) else (none))) else (if bt317.1 = 4 then ((spec_l1Pick.f s0_0 bt317.2 (([0, 1000000000000, 1000000000001, (-9223372036854775808), 3] : List Int))).bind fun bt345 => (if 0 ≤ bt315.1 then (if bt315.1 < (bt309.2.1.length : Int) then (some (bt309.1, (bt309.2.1.set (bt315.1 : Int).toNat (⟨(rd_T89 bt309.2.1 bt315.1).f0, (rd_T89 bt309.2.1 bt315.1).f1, (rd_T89 bt309.2.1 bt315.1).f2, bt345.1⟩ : S89)), bt345.2)) else (none)) else (none))) else (if bt317.1 = 5 then (if 0 ≤ bt315.1 then (if bt315.1 < (bt309.2.1.length : Int) then (if bt309.2.1.length < 4398046511104 then (some (bt309.1, (bt309.2.1 ++ [(⟨(rd_T89 bt309.2.1 bt315.1).f0, (rd_T89 bt309.2.1 bt315.1).f1, (rd_T89 bt309.2.1 bt315.1).f2, (rd_T89 bt309.2.1 bt315.1).f3⟩ : S89)]), bt317.2)) else (none)) else (none)) else (none)) else (if bt317.1 = 6 then (if 1 ≤ (bt309.2.1.length : Int) then (some (bt309.1, (bt309.2.1.take (1 : Int).toNat), bt317.2)) else (none)) else (if bt317.1 = 7 then (if 9 ≤ 8796093022208 then (some (bt309.1, (List.replicate 9 z89), bt317.2)) else (none)) else (some (bt309.1, bt309.2.1, bt317.2)))))))))))))) = some (r1, r2, r3) := h
 clear h
 replace H := Option.bind_eq_some_iff.mp H
 obtain ⟨⟨t307, t308⟩, A20, H⟩ := H
 replace H : ((spec_l1Draw.f k s0_0 t308 (wrap64 (1 + t307))).bind fun bt309 => ((spec_l1Next.f s0_0 bt309.2.2 (bt309.2.1.length : Int)).bind fun bt315 => ((spec_l1Next.f s0_0 bt315.2 24).bind fun bt317 => (if bt317.1 = 0 then ((spec_l1Pick.f s0_0 bt317.2 (([0, (-1), 1000000000, 1000000001] : List Int))).bind fun bt322 => (some (bt322.1, bt309.2.1, bt322.2))) else (if bt317.1 = 1 then ((spec_l1Pick.f s0_0 bt317.2 (([(-1), 3, 1] : List Int))).bind fun bt327 => (if 0 ≤ bt315.1 then (if bt315.1 < (bt309.2.1.length : Int) then (some (bt309.1, (bt309.2.1.set (bt315.1 : Int).toNat (⟨bt327.1, (rd_T89 bt309.2.1 bt315.1).f1, (rd_T89 bt309.2.1 bt315.1).f2, (rd_T89 bt309.2.1 bt315.1).f3⟩ : S89)), bt327.2)) else (none)) else (none))) else (if bt317.1 = 2 then ((spec_l1Pick.f s0_0 bt317.2 (([(-1), 6, 5] : List Int))).bind fun bt333 => (if 0 ≤ bt315.1 then (if bt315.1 < (bt309.2.1.length : Int) then (some (bt309.1, (bt309.2.1.set (bt315.1 : Int).toNat (⟨(rd_T89 bt309.2.1 bt315.1).f0, bt333.1, (rd_T89 bt309.2.1 bt315.1).f2, (rd_T89 bt309.2.1 bt315.1).f3⟩ : S89)), bt333.2)) else (none)) else (none))) else (if bt317.1 = 3 then ((spec_l1Pick.f s0_0 bt317.2 (([(-1), 3, 2] : List Int))).bind fun bt339 => (if 0 ≤ bt315.1 then (if bt315.1 < (bt309.2.1.length : Int) then (some (bt309.1, (bt309.2.1.set (bt315.1 : Int).toNat (⟨(rd_T89 bt309.2.1 bt315.1).f0, (rd_T89 bt309.2.1 bt315.1).f1, bt339.1, (rd_T89 bt309.2.1 bt315.1).f3⟩ : S89)), bt339.2)) else (none)) else (none))) else (if bt317.1 = 4 then ((spec_l1Pick.f s0_0 bt317.2 (([0, 1000000000000, 1000000000001, (-9223372036854775808), 3] : List Int))).bind fun bt345 => (if 0 ≤ bt315.1 then (if bt315.1 < (bt309.2.1.length : Int) then (some (bt309.1, (bt309.2.1.set (bt315.1 : Int).toNat (⟨(rd_T89 bt309.2.1 bt315.1).f0, (rd_T89 bt309.2.1 bt315.1).f1, (rd_T89 bt309.2.1 bt315.1).f2, bt345.1⟩ : S89)), bt345.2)) else (none)) else (none))) else (if bt317.1 = 5 then (if 0 ≤ bt315.1 then (if bt315.1 < (bt309.2.1.length : Int) then (if bt309.2.1.length < 4398046511104 then (some (bt309.1, (bt309.2.1 ++ [(⟨(rd_T89 bt309.2.1 bt315.1).f0, (rd_T89 bt309.2.1 bt315.1).f1, (rd_T89 bt309.2.1 bt315.1).f2, (rd_T89 bt309.2.1 bt315.1).f3⟩ : S89)]), bt317.2)) else (none)) else (none)) else (none)) else (if bt317.1 = 6 then (if 1 ≤ (bt309.2.1.length : Int) then (some (bt309.1, (bt309.2.1.take (1 : Int).toNat), bt317.2)) else (none)) else (if bt317.1 = 7 then (if 9 ≤ 8796093022208 then (some (bt309.1, (List.replicate 9 z89), bt317.2)) else (none)) else (some (bt309.1, bt309.2.1, bt317.2))))))))))))) = some (r1, r2, r3) := H
 have A2 := Aside0.mk A20
 clear A20
 replace H := Option.bind_eq_some_iff.mp H
 obtain ⟨⟨t309, t310, t313⟩, A30, H⟩ := H
 replace H : ((spec_l1Next.f s0_0 t313 (t310.length : Int)).bind fun bt315 => ((spec_l1Next.f s0_0 bt315.2 24).bind fun bt317 => (if bt317.1 = 0 then ((spec_l1Pick.f s0_0 bt317.2 (([0, (-1), 1000000000, 1000000001] : List Int))).bind fun bt322 => (some (bt322.1, t310, bt322.2))) else (if bt317.1 = 1 then ((spec_l1Pick.f s0_0 bt317.2 (([(-1), 3, 1] : List Int))).bind fun bt327 => (if 0 ≤ bt315.1 then (if bt315.1 < (t310.length : Int) then (some (t309, (t310.set (bt315.1 : Int).toNat (⟨bt327.1, (rd_T89 t310 bt315.1).f1, (rd_T89 t310 bt315.1).f2, (rd_T89 t310 bt315.1).f3⟩ : S89)), bt327.2)) else (none)) else (none))) else (if bt317.1 = 2 then ((spec_l1Pick.f s0_0 bt317.2 (([(-1), 6, 5] : List Int))).bind fun bt333 => (if 0 ≤ bt315.1 then (if bt315.1 < (t310.length : Int) then (some (t309, (t310.set (bt315.1 : Int).toNat (⟨(rd_T89 t310 bt315.1).f0, bt333.1, (rd_T89 t310 bt315.1).f2, (rd_T89 t310 bt315.1).f3⟩ : S89)), bt333.2)) else (none)) else (none))) else (if bt317.1 = 3 then ((spec_l1Pick.f s0_0 bt317.2 (([(-1), 3, 2] : List Int))).bind fun bt339 => (if 0 ≤ bt315.1 then (if bt315.1 < (t310.length : Int) then (some (t309, (t310.set (bt315.1 : Int).toNat (⟨(rd_T89 t310 bt315.1).f0, (rd_T89 t310 bt315.1).f1, bt339.1, (rd_T89 t310 bt315.1).f3⟩ : S89)), bt339.2)) else (none)) else (none))) else (if bt317.1 = 4 then ((spec_l1Pick.f s0_0 bt317.2 (([0, 1000000000000, 1000000000001, (-9223372036854775808), 3] : List Int))).bind fun bt345 => (if 0 ≤ bt315.1 then (if bt315.1 < (t310.length : Int) then (some (t309, (t310.set (bt315.1 : Int).toNat (⟨(rd_T89 t310 bt315.1).f0, (rd_T89 t310 bt315.1).f1, (rd_T89 t310 bt315.1).f2, bt345.1⟩ : S89)), bt345.2)) else (none)) else (none))) else (if bt317.1 = 5 then (if 0 ≤ bt315.1 then (if bt315.1 < (t310.length : Int) then (if t310.length < 4398046511104 then (some (t309, (t310 ++ [(⟨(rd_T89 t310 bt315.1).f0, (rd_T89 t310 bt315.1).f1, (rd_T89 t310 bt315.1).f2, (rd_T89 t310 bt315.1).f3⟩ : S89)]), bt317.2)) else (none)) else (none)) else (none)) else (if bt317.1 = 6 then (if 1 ≤ (t310.length : Int) then (some (t309, (t310.take (1 : Int).toNat), bt317.2)) else (none)) else (if bt317.1 = 7 then (if 9 ≤ 8796093022208 then (some (t309, (List.replicate 9 z89), bt317.2)) else (none)) else (some (t309, t310, bt317.2)))))))))))) = some (r1, r2, r3) := H
 have A3 := Aside0.mk A30
 clear A30
 replace H := Option.bind_eq_some_iff.mp H
 obtain ⟨⟨t315, t316⟩, A40, H⟩ := H
 replace H : ((spec_l1Next.f s0_0 t316 24).bind fun bt317 => (if bt317.1 = 0 then ((spec_l1Pick.f s0_0 bt317.2 (([0, (-1), 1000000000, 1000000001] : List Int))).bind fun bt322 => (some (bt322.1, t310, bt322.2))) else (if bt317.1 = 1 then ((spec_l1Pick.f s0_0 bt317.2 (([(-1), 3, 1] : List Int))).bind fun bt327 => (if 0 ≤ t315 then (if t315 < (t310.length : Int) then (some (t309, (t310.set (t315 : Int).toNat (⟨bt327.1, (rd_T89 t310 t315).f1, (rd_T89 t310 t315).f2, (rd_T89 t310 t315).f3⟩ : S89)), bt327.2)) else (none)) else (none))) else (if bt317.1 = 2 then ((spec_l1Pick.f s0_0 bt317.2 (([(-1), 6, 5] : List Int))).bind fun bt333 => (if 0 ≤ t315 then (if t315 < (t310.length : Int) then (some (t309, (t310.set (t315 : Int).toNat (⟨(rd_T89 t310 t315).f0, bt333.1, (rd_T89 t310 t315).f2, (rd_T89 t310 t315).f3⟩ : S89)), bt333.2)) else (none)) else (none))) else (if bt317.1 = 3 then ((spec_l1Pick.f s0_0 bt317.2 (([(-1), 3, 2] : List Int))).bind fun bt339 => (if 0 ≤ t315 then (if t315 < (t310.length : Int) then (some (t309, (t310.set (t315 : Int).toNat (⟨(rd_T89 t310 t315).f0, (rd_T89 t310 t315).f1, bt339.1, (rd_T89 t310 t315).f3⟩ : S89)), bt339.2)) else (none)) else (none))) else (if bt317.1 = 4 then ((spec_l1Pick.f s0_0 bt317.2 (([0, 1000000000000, 1000000000001, (-9223372036854775808), 3] : List Int))).bind fun bt345 => (if 0 ≤ t315 then (if t315 < (t310.length : Int) then (some (t309, (t310.set (t315 : Int).toNat (⟨(rd_T89 t310 t315).f0, (rd_T89 t310 t315).f1, (rd_T89 t310 t315).f2, bt345.1⟩ : S89)), bt345.2)) else (none)) else (none))) else (if bt317.1 = 5 then (if 0 ≤ t315 then (if t315 < (t310.length : Int) then (if t310.length < 4398046511104 then (some (t309, (t310 ++ [(⟨(rd_T89 t310 t315).f0, (rd_T89 t310 t315).f1, (rd_T89 t310 t315).f2, (rd_T89 t310 t315).f3⟩ : S89)]), bt317.2)) else (none)) else (none)) else (none)) else (if bt317.1 = 6 then (if 1 ≤ (t310.length : Int) then (some (t309, (t310.take (1 : Int).toNat), bt317.2)) else (none)) else (if bt317.1 = 7 then (if 9 ≤ 8796093022208 then (some (t309, (List.replicate 9 z89), bt317.2)) else (none)) else (some (t309, t310, bt317.2))))))))))) = some (r1, r2, r3) := H
 have A4 := Aside0.mk A40
 clear A40
 replace H := Option.bind_eq_some_iff.mp H
 obtain ⟨⟨t317, t318⟩, A50, H⟩ := H
 replace H : (if t317 = 0 then ((spec_l1Pick.f s0_0 t318 (([0, (-1), 1000000000, 1000000001] : List Int))).bind fun bt322 => (some (bt322.1, t310, bt322.2))) else (if t317 = 1 then ((spec_l1Pick.f s0_0 t318 (([(-1), 3, 1] : List Int))).bind fun bt327 => (if 0 ≤ t315 then (if t315 < (t310.length : Int) then (some (t309, (t310.set (t315 : Int).toNat (⟨bt327.1, (rd_T89 t310 t315).f1, (rd_T89 t310 t315).f2, (rd_T89 t310 t315).f3⟩ : S89)), bt327.2)) else (none)) else (none))) else (if t317 = 2 then ((spec_l1Pick.f s0_0 t318 (([(-1), 6, 5] : List Int))).bind fun bt333 => (if 0 ≤ t315 then (if t315 < (t310.length : Int) then (some (t309, (t310.set (t315 : Int).toNat (⟨(rd_T89 t310 t315).f0, bt333.1, (rd_T89 t310 t315).f2, (rd_T89 t310 t315).f3⟩ : S89)), bt333.2)) else (none)) else (none))) else (if t317 = 3 then ((spec_l1Pick.f s0_0 t318 (([(-1), 3, 2] : List Int))).bind fun bt339 => (if 0 ≤ t315 then (if t315 < (t310.length : Int) then (some (t309, (t310.set (t315 : Int).toNat (⟨(rd_T89 t310 t315).f0, (rd_T89 t310 t315).f1, bt339.1, (rd_T89 t310 t315).f3⟩ : S89)), bt339.2)) else (none)) else (none))) else (if t317 = 4 then ((spec_l1Pick.f s0_0 t318 (([0, 1000000000000, 1000000000001, (-9223372036854775808), 3] : List Int))).bind fun bt345 => (if 0 ≤ t315 then (if t315 < (t310.length : Int) then (some (t309, (t310.set (t315 : Int).toNat (⟨(rd_T89 t310 t315).f0, (rd_T89 t310 t315).f1, (rd_T89 t310 t315).f2, bt345.1⟩ : S89)), bt345.2)) else (none)) else (none))) else (if t317 = 5 then (if 0 ≤ t315 then (if t315 < (t310.length : Int) then (if t310.length < 4398046511104 then (some (t309, (t310 ++ [(⟨(rd_T89 t310 t315).f0, (rd_T89 t310 t315).f1, (rd_T89 t310 t315).f2, (rd_T89 t310 t315).f3⟩ : S89)]), t318)) else (none)) else (none)) else (none)) else (if t317 = 6 then (if 1 ≤ (t310.length : Int) then (some (t309, (t310.take (1 : Int).toNat), t318)) else (none)) else (if t317 = 7 then (if 9 ≤ 8796093022208 then (some (t309, (List.replicate 9 z89), t318)) else (none)) else (some (t309, t310, t318)))))))))) = some (r1, r2, r3) := H
 have A5 := Aside0.mk A50
 clear A50
 by_cases c6 : t317 = 0
 ·rw [if_pos c6] at H
  have c6b0 : (t317 == 0) = true := beq_iff_eq.mpr c6
  have c6b1 : (t317 != 0) = false := bne_eq_false_iff_eq.mpr c6
  clear c6
  obtain ⟨y319, hy319⟩ : ∃ y_ : List Int, y_ = (([0, (-1), 1000000000, 1000000001] : List Int)) := ⟨_, rfl⟩
  replace H : ((spec_l1Pick.f s0_0 t318 y319).bind fun bt322 => (some (bt322.1, t310, bt322.2))) = some (r1, r2, r3) := q_h hy319 H
  have Ny319 := Aside0.mk hy319
  clear hy319
  replace H := Option.bind_eq_some_iff.mp H
  obtain ⟨⟨t322, t323⟩, A70, H⟩ := H
  replace H : (some (t322, t310, t323)) = some (r1, r2, r3) := H
  have A7 := Aside0.mk A70
  clear A70
  simp only [Option.some.injEq, Prod.mk.injEq] at H
  obtain ⟨rfl, rfl, rfl⟩ := H
  go_enter Try.func97, Try.ntmps97
  go_wp2_with (first | ((with_reducible refine gate_dst (N := 2) rfl ?_); refine q_box (N := 2) (cs := #[.int .i64 0, .slice none 0 0]) (t := 36) ?_; intro gb306 hg w8 hbox hb; have n0_ := Aside0.mk (IsS130.below q_I130_0_1 hb); have n1_ := Aside0.mk (KeepBut.trans q_K (KeepBut.of_below hb g none) (.inl rfl)); have n2_ := Aside0.mk (below_step q_B130_0 hb); have n3_ := Aside0.mk (hbox); have n4_ := Aside0.mk ((by rw [hg]; exact (keep_size (w := w) (g := g) (row := none) q_K) : w.heap.size ≤ gb306)); have n5_ := Aside0.mk ((Nat.le_trans HW0.out (by rw [hg]; exact (keep_size (w := w) (g := g) (row := none) q_K) : w.heap.size ≤ gb306) : w0.heap.size ≤ gb306)); have n6_ := Aside0.mk ((by rw [hg]; exact Nat.ne_of_lt (IsS130.lt (show IsS130 w0 _ g s0_0 s0_1 from q_I130_0_1)) : g ≠ gb306)); have n7_ := Aside0.mk ((by rw [hg]; exact Nat.ne_of_gt (IsS130.lt (show IsS130 w0 _ g s0_0 s0_1 from q_I130_0_1)) : gb306 ≠ g)); revert n0_ n1_ n2_ n3_ n4_ n5_ n6_ n7_; clear HI0 HK HB; intro HI0 HK HB BK306 GW306 GE306 NB0_306 NB306_0; clear hb hbox hg) | ((with_reducible refine gate_callee (f := 121) rfl ?_); refine goesLq (some 7) rfl rfl Try.func121 (by kernel_rfl) rfl #[.pointer (some ⟨g, 0, none⟩), .int .i64 9] rfl ?_; (with_reducible refine (spec_l1Next.calls g s0_0 s0_1 9 t307 t308 w0 _ ?side1 ?side2 A2.out).mono ?_); (case side1 => repeat (first | (with_reducible first | exact HI0.out | apply IsS130.alloc | apply IsS130.drewN | apply IsS130.drew | apply IsS130.set_1 | refine IsS130.far ?_ NB0_306.out _) | exact HI0.out)); (case side2 => repeat (first | (with_reducible first | exact HB.out | apply below_alloc | apply pw_below_drewN | apply below_drew1 | refine below_set ?_ (IsS130.ge HI0.out) | refine below_set ?_ GE306.out) | exact HB.out)); rintro e w9 ⟨rfl, hi, hb, hk⟩; refine ⟨_, rfl, ?_⟩; have n0_ := Aside0.mk (KeepBut.blk hk (g' := gb306) (o := .cells #[.int .i64 0, .slice none 0 0] 36 (0, 0)) kq NB306_0.out (by simp)); have n1_ := Aside0.mk (KeepBut.trans q_K hk (.inl rfl)); have n2_ := Aside0.mk (hb); have n3_ := Aside0.mk (hi); revert n0_ n1_ n2_ n3_; clear BK306 HK HB HI0; intro BK306 HK HB HI0; (try clear hb); (try clear hb2); (try clear hk); (try clear hi)) | ((with_reducible refine gate_callee (f := 122) rfl ?_); refine goesLq (some 9) rfl rfl Try.func122 (by kernel_rfl) rfl #[.pointer (some ⟨g, 0, none⟩), .int .i64 (wrap64 (1 + t307))] rfl ?_; (with_reducible refine (spec_l1Draw.calls k g s0_0 t308 (wrap64 (1 + t307)) t309 t310 t313 w0 _ ?side1 ?side2 A3.out).mono ?_); (case side1 => repeat (first | (with_reducible first | exact HI0.out | apply IsS130.alloc | apply IsS130.drewN | apply IsS130.drew | apply IsS130.set_1 | refine IsS130.far ?_ NB0_306.out _) | exact HI0.out)); (case side2 => repeat (first | (with_reducible first | exact HB.out | apply below_alloc | apply pw_below_drewN | apply below_drew1 | refine below_set ?_ (IsS130.ge HI0.out) | refine below_set ?_ GE306.out) | exact HB.out)); rintro e w10 ⟨v311, rfl, ho0, hi, hb, hk⟩; refine ⟨_, rfl, ?_⟩; have n0_ := Aside0.mk (KeepBut.blk hk (g' := gb306) (o := .cells #[.int .i64 0, .slice none 0 0] 36 (0, 0)) kq NB306_0.out (by simp)); have n1_ := Aside0.mk (Kd.R_lower ho0 (keep_size (w := w) (g := g) (row := none) q_K)); have n2_ := Aside0.mk (KeepBut.trans q_K hk (.inl rfl)); have n3_ := Aside0.mk (hb); have n4_ := Aside0.mk (hi); revert n0_ n1_ n2_ n3_ n4_; clear BK306 HK HB HI0; intro BK306 HO312 HK HB HI0; (try clear hb); (try clear hb2); (try clear hk); (try clear hi); (try clear ho0)) | ((with_reducible refine gate_dst (N := 3) rfl ?_); refine q_box (N := 3) (cs := #[.int .i64 0, .slice none 0 0]) (t := 36) ?_; intro gb314 hg w11 hbox hb; have n0_ := Aside0.mk (Kd.R_below (q_r (HO312.out)) hb); have n1_ := Aside0.mk (IsS130.below q_I130_0_1 hb); have n2_ := Aside0.mk (blk_below (q_b BK306.out) hb); have n3_ := Aside0.mk (KeepBut.trans q_K (KeepBut.of_below hb g none) (.inl rfl)); have n4_ := Aside0.mk (below_step q_B130_0 hb); have n5_ := Aside0.mk (hbox); have n6_ := Aside0.mk ((by rw [hg]; exact (keep_size (w := w) (g := g) (row := none) q_K) : w.heap.size ≤ gb314)); have n7_ := Aside0.mk ((Nat.le_trans HW0.out (by rw [hg]; exact (keep_size (w := w) (g := g) (row := none) q_K) : w.heap.size ≤ gb314) : w0.heap.size ≤ gb314)); have n8_ := Aside0.mk ((q_n hg (q_b BK306.out) : gb306 ≠ gb314)); have n9_ := Aside0.mk ((q_m hg (q_b BK306.out) : gb314 ≠ gb306)); have n10_ := Aside0.mk ((by rw [hg]; exact Nat.ne_of_lt (IsS130.lt (show IsS130 w0 _ g s0_0 t313 from q_I130_0_1)) : g ≠ gb314)); have n11_ := Aside0.mk ((by rw [hg]; exact Nat.ne_of_gt (IsS130.lt (show IsS130 w0 _ g s0_0 t313 from q_I130_0_1)) : gb314 ≠ g)); revert n0_ n1_ n2_ n3_ n4_ n5_ n6_ n7_ n8_ n9_ n10_ n11_; clear HO312 HI0 BK306 HK HB; intro HO312 HI0 BK306 HK HB BK314 GW314 GE314 NB306_314 NB314_306 NB0_314 NB314_0; clear hb hbox hg; have hnb12 := NB314_306.out; have hnc12 := NB306_314.out; have hnb13 := NB314_0.out; have hnc13 := NB0_314.out; obtain ⟨hcz14_0, hcz14_1, hfz14_0, hfz14_1⟩ := q_2 BK314.out; obtain ⟨Ao15, co15, eo15⟩ := Kd.R_slice HO312.out; subst eo15) | ((with_reducible refine gate_callee (f := 121) rfl ?_); refine goesLq (some 14) rfl rfl Try.func121 (by kernel_rfl) rfl #[.pointer (some ⟨g, 0, none⟩), .int .i64 (t310.length : Int)] rfl ?_; (with_reducible refine (spec_l1Next.calls g s0_0 t313 (t310.length : Int) t315 t316 w0 _ ?side1 ?side2 A4.out).mono ?_); (case side1 => repeat (first | (with_reducible first | exact HI0.out | apply IsS130.alloc | apply IsS130.drewN | apply IsS130.drew | apply IsS130.set_1 | refine IsS130.far ?_ NB0_306.out _ | refine IsS130.far ?_ NB0_314.out _) | exact HI0.out)); (case side2 => repeat (first | (with_reducible first | exact HB.out | apply below_alloc | apply pw_below_drewN | apply below_drew1 | refine below_set ?_ (IsS130.ge HI0.out) | refine below_set ?_ GE306.out | refine below_set ?_ GE314.out) | exact HB.out)); rintro e w16 ⟨rfl, hi, hb, hk⟩; refine ⟨_, rfl, ?_⟩; have n0_ := Aside0.mk (KeepBut.blk hk (g' := gb306) (o := .cells #[.int .i64 0, .slice none 0 0] 36 (0, 0)) (by (with_reducible repeat (first | refine blk_drewN ?_ _ | refine blk_drew ?_ | refine blk_alloc ?_ _)); refine blk_far ?_ NB306_314.out _; (with_reducible repeat (first | refine blk_drewN ?_ _ | refine blk_drew ?_ | refine blk_alloc ?_ _)); refine blk_far ?_ NB306_314.out _; (with_reducible repeat (first | refine blk_drewN ?_ _ | refine blk_drew ?_ | refine blk_alloc ?_ _)); exact BK306.out) NB306_0.out (by simp)); have n1_ := Aside0.mk (Kd.R_mono (Kd.R_keep (IsS130.apart (show IsS130 w0 _ g s0_0 t313 from q_I130_0_1) (by (with_reducible repeat (first | apply Kd.R_alloc | apply Kd.R_drewN | apply Kd.R_drew)); exact (Kd.R_mono (Kd.R_far (p := ⟨gb314, 1, none⟩) (Kd.R_far (p := ⟨gb314, 0, none⟩) (Kd.R_types HO312.out BK314.out (by decide)) (fun _ hk => hk.2) (.int .i64 t309)) (fun _ hk => hk.2) (.slice Ao15 t310.length co15)) (fun _ h_ => h_.1))) (by decide)) hk (fun _ h => h.2)) (fun _ h => h.1)); have n2_ := Aside0.mk (KeepBut.blk hk (g' := gb314) (o := .cells #[.int .i64 t309, .slice Ao15 t310.length co15] 36 (0, 0)) (by (with_reducible repeat (first | refine blk_drewN ?_ _ | refine blk_drew ?_ | refine blk_alloc ?_ _)); refine blk_put (cs := #[.int .i64 t309, .slice none 0 0]) ?_ 1 _ rfl; (with_reducible repeat (first | refine blk_drewN ?_ _ | refine blk_drew ?_ | refine blk_alloc ?_ _)); refine blk_put (cs := #[.int .i64 0, .slice none 0 0]) ?_ 0 _ rfl; (with_reducible repeat (first | refine blk_drewN ?_ _ | refine blk_drew ?_ | refine blk_alloc ?_ _)); exact BK314.out) NB314_0.out (by simp)); have n3_ := Aside0.mk (KeepBut.trans q_K hk (.inl rfl)); have n4_ := Aside0.mk (hb); have n5_ := Aside0.mk (hi); revert n0_ n1_ n2_ n3_ n4_ n5_; clear BK306 HO312 BK314 HK HB HI0; intro BK306 HO312 BK314 HK HB HI0; (try clear hb); (try clear hb2); (try clear hk); (try clear hi)) | ((with_reducible refine gate_callee (f := 121) rfl ?_); refine goesLq (some 16) rfl rfl Try.func121 (by kernel_rfl) rfl #[.pointer (some ⟨g, 0, none⟩), .int .i64 24] rfl ?_; (with_reducible refine (spec_l1Next.calls g s0_0 t316 24 t317 t318 w0 _ ?side1 ?side2 A5.out).mono ?_); (case side1 => repeat (first | (with_reducible first | exact HI0.out | apply IsS130.alloc | apply IsS130.drewN | apply IsS130.drew | apply IsS130.set_1 | refine IsS130.far ?_ NB0_306.out _ | refine IsS130.far ?_ NB0_314.out _) | exact HI0.out)); (case side2 => repeat (first | (with_reducible first | exact HB.out | apply below_alloc | apply pw_below_drewN | apply below_drew1 | refine below_set ?_ (IsS130.ge HI0.out) | refine below_set ?_ GE306.out | refine below_set ?_ GE314.out) | exact HB.out)); rintro e w17 ⟨rfl, hi, hb, hk⟩; refine ⟨_, rfl, ?_⟩; have n0_ := Aside0.mk (KeepBut.blk hk (g' := gb306) (o := .cells #[.int .i64 0, .slice none 0 0] 36 (0, 0)) kq NB306_0.out (by simp)); have n1_ := Aside0.mk (Kd.R_mono (Kd.R_keep (IsS130.apart (show IsS130 w0 _ g s0_0 t316 from q_I130_0_1) (q_r (HO312.out)) (by decide)) hk (fun _ h => h.2)) (fun _ h => h.1)); have n2_ := Aside0.mk (KeepBut.blk hk (g' := gb314) (o := .cells #[.int .i64 t309, .slice Ao15 t310.length co15] 36 (0, 0)) kq NB314_0.out (by simp)); have n3_ := Aside0.mk (KeepBut.trans q_K hk (.inl rfl)); have n4_ := Aside0.mk (hb); have n5_ := Aside0.mk (hi); revert n0_ n1_ n2_ n3_ n4_ n5_; clear BK306 HO312 BK314 HK HB HI0; intro BK306 HO312 BK314 HK HB HI0; (try clear hb); (try clear hb2); (try clear hk); (try clear hi)) | ((with_reducible refine gate_dst (N := 20) rfl ?_); refine Kd.R_lit (Kd.int .i64) _ 2 ?hg (N := 20) ?hd (xs := ([0, (-1), 1000000000, 1000000001] : List Int)) (inner := [.int .i64 0, .int .i64 (-1), .int .i64 1000000000, .int .i64 1000000001]) (ok := fun _ => True) (okp := fun _ => True) ?hr ?hp (fun _ hk => hk) trivial (Below.refl _ _) (Nat.le_refl _) (by simp) ?_; (case hd => rfl); (case hg => rfl); (case hr => first | (go_simp; done) | (go_simp; rfl)); (case hp => exact (Reps.one (show Kd.M (Kd.int .i64) _ _ _ 0 [.int .i64 0] from rfl) (Reps.one (show Kd.M (Kd.int .i64) _ _ _ (-1) [.int .i64 (-1)] from rfl) (Reps.one (show Kd.M (Kd.int .i64) _ _ _ 1000000000 [.int .i64 1000000000] from rfl) (Reps.one (show Kd.M (Kd.int .i64) _ _ _ 1000000001 [.int .i64 1000000001] from rfl) (Reps.none _ _)))))); intro v320 w18 ho19 hb hg_ hnew_; clear hg_ hnew_; (first | rw [← Ny319.out] at ho19 | (simp only [Int.reduceToNat] at ho19; rw [← Ny319.out] at ho19)); have n0_ := Aside0.mk (Kd.R_below (q_r (HO312.out)) hb); have n1_ := Aside0.mk (Kd.R_lower ho19 (keep_size (w := w) (g := g) (row := none) q_K)); have n2_ := Aside0.mk (IsS130.below q_I130_0_1 hb); have n3_ := Aside0.mk (blk_below (q_b BK306.out) hb); have n4_ := Aside0.mk (blk_below (q_b BK314.out) hb); have n5_ := Aside0.mk (KeepBut.trans q_K (KeepBut.of_below hb g none) (.inl rfl)); have n6_ := Aside0.mk (below_step q_B130_0 hb); revert n0_ n1_ n2_ n3_ n4_ n5_ n6_; clear HO312 HI0 BK306 BK314 HK HB; intro HO312 HO321 HI0 BK306 BK314 HK HB; clear hb ho19; obtain ⟨Ao20, co20, eo20⟩ := Kd.R_slice HO321.out; subst eo20) | ((with_reducible refine gate_callee (f := 100) rfl ?_); refine goesLq (some 21) rfl rfl Try.func100 (by kernel_rfl) rfl #[.pointer (some ⟨g, 0, none⟩), .slice Ao20 y319.length co20] rfl ?_; (with_reducible refine (spec_l1Pick.calls g s0_0 t318 _ _ y319 t322 t323 w0 _ ?side1 ?side2 ?side3 ?side4 ?side5 A7.out).mono ?_); (case side1 => repeat (first | (with_reducible first | exact HI0.out | apply IsS130.alloc | apply IsS130.drewN | apply IsS130.drew | apply IsS130.set_1 | refine IsS130.far ?_ NB0_306.out _ | refine IsS130.far ?_ NB0_314.out _) | exact HI0.out)); (case side2 => repeat (first | (with_reducible first | exact HB.out | apply below_alloc | apply pw_below_drewN | apply below_drew1 | refine below_set ?_ (IsS130.ge HI0.out) | refine below_set ?_ GE306.out | refine below_set ?_ GE314.out) | exact HB.out)); (case side3 => exact q_c ((Kd.R_reads' HO321.out).2.2)); (case side4 => exact (Kd.R_reads' HO321.out).2.1); (case side5 => exact far_slice (IsS130.own_ne HI0.out HO321.out (by decide))); rintro e w21 ⟨rfl, hi, hb, hk⟩; refine ⟨_, rfl, ?_⟩; have n0_ := Aside0.mk (KeepBut.blk hk (g' := gb306) (o := .cells #[.int .i64 0, .slice none 0 0] 36 (0, 0)) kq NB306_0.out (by simp)); have n1_ := Aside0.mk (Kd.R_mono (Kd.R_keep (IsS130.apart (show IsS130 w0 _ g s0_0 t318 from q_I130_0_1) (q_r (HO312.out)) (by decide)) hk (fun _ h => h.2)) (fun _ h => h.1)); have n2_ := Aside0.mk (KeepBut.blk hk (g' := gb314) (o := .cells #[.int .i64 t309, .slice Ao15 t310.length co15] 36 (0, 0)) kq NB314_0.out (by simp)); have n3_ := Aside0.mk (Kd.R_mono (Kd.R_keep (IsS130.apart (show IsS130 w0 _ g s0_0 t318 from q_I130_0_1) (q_r (HO321.out)) (by decide)) hk (fun _ h => h.2)) (fun _ h => h.1)); have n4_ := Aside0.mk (KeepBut.trans q_K hk (.inl rfl)); have n5_ := Aside0.mk (hb); have n6_ := Aside0.mk (hi); revert n0_ n1_ n2_ n3_ n4_ n5_ n6_; clear BK306 HO312 BK314 HO321 HK HB HI0; intro BK306 HO312 BK314 HO321 HK HB HI0; (try clear hb); (try clear hb2); (try clear hk); (try clear hi); obtain ⟨hcz22_0, hcz22_1, hfz22_0, hfz22_1⟩ := q_2 BK314.out; have hnb23 := NB306_0.out; have hnc23 := NB0_306.out; obtain ⟨hcz24_0, hcz24_1, hfz24_0, hfz24_1⟩ := q_2 BK306.out))
  refine bodyPost_ret (results_cell_row rfl _ _ gb306 36 #[.int .i64 t322, .slice Ao15 t310.length co15] (0, 0) _ rfl (by (with_reducible repeat (first | refine blk_drewN ?_ _ | refine blk_drew ?_ | refine blk_alloc ?_ _)); refine blk_put (cs := #[.int .i64 t322, .slice none 0 0]) ?_ 1 _ rfl; (with_reducible repeat (first | refine blk_drewN ?_ _ | refine blk_drew ?_ | refine blk_alloc ?_ _)); refine blk_put (cs := #[.int .i64 0, .slice none 0 0]) ?_ 0 _ rfl; (with_reducible repeat (first | refine blk_drewN ?_ _ | refine blk_drew ?_ | refine blk_alloc ?_ _)); refine blk_far ?_ NB306_314.out _; (with_reducible repeat (first | refine blk_drewN ?_ _ | refine blk_drew ?_ | refine blk_alloc ?_ _)); exact BK306.out) Try.underlying36 rfl (by kernel_rfl)) rfl ?_
  exact ⟨_, q_e, by (with_reducible repeat (first | apply Kd.R_alloc | apply Kd.R_drewN | apply Kd.R_drew)); exact Kd.R_mono (Kd.R_far (p := ⟨gb306, 1, none⟩) (Kd.R_far (p := ⟨gb306, 0, none⟩) (Kd.R_far (p := ⟨gb314, 0, none⟩) (Kd.R_types (Kd.R_types HO312.out BK314.out (by decide)) BK306.out (by decide)) (fun _ hk => hk.1.2) (.int .i64 t322)) (fun _ hk => hk.2) (.int .i64 t322)) (fun _ hk => hk.2) (.slice Ao15 t310.length co15)) (fun _ hk => trivial), q_I130_0_1, q_B130_0, q_K⟩
 ·rw [if_neg c6] at H
  have c6b0 : (t317 == 0) = false := beq_eq_false_iff_ne.mpr c6
  have c6b1 : (t317 != 0) = true := bne_iff_ne.mpr c6
  by_cases c25 : t317 = 1
  ·rw [if_pos c25] at H
   have c25b0 : (t317 == 1) = true := beq_iff_eq.mpr c25
   have c25b1 : (t317 != 1) = false := bne_eq_false_iff_eq.mpr c25
   clear c25
   obtain ⟨y324, hy324⟩ : ∃ y_ : List Int, y_ = (([(-1), 3, 1] : List Int)) := ⟨_, rfl⟩
   replace H : ((spec_l1Pick.f s0_0 t318 y324).bind fun bt327 => (if 0 ≤ t315 then (if t315 < (t310.length : Int) then (some (t309, (t310.set (t315 : Int).toNat (⟨bt327.1, (rd_T89 t310 t315).f1, (rd_T89 t310 t315).f2, (rd_T89 t310 t315).f3⟩ : S89)), bt327.2)) else (none)) else (none))) = some (r1, r2, r3) := q_h hy324 H
   have Ny324 := Aside0.mk hy324
   clear hy324
   replace H := Option.bind_eq_some_iff.mp H
   obtain ⟨⟨t327, t328⟩, A260, H⟩ := H
   replace H : (if 0 ≤ t315 then (if t315 < (t310.length : Int) then (some (t309, (t310.set (t315 : Int).toNat (⟨t327, (rd_T89 t310 t315).f1, (rd_T89 t310 t315).f2, (rd_T89 t310 t315).f3⟩ : S89)), t328)) else (none)) else (none)) = some (r1, r2, r3) := H
   have A26 := Aside0.mk A260
   clear A260
   by_cases c27 : 0 ≤ t315
   ·rw [if_pos c27] at H
    have c27b0 := decide_eq_true c27
    clear c27
    by_cases c28 : t315 < (t310.length : Int)
    ·rw [if_pos c28] at H
     have c28b0 := decide_eq_true c28
     clear c28
     obtain ⟨y329, hy329⟩ : ∃ y_ : List (S89), y_ = (t310.set (t315 : Int).toNat (⟨t327, (rd_T89 t310 t315).f1, (rd_T89 t310 t315).f2, (rd_T89 t310 t315).f3⟩ : S89)) := ⟨_, rfl⟩
     replace H : (some (t309, y329, t328)) = some (r1, r2, r3) := q_h hy329 H
     have Ny329 := Aside0.mk hy329
     clear hy329
     simp only [Option.some.injEq, Prod.mk.injEq] at H
     obtain ⟨rfl, rfl, rfl⟩ := H
     go_enter Try.func97, Try.ntmps97
     try go_wp2_with (first | ((with_reducible refine gate_dst (N := 2) rfl ?_); refine q_box (N := 2) (cs := #[.int .i64 0, .slice none 0 0]) (t := 36) ?_; intro gb306 hg w30 hbox hb; have n0_ := Aside0.mk (IsS130.below q_I130_0_1 hb); have n1_ := Aside0.mk (KeepBut.trans q_K (KeepBut.of_below hb g none) (.inl rfl)); have n2_ := Aside0.mk (below_step q_B130_0 hb); have n3_ := Aside0.mk (hbox); have n4_ := Aside0.mk ((by rw [hg]; exact (keep_size (w := w) (g := g) (row := none) q_K) : w.heap.size ≤ gb306)); have n5_ := Aside0.mk ((Nat.le_trans HW0.out (by rw [hg]; exact (keep_size (w := w) (g := g) (row := none) q_K) : w.heap.size ≤ gb306) : w0.heap.size ≤ gb306)); have n6_ := Aside0.mk ((by rw [hg]; exact Nat.ne_of_lt (IsS130.lt (show IsS130 w0 _ g s0_0 s0_1 from q_I130_0_1)) : g ≠ gb306)); have n7_ := Aside0.mk ((by rw [hg]; exact Nat.ne_of_gt (IsS130.lt (show IsS130 w0 _ g s0_0 s0_1 from q_I130_0_1)) : gb306 ≠ g)); revert n0_ n1_ n2_ n3_ n4_ n5_ n6_ n7_; clear HI0 HK HB; intro HI0 HK HB BK306 GW306 GE306 NB0_306 NB306_0; clear hb hbox hg) | ((with_reducible refine gate_callee (f := 121) rfl ?_); refine goesLq (some 7) rfl rfl Try.func121 (by kernel_rfl) rfl #[.pointer (some ⟨g, 0, none⟩), .int .i64 9] rfl ?_; (with_reducible refine (spec_l1Next.calls g s0_0 s0_1 9 t307 t308 w0 _ ?side1 ?side2 A2.out).mono ?_); (case side1 => repeat (first | (with_reducible first | exact HI0.out | apply IsS130.alloc | apply IsS130.drewN | apply IsS130.drew | apply IsS130.set_1 | refine IsS130.far ?_ NB0_306.out _) | exact HI0.out)); (case side2 => repeat (first | (with_reducible first | exact HB.out | apply below_alloc | apply pw_below_drewN | apply below_drew1 | refine below_set ?_ (IsS130.ge HI0.out) | refine below_set ?_ GE306.out) | exact HB.out)); rintro e w31 ⟨rfl, hi, hb, hk⟩; refine ⟨_, rfl, ?_⟩; have n0_ := Aside0.mk (KeepBut.blk hk (g' := gb306) (o := .cells #[.int .i64 0, .slice none 0 0] 36 (0, 0)) kq NB306_0.out (by simp)); have n1_ := Aside0.mk (KeepBut.trans q_K hk (.inl rfl)); have n2_ := Aside0.mk (hb); have n3_ := Aside0.mk (hi); revert n0_ n1_ n2_ n3_; clear BK306 HK HB HI0; intro BK306 HK HB HI0; (try clear hb); (try clear hb2); (try clear hk); (try clear hi)) | ((with_reducible refine gate_callee (f := 122) rfl ?_); refine goesLq (some 9) rfl rfl Try.func122 (by kernel_rfl) rfl #[.pointer (some ⟨g, 0, none⟩), .int .i64 (wrap64 (1 + t307))] rfl ?_; (with_reducible refine (spec_l1Draw.calls k g s0_0 t308 (wrap64 (1 + t307)) t309 t310 t313 w0 _ ?side1 ?side2 A3.out).mono ?_); (case side1 => repeat (first | (with_reducible first | exact HI0.out | apply IsS130.alloc | apply IsS130.drewN | apply IsS130.drew | apply IsS130.set_1 | refine IsS130.far ?_ NB0_306.out _) | exact HI0.out)); (case side2 => repeat (first | (with_reducible first | exact HB.out | apply below_alloc | apply pw_below_drewN | apply below_drew1 | refine below_set ?_ (IsS130.ge HI0.out) | refine below_set ?_ GE306.out) | exact HB.out)); rintro e w32 ⟨v311, rfl, ho0, hi, hb, hk⟩; refine ⟨_, rfl, ?_⟩; have n0_ := Aside0.mk (KeepBut.blk hk (g' := gb306) (o := .cells #[.int .i64 0, .slice none 0 0] 36 (0, 0)) kq NB306_0.out (by simp)); have n1_ := Aside0.mk (Kd.R_lower ho0 (keep_size (w := w) (g := g) (row := none) q_K)); have n2_ := Aside0.mk (KeepBut.trans q_K hk (.inl rfl)); have n3_ := Aside0.mk (hb); have n4_ := Aside0.mk (hi); revert n0_ n1_ n2_ n3_ n4_; clear BK306 HK HB HI0; intro BK306 HO312 HK HB HI0; (try clear hb); (try clear hb2); (try clear hk); (try clear hi); (try clear ho0)) | ((with_reducible refine gate_dst (N := 3) rfl ?_); refine q_box (N := 3) (cs := #[.int .i64 0, .slice none 0 0]) (t := 36) ?_; intro gb314 hg w33 hbox hb; have n0_ := Aside0.mk (Kd.R_below (q_r (HO312.out)) hb); have n1_ := Aside0.mk (IsS130.below q_I130_0_1 hb); have n2_ := Aside0.mk (blk_below (q_b BK306.out) hb); have n3_ := Aside0.mk (KeepBut.trans q_K (KeepBut.of_below hb g none) (.inl rfl)); have n4_ := Aside0.mk (below_step q_B130_0 hb); have n5_ := Aside0.mk (hbox); have n6_ := Aside0.mk ((by rw [hg]; exact (keep_size (w := w) (g := g) (row := none) q_K) : w.heap.size ≤ gb314)); have n7_ := Aside0.mk ((Nat.le_trans HW0.out (by rw [hg]; exact (keep_size (w := w) (g := g) (row := none) q_K) : w.heap.size ≤ gb314) : w0.heap.size ≤ gb314)); have n8_ := Aside0.mk ((q_n hg (q_b BK306.out) : gb306 ≠ gb314)); have n9_ := Aside0.mk ((q_m hg (q_b BK306.out) : gb314 ≠ gb306)); have n10_ := Aside0.mk ((by rw [hg]; exact Nat.ne_of_lt (IsS130.lt (show IsS130 w0 _ g s0_0 t313 from q_I130_0_1)) : g ≠ gb314)); have n11_ := Aside0.mk ((by rw [hg]; exact Nat.ne_of_gt (IsS130.lt (show IsS130 w0 _ g s0_0 t313 from q_I130_0_1)) : gb314 ≠ g)); revert n0_ n1_ n2_ n3_ n4_ n5_ n6_ n7_ n8_ n9_ n10_ n11_; clear HO312 HI0 BK306 HK HB; intro HO312 HI0 BK306 HK HB BK314 GW314 GE314 NB306_314 NB314_306 NB0_314 NB314_0; clear hb hbox hg; have hnb34 := NB314_306.out; have hnc34 := NB306_314.out; have hnb35 := NB314_0.out; have hnc35 := NB0_314.out; obtain ⟨hcz36_0, hcz36_1, hfz36_0, hfz36_1⟩ := q_2 BK314.out; obtain ⟨Ao37, co37, eo37⟩ := Kd.R_slice HO312.out; subst eo37) | ((with_reducible refine gate_callee (f := 121) rfl ?_); refine goesLq (some 14) rfl rfl Try.func121 (by kernel_rfl) rfl #[.pointer (some ⟨g, 0, none⟩), .int .i64 (t310.length : Int)] rfl ?_; (with_reducible refine (spec_l1Next.calls g s0_0 t313 (t310.length : Int) t315 t316 w0 _ ?side1 ?side2 A4.out).mono ?_); (case side1 => repeat (first | (with_reducible first | exact HI0.out | apply IsS130.alloc | apply IsS130.drewN | apply IsS130.drew | apply IsS130.set_1 | refine IsS130.far ?_ NB0_306.out _ | refine IsS130.far ?_ NB0_314.out _) | exact HI0.out)); (case side2 => repeat (first | (with_reducible first | exact HB.out | apply below_alloc | apply pw_below_drewN | apply below_drew1 | refine below_set ?_ (IsS130.ge HI0.out) | refine below_set ?_ GE306.out | refine below_set ?_ GE314.out) | exact HB.out)); rintro e w38 ⟨rfl, hi, hb, hk⟩; refine ⟨_, rfl, ?_⟩; have n0_ := Aside0.mk (KeepBut.blk hk (g' := gb306) (o := .cells #[.int .i64 0, .slice none 0 0] 36 (0, 0)) (by (with_reducible repeat (first | refine blk_drewN ?_ _ | refine blk_drew ?_ | refine blk_alloc ?_ _)); refine blk_far ?_ NB306_314.out _; (with_reducible repeat (first | refine blk_drewN ?_ _ | refine blk_drew ?_ | refine blk_alloc ?_ _)); refine blk_far ?_ NB306_314.out _; (with_reducible repeat (first | refine blk_drewN ?_ _ | refine blk_drew ?_ | refine blk_alloc ?_ _)); exact BK306.out) NB306_0.out (by simp)); have n1_ := Aside0.mk (Kd.R_mono (Kd.R_keep (IsS130.apart (show IsS130 w0 _ g s0_0 t313 from q_I130_0_1) (by (with_reducible repeat (first | apply Kd.R_alloc | apply Kd.R_drewN | apply Kd.R_drew)); exact (Kd.R_mono (Kd.R_far (p := ⟨gb314, 1, none⟩) (Kd.R_far (p := ⟨gb314, 0, none⟩) (Kd.R_types HO312.out BK314.out (by decide)) (fun _ hk => hk.2) (.int .i64 t309)) (fun _ hk => hk.2) (.slice Ao37 t310.length co37)) (fun _ h_ => h_.1))) (by decide)) hk (fun _ h => h.2)) (fun _ h => h.1)); have n2_ := Aside0.mk (KeepBut.blk hk (g' := gb314) (o := .cells #[.int .i64 t309, .slice Ao37 t310.length co37] 36 (0, 0)) (by (with_reducible repeat (first | refine blk_drewN ?_ _ | refine blk_drew ?_ | refine blk_alloc ?_ _)); refine blk_put (cs := #[.int .i64 t309, .slice none 0 0]) ?_ 1 _ rfl; (with_reducible repeat (first | refine blk_drewN ?_ _ | refine blk_drew ?_ | refine blk_alloc ?_ _)); refine blk_put (cs := #[.int .i64 0, .slice none 0 0]) ?_ 0 _ rfl; (with_reducible repeat (first | refine blk_drewN ?_ _ | refine blk_drew ?_ | refine blk_alloc ?_ _)); exact BK314.out) NB314_0.out (by simp)); have n3_ := Aside0.mk (KeepBut.trans q_K hk (.inl rfl)); have n4_ := Aside0.mk (hb); have n5_ := Aside0.mk (hi); revert n0_ n1_ n2_ n3_ n4_ n5_; clear BK306 HO312 BK314 HK HB HI0; intro BK306 HO312 BK314 HK HB HI0; (try clear hb); (try clear hb2); (try clear hk); (try clear hi)) | ((with_reducible refine gate_callee (f := 121) rfl ?_); refine goesLq (some 16) rfl rfl Try.func121 (by kernel_rfl) rfl #[.pointer (some ⟨g, 0, none⟩), .int .i64 24] rfl ?_; (with_reducible refine (spec_l1Next.calls g s0_0 t316 24 t317 t318 w0 _ ?side1 ?side2 A5.out).mono ?_); (case side1 => repeat (first | (with_reducible first | exact HI0.out | apply IsS130.alloc | apply IsS130.drewN | apply IsS130.drew | apply IsS130.set_1 | refine IsS130.far ?_ NB0_306.out _ | refine IsS130.far ?_ NB0_314.out _) | exact HI0.out)); (case side2 => repeat (first | (with_reducible first | exact HB.out | apply below_alloc | apply pw_below_drewN | apply below_drew1 | refine below_set ?_ (IsS130.ge HI0.out) | refine below_set ?_ GE306.out | refine below_set ?_ GE314.out) | exact HB.out)); rintro e w39 ⟨rfl, hi, hb, hk⟩; refine ⟨_, rfl, ?_⟩; have n0_ := Aside0.mk (KeepBut.blk hk (g' := gb306) (o := .cells #[.int .i64 0, .slice none 0 0] 36 (0, 0)) kq NB306_0.out (by simp)); have n1_ := Aside0.mk (Kd.R_mono (Kd.R_keep (IsS130.apart (show IsS130 w0 _ g s0_0 t316 from q_I130_0_1) (q_r (HO312.out)) (by decide)) hk (fun _ h => h.2)) (fun _ h => h.1)); have n2_ := Aside0.mk (KeepBut.blk hk (g' := gb314) (o := .cells #[.int .i64 t309, .slice Ao37 t310.length co37] 36 (0, 0)) kq NB314_0.out (by simp)); have n3_ := Aside0.mk (KeepBut.trans q_K hk (.inl rfl)); have n4_ := Aside0.mk (hb); have n5_ := Aside0.mk (hi); revert n0_ n1_ n2_ n3_ n4_ n5_; clear BK306 HO312 BK314 HK HB HI0; intro BK306 HO312 BK314 HK HB HI0; (try clear hb); (try clear hb2); (try clear hk); (try clear hi)))
     have n0_ := Aside0.mk (Kd.R_drew HO312.out)
     have n1_ := Aside0.mk (blk_drew BK306.out)
     have n2_ := Aside0.mk (blk_drew BK314.out)
     have n3_ := Aside0.mk (IsS130.drew HI0.out)
     have n4_ := Aside0.mk (keep_drew HK.out)
     have n5_ := Aside0.mk (below_drew1 HB.out)
     clear HO312
     clear BK306
     clear BK314
     clear HI0
     clear HK
     clear HB
     have HO312 := n0_
     have BK306 := n1_
     have BK314 := n2_
     have HI0 := n3_
     have HK := n4_
     have HB := n5_
     clear n0_ n1_ n2_ n3_ n4_ n5_
     refine start_ (n := 9) (S := fun w' => w'.cell? ⟨gb314, 0, none⟩ = some (.int .i64 t309) ∧ w'.cell? ⟨gb314, 1, none⟩ = some (.slice Ao37 t310.length co37)) (ds := [8]) #[false, false, false, false, false, false, false, false, false] (by kernel_rfl) rfl rfl ⟨q_z BK314.out 0, q_z BK314.out 1⟩ (fun hHeld => ?_); refine with_tabW spec_l1Bent.tab7 spec_l1Bent.bits7 (fun HT_ HW_ => ?_)
     generalize w39.drew = w40 at HO312 BK306 BK314 HI0 HK HB hHeld ⊢
     refine q_p 0 (some 25) #[true, false, false, false, false, false, false, false, false] HT_.out ?_
     refine q_p 2 (some 27) #[true, false, true, false, false, false, false, false, false] HT_.out ?_
     refine q_p 3 (some 28) #[true, false, true, true, false, false, false, false, false] HT_.out ?_
     refine q_t 1 (some 26) #[true, true, true, true, false, false, false, false, false] HT_.out HW_.out hHeld ?_
     refine one_ (i := 4) (N := some 29) #[true, true, true, true, true, false, false, false, false] rfl rfl (one_of HT_.out (by kernel_rfl)) (by decide) (fun K hK => ?_)
     refine Kd.R_lit_step (Kd.int .i64) _ 2 ?hg (N := 29) ?hd (xs := ([(-1), 3, 1] : List Int)) (inner := [.int .i64 (-1), .int .i64 3, .int .i64 1]) (ok := fun _ => True) (okp := fun _ => True) ?hr ?hp (fun _ hk => hk) trivial (Below.refl _ _) (Nat.le_refl _) (by simp) ?_; (case hd => rfl); (case hg => rfl); (case hr => first | (go_simp; done) | (go_simp; rfl)); (case hp => exact (Reps.one (show Kd.M (Kd.int .i64) _ _ _ (-1) [.int .i64 (-1)] from rfl) (Reps.one (show Kd.M (Kd.int .i64) _ _ _ 3 [.int .i64 3] from rfl) (Reps.one (show Kd.M (Kd.int .i64) _ _ _ 1 [.int .i64 1] from rfl) (Reps.none _ _)))))
     intro v325 w41 ho42 hb hg_ hnew_
     clear hg_ hnew_
     (first | rw [← Ny324.out] at ho42 | (simp only [Int.reduceToNat] at ho42; rw [← Ny324.out] at ho42))
     have n0_ := Aside0.mk (Kd.R_below (q_r (HO312.out)) hb)
     have n1_ := Aside0.mk (Kd.R_lower ho42 (keep_size (w := w) (g := g) (row := none) q_K))
     have n2_ := Aside0.mk (IsS130.below q_I130_0_1 hb)
     have n3_ := Aside0.mk (blk_below (q_b BK306.out) hb)
     have n4_ := Aside0.mk (blk_below (q_b BK314.out) hb)
     have n5_ := Aside0.mk (KeepBut.trans q_K (KeepBut.of_below hb g none) (.inl rfl))
     have n6_ := Aside0.mk (below_step q_B130_0 hb)
     clear HO312
     clear HI0
     clear BK306
     clear BK314
     clear HK
     clear HB
     have HO312 := n0_
     have HO326 := n1_
     have HI0 := n2_
     have BK306 := n3_
     have BK314 := n4_
     have HK := n5_
     have HB := n6_
     clear n0_ n1_ n2_ n3_ n4_ n5_ n6_
     clear hb ho42
     obtain ⟨Ao43, co43, eo43⟩ := Kd.R_slice HO326.out
     (first | subst eo43 | (injection eo43 with f1_ f2_ f3_; have f4_ := f1_.symm; have f5_ := f3_.symm; clear f1_ f2_ f3_; subst f4_; subst f5_))
     refine hK.out _ _ ⟨q_z BK314.out 0, q_z BK314.out 1⟩ (fun hHeld => ?_)
     clear hK K
     refine norm_ (a' := ?_) ?_ ?_
     rotate_left
     ·show Act.put _ (some 29) _ = _
      simp only [Act.put, List.setIfInBounds_toArray, List.set_cons_zero, List.set_cons_succ, i64_w, i32_w]
      rfl
     refine one_ (i := 5) (N := some 30) #[true, true, true, true, true, true, false, false, false] rfl rfl (one_of HT_.out (by kernel_rfl)) (by decide) (fun K hK => ?_)
     refine goes_ Try.func100 (by kernel_rfl) rfl #[.pointer (some ⟨g, 0, none⟩), .slice Ao43 y324.length co43] (by rfl) rfl rfl (by (try simp only [List.map_toArray, List.map_cons, List.map_nil]); first | done | rfl | (simp only [List.length_drop, List.length_take]; rfl)) ?_
     with_reducible refine (spec_l1Pick.calls g s0_0 t318 _ _ y324 t327 t328 w0 _ ?side1 ?side2 ?side3 ?side4 ?side5 A26.out).mono ?_
     (case side1 => repeat (first | (with_reducible first | exact HI0.out | apply IsS130.alloc | apply IsS130.drewN | apply IsS130.drew | apply IsS130.set_1 | refine IsS130.far ?_ NB0_306.out _ | refine IsS130.far ?_ NB0_314.out _) | exact HI0.out))
     (case side2 => repeat (first | (with_reducible first | exact HB.out | apply below_alloc | apply pw_below_drewN | apply below_drew1 | refine below_set ?_ (IsS130.ge HI0.out) | refine below_set ?_ GE306.out | refine below_set ?_ GE314.out) | exact HB.out))
     (case side3 => exact q_c ((Kd.R_reads' HO326.out).2.2))
     (case side4 => exact (Kd.R_reads' HO326.out).2.1)
     (case side5 => exact far_slice (IsS130.own_ne HI0.out HO326.out (by decide)))
     rintro e w44 ⟨rfl, hi, hb, hk⟩
     refine ⟨_, rfl, ?_⟩
     have n0_ := Aside0.mk (KeepBut.blk hk (g' := gb306) (o := .cells #[.int .i64 0, .slice none 0 0] 36 (0, 0)) kq NB306_0.out (by simp))
     have n1_ := Aside0.mk (Kd.R_mono (Kd.R_keep (IsS130.apart (show IsS130 w0 _ g s0_0 t318 from q_I130_0_1) (q_r (HO312.out)) (by decide)) hk (fun _ h => h.2)) (fun _ h => h.1))
     have n2_ := Aside0.mk (KeepBut.blk hk (g' := gb314) (o := .cells #[.int .i64 t309, .slice Ao37 t310.length co37] 36 (0, 0)) kq NB314_0.out (by simp))
     have n3_ := Aside0.mk (Kd.R_mono (Kd.R_keep (IsS130.apart (show IsS130 w0 _ g s0_0 t318 from q_I130_0_1) (q_r (HO326.out)) (by decide)) hk (fun _ h => h.2)) (fun _ h => h.1))
     have n4_ := Aside0.mk (KeepBut.trans q_K hk (.inl rfl))
     have n5_ := Aside0.mk (hb)
     have n6_ := Aside0.mk (hi)
     clear BK306
     clear HO312
     clear BK314
     clear HO326
     clear HK
     clear HB
     clear HI0
     have BK306 := n0_
     have HO312 := n1_
     have BK314 := n2_
     have HO326 := n3_
     have HK := n4_
     have HB := n5_
     have HI0 := n6_
     clear n0_ n1_ n2_ n3_ n4_ n5_ n6_
     (try clear hb)
     (try clear hb2)
     (try clear hk)
     (try clear hi)
     have p29 : 0 ≤ (t315 : Int) := q_d
     have q29 : (t315 : Int) < ((t310.length : Int) : Int) := q_d
     obtain ⟨go29, co29, eo29, gb29, gl29, cl29, HG29⟩ := Kd.R_form HO312.out (by omega)
     (first | cases eo29 | (injection eo29 with ea_ en_ ec_; (first | subst ea_ | (injection ea_ with ea_; subst ea_)); subst ec_; clear en_))
     have GB29 := Aside0.mk gb29
     have GG29 := Aside0.mk HG29
     clear gb29 gl29 HG29
     obtain ⟨ce29, hcl29, hM29, hcc29, hfr29⟩ := Kd.R_elem HO312.out z89 (t315 : Int) p29 q29
     obtain rfl := k89_openM hM29
     have hx29_0 : World.cell? _ ⟨go29, (t315 : Int).toNat * 4, none⟩ = some (.int .i64 ((rd_T89 t310 t315).f0)) := hcc29 0 _ rfl
     have hx29_1 : World.cell? _ ⟨go29, (t315 : Int).toNat * 4 + 1, none⟩ = some (.int .i64 ((rd_T89 t310 t315).f1)) := hcc29 1 _ rfl
     have hx29_2 : World.cell? _ ⟨go29, (t315 : Int).toNat * 4 + 2, none⟩ = some (.int .i64 ((rd_T89 t310 t315).f2)) := hcc29 2 _ rfl
     have hx29_3 : World.cell? _ ⟨go29, (t315 : Int).toNat * 4 + 3, none⟩ = some (.int .i64 ((rd_T89 t310 t315).f3)) := hcc29 3 _ rfl
     have hf29_0 : World.frozen? _ ⟨go29, (t315 : Int).toNat * 4, none⟩ = false := hfr29 0
     have hf29_1 : World.frozen? _ ⟨go29, (t315 : Int).toNat * 4 + 1, none⟩ = false := hfr29 1
     have hf29_2 : World.frozen? _ ⟨go29, (t315 : Int).toNat * 4 + 2, none⟩ = false := hfr29 2
     have hf29_3 : World.frozen? _ ⟨go29, (t315 : Int).toNat * 4 + 3, none⟩ = false := hfr29 3
     clear hcl29 hcc29 hfr29; (try clear hM29)
     replace p29 := eq_true p29
     replace q29 := eq_true q29
     have HN0_go29 := Aside0.mk (show g ≠ go29 from by have h_ := IsS130.own_ne HI0.out HO312.out (by decide); intro e_; exact h_ (by rw [e_]; rfl))
     obtain ⟨ce45, hcl45, hM45, hcc45, hfr45⟩ := Kd.R_elem HO312.out z89 (t315 : Int) q_d (by have h_ : (t315 : Int) < ((t310.length : Int) : Int) := q_d; first | exact h_ | (have e_ := (Kd.R_reads' HO312.out).1; omega) | simpa using h_)
     obtain rfl := k89_openM hM45
     have HP45 := (Kd.R_seg HO312.out (t315 : Int) q_d (by have h_ : (t315 : Int) < ((t310.length : Int) : Int) := q_d; first | exact h_ | (have e_ := (Kd.R_reads' HO312.out).1; omega) | simpa using h_) (seg := [.int .i64 t327]) (j := 0) hcl45 hcc45 (show 1 ≤ 4 from by decide) (x' := (⟨t327, (rd_T89 t310 t315).f1, (rd_T89 t310 t315).f2, (rd_T89 t310 t315).f3⟩ : S89)) (k89_mkM _ _ _ (⟨t327, (rd_T89 t310 t315).f1, (rd_T89 t310 t315).f2, (rd_T89 t310 t315).f3⟩ : S89) ) (fun _ hk => hk)).1
     rw [← Ny329.out] at HP45
     have HQ45 := Aside0.mk HP45
     clear hcl45 hcc45 hfr45 HP45; (try clear hM45)
     refine hK.out _ _ ⟨q_z BK314.out 0, q_z BK314.out 1⟩ (fun hHeld => ?_)
     clear hK K
     refine norm_ (a' := ?_) ?_ ?_
     rotate_left
     ·show Act.put _ (some 30) _ = _
      simp only [Act.put, List.setIfInBounds_toArray, List.set_cons_zero, List.set_cons_succ, i64_w, i32_w]
      rfl
     refine q_p 6 (some 31) #[true, true, true, true, true, true, true, false, false] HT_.out ?_
     refine q_p 7 (some 32) #[true, true, true, true, true, true, true, true, false] HT_.out ?_
     refine last_ (i := 8) (N := none) #[true, true, true, true, true, true, true, true, true] rfl rfl (one_of HT_.out (by kernel_rfl)) (by decide) (fun K hK => ?_)
     refine skip_ (w1 := ?_) (by rfl) rfl ?_ ?_
     rotate_left
     ·go_simp
      rfl
     refine hK.out _ _ ?_
     clear hK K
     refine done_ (done_of HT_.out (by kernel_rfl)) ?_
     have n0_ : Aside0 (Kd.R k89 89 (w44.setCell ⟨go29, (t315 : Int).toNat * 4, none⟩ (.int .i64 t327)) w.heap.size (fun _ => True) (.slice (some ⟨go29, 0, none⟩) t310.length co37) y329) := ⟨q_r (HQ45.out)⟩
     have n1_ : Aside0 (Kd.R (Kd.int .i64) 2 (w44.setCell ⟨go29, (t315 : Int).toNat * 4, none⟩ (.int .i64 t327)) w.heap.size (fun _ => True) (.slice Ao43 y324.length co43) y324) := ⟨by (with_reducible repeat (first | apply Kd.R_alloc | apply Kd.R_drewN | apply Kd.R_drew)); exact Kd.R_mono (Kd.R_far (p := ⟨go29, (t315 : Int).toNat * 4, none⟩) (Kd.R_types HO326.out GG29.out (by decide)) (fun _ hk => hk.2) (.int .i64 t327)) (fun _ hk => trivial)⟩
     have n2_ : Aside0 ((w44.setCell ⟨go29, (t315 : Int).toNat * 4, none⟩ (.int .i64 t327)).heap[gb306]? = some (.cells #[.int .i64 0, .slice none 0 0] 36 (0, 0))) := ⟨by (with_reducible repeat (first | refine blk_drewN ?_ _ | refine blk_drew ?_ | refine blk_alloc ?_ _)); refine blk_far ?_ (by have h_ := Kd.R_ne HO312.out BK306.out (by decide); intro e_; exact h_ (by rw [e_]; rfl)) _; (with_reducible repeat (first | refine blk_drewN ?_ _ | refine blk_drew ?_ | refine blk_alloc ?_ _)); exact BK306.out⟩
     have n3_ : Aside0 ((w44.setCell ⟨go29, (t315 : Int).toNat * 4, none⟩ (.int .i64 t327)).heap[gb314]? = some (.cells #[.int .i64 t309, .slice (some ⟨go29, 0, none⟩) t310.length co37] 36 (0, 0))) := ⟨by (with_reducible repeat (first | refine blk_drewN ?_ _ | refine blk_drew ?_ | refine blk_alloc ?_ _)); refine blk_far ?_ (by have h_ := Kd.R_ne HO312.out BK314.out (by decide); intro e_; exact h_ (by rw [e_]; rfl)) _; (with_reducible repeat (first | refine blk_drewN ?_ _ | refine blk_drew ?_ | refine blk_alloc ?_ _)); exact BK314.out⟩
     have n4_ : Aside0 (IsS130 w0 (w44.setCell ⟨go29, (t315 : Int).toNat * 4, none⟩ (.int .i64 t327)) g s0_0 t328) := ⟨by repeat (first | (with_reducible first | exact HI0.out | apply IsS130.alloc | apply IsS130.drewN | apply IsS130.drew | apply IsS130.set_1 | refine IsS130.far ?_ HN0_go29.out _ | refine IsS130.far ?_ NB0_306.out _ | refine IsS130.far ?_ NB0_314.out _) | exact HI0.out)⟩
     have n5_ : Aside0 (KeepBut w (w44.setCell ⟨go29, (t315 : Int).toNat * 4, none⟩ (.int .i64 t327)) g none) := ⟨by repeat (first | (with_reducible first | exact HK.out | apply KeepBut.set_ | apply keep_drewN | apply keep_drew | apply keep_alloc | refine keep_far ?_ GB29.out _ | refine keep_far ?_ GW306.out _ | refine keep_far ?_ GW314.out _) | exact HK.out)⟩
     have n6_ : Aside0 (Below w0.heap.size w0 (w44.setCell ⟨go29, (t315 : Int).toNat * 4, none⟩ (.int .i64 t327))) := ⟨by repeat (first | (with_reducible first | exact HB.out | apply below_alloc | apply pw_below_drewN | apply below_drew1 | refine below_set ?_ (Nat.le_trans HL.out GB29.out) | refine below_set ?_ (IsS130.ge HI0.out) | refine below_set ?_ GE306.out | refine below_set ?_ GE314.out) | exact HB.out)⟩
     (try clear HO312)
     (try clear HO326)
     (try clear BK306)
     (try clear BK314)
     (try clear HI0)
     (try clear HK)
     (try clear HB)
     generalize (w44.setCell ⟨go29, (t315 : Int).toNat * 4, none⟩ (.int .i64 t327)) = w46 at n0_ n1_ n2_ n3_ n4_ n5_ n6_ ⊢
     have HO312 := n0_
     have HO326 := n1_
     have BK306 := n2_
     have BK314 := n3_
     have HI0 := n4_
     have HK := n5_
     have HB := n6_
     clear n0_ n1_ n2_ n3_ n4_ n5_ n6_
     obtain ⟨hcz47_0, hcz47_1, hfz47_0, hfz47_1⟩ := q_2 BK314.out
     have hnb48 := NB306_0.out
     have hnc48 := NB0_306.out
     obtain ⟨hcz49_0, hcz49_1, hfz49_0, hfz49_1⟩ := q_2 BK306.out
     try go_wp2
     refine bodyPost_ret (results_cell_row rfl _ _ gb306 36 #[.int .i64 t309, .slice (some ⟨go29, 0, none⟩) t310.length co37] (0, 0) _ rfl (by (with_reducible repeat (first | refine blk_drewN ?_ _ | refine blk_drew ?_ | refine blk_alloc ?_ _)); refine blk_put (cs := #[.int .i64 t309, .slice none 0 0]) ?_ 1 _ rfl; (with_reducible repeat (first | refine blk_drewN ?_ _ | refine blk_drew ?_ | refine blk_alloc ?_ _)); refine blk_put (cs := #[.int .i64 0, .slice none 0 0]) ?_ 0 _ rfl; (with_reducible repeat (first | refine blk_drewN ?_ _ | refine blk_drew ?_ | refine blk_alloc ?_ _)); exact BK306.out) Try.underlying36 rfl (by kernel_rfl)) rfl ?_
     exact ⟨_, q_e, by (with_reducible repeat (first | apply Kd.R_alloc | apply Kd.R_drewN | apply Kd.R_drew)); exact Kd.R_mono (Kd.R_far (p := ⟨gb306, 1, none⟩) (Kd.R_far (p := ⟨gb306, 0, none⟩) (Kd.R_types HO312.out BK306.out (by decide)) (fun _ hk => hk.2) (.int .i64 t309)) (fun _ hk => hk.2) (.slice (some ⟨go29, 0, none⟩) t310.length co37)) (fun _ hk => trivial), q_I130_0_1, q_B130_0, q_K⟩
    ·rw [if_neg c28] at H
     exact absurd H (by simp)
   ·rw [if_neg c27] at H
    exact absurd H (by simp)
  ·rw [if_neg c25] at H
   have c25b0 : (t317 == 1) = false := beq_eq_false_iff_ne.mpr c25
   have c25b1 : (t317 != 1) = true := bne_iff_ne.mpr c25
   by_cases c50 : t317 = 2
   ·rw [if_pos c50] at H
    have c50b0 : (t317 == 2) = true := beq_iff_eq.mpr c50
    have c50b1 : (t317 != 2) = false := bne_eq_false_iff_eq.mpr c50
    clear c50
    obtain ⟨y330, hy330⟩ : ∃ y_ : List Int, y_ = (([(-1), 6, 5] : List Int)) := ⟨_, rfl⟩
    replace H : ((spec_l1Pick.f s0_0 t318 y330).bind fun bt333 => (if 0 ≤ t315 then (if t315 < (t310.length : Int) then (some (t309, (t310.set (t315 : Int).toNat (⟨(rd_T89 t310 t315).f0, bt333.1, (rd_T89 t310 t315).f2, (rd_T89 t310 t315).f3⟩ : S89)), bt333.2)) else (none)) else (none))) = some (r1, r2, r3) := q_h hy330 H
    have Ny330 := Aside0.mk hy330
    clear hy330
    replace H := Option.bind_eq_some_iff.mp H
    obtain ⟨⟨t333, t334⟩, A510, H⟩ := H
    replace H : (if 0 ≤ t315 then (if t315 < (t310.length : Int) then (some (t309, (t310.set (t315 : Int).toNat (⟨(rd_T89 t310 t315).f0, t333, (rd_T89 t310 t315).f2, (rd_T89 t310 t315).f3⟩ : S89)), t334)) else (none)) else (none)) = some (r1, r2, r3) := H
    have A51 := Aside0.mk A510
    clear A510
    by_cases c52 : 0 ≤ t315
    ·rw [if_pos c52] at H
     have c52b0 := decide_eq_true c52
     clear c52
     by_cases c53 : t315 < (t310.length : Int)
     ·rw [if_pos c53] at H
      have c53b0 := decide_eq_true c53
      clear c53
      obtain ⟨y335, hy335⟩ : ∃ y_ : List (S89), y_ = (t310.set (t315 : Int).toNat (⟨(rd_T89 t310 t315).f0, t333, (rd_T89 t310 t315).f2, (rd_T89 t310 t315).f3⟩ : S89)) := ⟨_, rfl⟩
      replace H : (some (t309, y335, t334)) = some (r1, r2, r3) := q_h hy335 H
      have Ny335 := Aside0.mk hy335
      clear hy335
      simp only [Option.some.injEq, Prod.mk.injEq] at H
      obtain ⟨rfl, rfl, rfl⟩ := H
      go_enter Try.func97, Try.ntmps97
      try go_wp2_with (first | ((with_reducible refine gate_dst (N := 2) rfl ?_); refine q_box (N := 2) (cs := #[.int .i64 0, .slice none 0 0]) (t := 36) ?_; intro gb306 hg w55 hbox hb; have n0_ := Aside0.mk (IsS130.below q_I130_0_1 hb); have n1_ := Aside0.mk (KeepBut.trans q_K (KeepBut.of_below hb g none) (.inl rfl)); have n2_ := Aside0.mk (below_step q_B130_0 hb); have n3_ := Aside0.mk (hbox); have n4_ := Aside0.mk ((by rw [hg]; exact (keep_size (w := w) (g := g) (row := none) q_K) : w.heap.size ≤ gb306)); have n5_ := Aside0.mk ((Nat.le_trans HW0.out (by rw [hg]; exact (keep_size (w := w) (g := g) (row := none) q_K) : w.heap.size ≤ gb306) : w0.heap.size ≤ gb306)); have n6_ := Aside0.mk ((by rw [hg]; exact Nat.ne_of_lt (IsS130.lt (show IsS130 w0 _ g s0_0 s0_1 from q_I130_0_1)) : g ≠ gb306)); have n7_ := Aside0.mk ((by rw [hg]; exact Nat.ne_of_gt (IsS130.lt (show IsS130 w0 _ g s0_0 s0_1 from q_I130_0_1)) : gb306 ≠ g)); revert n0_ n1_ n2_ n3_ n4_ n5_ n6_ n7_; clear HI0 HK HB; intro HI0 HK HB BK306 GW306 GE306 NB0_306 NB306_0; clear hb hbox hg) | ((with_reducible refine gate_callee (f := 121) rfl ?_); refine goesLq (some 7) rfl rfl Try.func121 (by kernel_rfl) rfl #[.pointer (some ⟨g, 0, none⟩), .int .i64 9] rfl ?_; (with_reducible refine (spec_l1Next.calls g s0_0 s0_1 9 t307 t308 w0 _ ?side1 ?side2 A2.out).mono ?_); (case side1 => repeat (first | (with_reducible first | exact HI0.out | apply IsS130.alloc | apply IsS130.drewN | apply IsS130.drew | apply IsS130.set_1 | refine IsS130.far ?_ NB0_306.out _) | exact HI0.out)); (case side2 => repeat (first | (with_reducible first | exact HB.out | apply below_alloc | apply pw_below_drewN | apply below_drew1 | refine below_set ?_ (IsS130.ge HI0.out) | refine below_set ?_ GE306.out) | exact HB.out)); rintro e w56 ⟨rfl, hi, hb, hk⟩; refine ⟨_, rfl, ?_⟩; have n0_ := Aside0.mk (KeepBut.blk hk (g' := gb306) (o := .cells #[.int .i64 0, .slice none 0 0] 36 (0, 0)) kq NB306_0.out (by simp)); have n1_ := Aside0.mk (KeepBut.trans q_K hk (.inl rfl)); have n2_ := Aside0.mk (hb); have n3_ := Aside0.mk (hi); revert n0_ n1_ n2_ n3_; clear BK306 HK HB HI0; intro BK306 HK HB HI0; (try clear hb); (try clear hb2); (try clear hk); (try clear hi)) | ((with_reducible refine gate_callee (f := 122) rfl ?_); refine goesLq (some 9) rfl rfl Try.func122 (by kernel_rfl) rfl #[.pointer (some ⟨g, 0, none⟩), .int .i64 (wrap64 (1 + t307))] rfl ?_; (with_reducible refine (spec_l1Draw.calls k g s0_0 t308 (wrap64 (1 + t307)) t309 t310 t313 w0 _ ?side1 ?side2 A3.out).mono ?_); (case side1 => repeat (first | (with_reducible first | exact HI0.out | apply IsS130.alloc | apply IsS130.drewN | apply IsS130.drew | apply IsS130.set_1 | refine IsS130.far ?_ NB0_306.out _) | exact HI0.out)); (case side2 => repeat (first | (with_reducible first | exact HB.out | apply below_alloc | apply pw_below_drewN | apply below_drew1 | refine below_set ?_ (IsS130.ge HI0.out) | refine below_set ?_ GE306.out) | exact HB.out)); rintro e w57 ⟨v311, rfl, ho0, hi, hb, hk⟩; refine ⟨_, rfl, ?_⟩; have n0_ := Aside0.mk (KeepBut.blk hk (g' := gb306) (o := .cells #[.int .i64 0, .slice none 0 0] 36 (0, 0)) kq NB306_0.out (by simp)); have n1_ := Aside0.mk (Kd.R_lower ho0 (keep_size (w := w) (g := g) (row := none) q_K)); have n2_ := Aside0.mk (KeepBut.trans q_K hk (.inl rfl)); have n3_ := Aside0.mk (hb); have n4_ := Aside0.mk (hi); revert n0_ n1_ n2_ n3_ n4_; clear BK306 HK HB HI0; intro BK306 HO312 HK HB HI0; (try clear hb); (try clear hb2); (try clear hk); (try clear hi); (try clear ho0)) | ((with_reducible refine gate_dst (N := 3) rfl ?_); refine q_box (N := 3) (cs := #[.int .i64 0, .slice none 0 0]) (t := 36) ?_; intro gb314 hg w58 hbox hb; have n0_ := Aside0.mk (Kd.R_below (q_r (HO312.out)) hb); have n1_ := Aside0.mk (IsS130.below q_I130_0_1 hb); have n2_ := Aside0.mk (blk_below (q_b BK306.out) hb); have n3_ := Aside0.mk (KeepBut.trans q_K (KeepBut.of_below hb g none) (.inl rfl)); have n4_ := Aside0.mk (below_step q_B130_0 hb); have n5_ := Aside0.mk (hbox); have n6_ := Aside0.mk ((by rw [hg]; exact (keep_size (w := w) (g := g) (row := none) q_K) : w.heap.size ≤ gb314)); have n7_ := Aside0.mk ((Nat.le_trans HW0.out (by rw [hg]; exact (keep_size (w := w) (g := g) (row := none) q_K) : w.heap.size ≤ gb314) : w0.heap.size ≤ gb314)); have n8_ := Aside0.mk ((q_n hg (q_b BK306.out) : gb306 ≠ gb314)); have n9_ := Aside0.mk ((q_m hg (q_b BK306.out) : gb314 ≠ gb306)); have n10_ := Aside0.mk ((by rw [hg]; exact Nat.ne_of_lt (IsS130.lt (show IsS130 w0 _ g s0_0 t313 from q_I130_0_1)) : g ≠ gb314)); have n11_ := Aside0.mk ((by rw [hg]; exact Nat.ne_of_gt (IsS130.lt (show IsS130 w0 _ g s0_0 t313 from q_I130_0_1)) : gb314 ≠ g)); revert n0_ n1_ n2_ n3_ n4_ n5_ n6_ n7_ n8_ n9_ n10_ n11_; clear HO312 HI0 BK306 HK HB; intro HO312 HI0 BK306 HK HB BK314 GW314 GE314 NB306_314 NB314_306 NB0_314 NB314_0; clear hb hbox hg; have hnb59 := NB314_306.out; have hnc59 := NB306_314.out; have hnb60 := NB314_0.out; have hnc60 := NB0_314.out; obtain ⟨hcz61_0, hcz61_1, hfz61_0, hfz61_1⟩ := q_2 BK314.out; obtain ⟨Ao62, co62, eo62⟩ := Kd.R_slice HO312.out; subst eo62) | ((with_reducible refine gate_callee (f := 121) rfl ?_); refine goesLq (some 14) rfl rfl Try.func121 (by kernel_rfl) rfl #[.pointer (some ⟨g, 0, none⟩), .int .i64 (t310.length : Int)] rfl ?_; (with_reducible refine (spec_l1Next.calls g s0_0 t313 (t310.length : Int) t315 t316 w0 _ ?side1 ?side2 A4.out).mono ?_); (case side1 => repeat (first | (with_reducible first | exact HI0.out | apply IsS130.alloc | apply IsS130.drewN | apply IsS130.drew | apply IsS130.set_1 | refine IsS130.far ?_ NB0_306.out _ | refine IsS130.far ?_ NB0_314.out _) | exact HI0.out)); (case side2 => repeat (first | (with_reducible first | exact HB.out | apply below_alloc | apply pw_below_drewN | apply below_drew1 | refine below_set ?_ (IsS130.ge HI0.out) | refine below_set ?_ GE306.out | refine below_set ?_ GE314.out) | exact HB.out)); rintro e w63 ⟨rfl, hi, hb, hk⟩; refine ⟨_, rfl, ?_⟩; have n0_ := Aside0.mk (KeepBut.blk hk (g' := gb306) (o := .cells #[.int .i64 0, .slice none 0 0] 36 (0, 0)) (by (with_reducible repeat (first | refine blk_drewN ?_ _ | refine blk_drew ?_ | refine blk_alloc ?_ _)); refine blk_far ?_ NB306_314.out _; (with_reducible repeat (first | refine blk_drewN ?_ _ | refine blk_drew ?_ | refine blk_alloc ?_ _)); refine blk_far ?_ NB306_314.out _; (with_reducible repeat (first | refine blk_drewN ?_ _ | refine blk_drew ?_ | refine blk_alloc ?_ _)); exact BK306.out) NB306_0.out (by simp)); have n1_ := Aside0.mk (Kd.R_mono (Kd.R_keep (IsS130.apart (show IsS130 w0 _ g s0_0 t313 from q_I130_0_1) (by (with_reducible repeat (first | apply Kd.R_alloc | apply Kd.R_drewN | apply Kd.R_drew)); exact (Kd.R_mono (Kd.R_far (p := ⟨gb314, 1, none⟩) (Kd.R_far (p := ⟨gb314, 0, none⟩) (Kd.R_types HO312.out BK314.out (by decide)) (fun _ hk => hk.2) (.int .i64 t309)) (fun _ hk => hk.2) (.slice Ao62 t310.length co62)) (fun _ h_ => h_.1))) (by decide)) hk (fun _ h => h.2)) (fun _ h => h.1)); have n2_ := Aside0.mk (KeepBut.blk hk (g' := gb314) (o := .cells #[.int .i64 t309, .slice Ao62 t310.length co62] 36 (0, 0)) (by (with_reducible repeat (first | refine blk_drewN ?_ _ | refine blk_drew ?_ | refine blk_alloc ?_ _)); refine blk_put (cs := #[.int .i64 t309, .slice none 0 0]) ?_ 1 _ rfl; (with_reducible repeat (first | refine blk_drewN ?_ _ | refine blk_drew ?_ | refine blk_alloc ?_ _)); refine blk_put (cs := #[.int .i64 0, .slice none 0 0]) ?_ 0 _ rfl; (with_reducible repeat (first | refine blk_drewN ?_ _ | refine blk_drew ?_ | refine blk_alloc ?_ _)); exact BK314.out) NB314_0.out (by simp)); have n3_ := Aside0.mk (KeepBut.trans q_K hk (.inl rfl)); have n4_ := Aside0.mk (hb); have n5_ := Aside0.mk (hi); revert n0_ n1_ n2_ n3_ n4_ n5_; clear BK306 HO312 BK314 HK HB HI0; intro BK306 HO312 BK314 HK HB HI0; (try clear hb); (try clear hb2); (try clear hk); (try clear hi)) | ((with_reducible refine gate_callee (f := 121) rfl ?_); refine goesLq (some 16) rfl rfl Try.func121 (by kernel_rfl) rfl #[.pointer (some ⟨g, 0, none⟩), .int .i64 24] rfl ?_; (with_reducible refine (spec_l1Next.calls g s0_0 t316 24 t317 t318 w0 _ ?side1 ?side2 A5.out).mono ?_); (case side1 => repeat (first | (with_reducible first | exact HI0.out | apply IsS130.alloc | apply IsS130.drewN | apply IsS130.drew | apply IsS130.set_1 | refine IsS130.far ?_ NB0_306.out _ | refine IsS130.far ?_ NB0_314.out _) | exact HI0.out)); (case side2 => repeat (first | (with_reducible first | exact HB.out | apply below_alloc | apply pw_below_drewN | apply below_drew1 | refine below_set ?_ (IsS130.ge HI0.out) | refine below_set ?_ GE306.out | refine below_set ?_ GE314.out) | exact HB.out)); rintro e w64 ⟨rfl, hi, hb, hk⟩; refine ⟨_, rfl, ?_⟩; have n0_ := Aside0.mk (KeepBut.blk hk (g' := gb306) (o := .cells #[.int .i64 0, .slice none 0 0] 36 (0, 0)) kq NB306_0.out (by simp)); have n1_ := Aside0.mk (Kd.R_mono (Kd.R_keep (IsS130.apart (show IsS130 w0 _ g s0_0 t316 from q_I130_0_1) (q_r (HO312.out)) (by decide)) hk (fun _ h => h.2)) (fun _ h => h.1)); have n2_ := Aside0.mk (KeepBut.blk hk (g' := gb314) (o := .cells #[.int .i64 t309, .slice Ao62 t310.length co62] 36 (0, 0)) kq NB314_0.out (by simp)); have n3_ := Aside0.mk (KeepBut.trans q_K hk (.inl rfl)); have n4_ := Aside0.mk (hb); have n5_ := Aside0.mk (hi); revert n0_ n1_ n2_ n3_ n4_ n5_; clear BK306 HO312 BK314 HK HB HI0; intro BK306 HO312 BK314 HK HB HI0; (try clear hb); (try clear hb2); (try clear hk); (try clear hi)))
      have n0_ := Aside0.mk (Kd.R_drew HO312.out)
      have n1_ := Aside0.mk (blk_drew BK306.out)
      have n2_ := Aside0.mk (blk_drew BK314.out)
      have n3_ := Aside0.mk (IsS130.drew HI0.out)
      have n4_ := Aside0.mk (keep_drew HK.out)
      have n5_ := Aside0.mk (below_drew1 HB.out)
      clear HO312
      clear BK306
      clear BK314
      clear HI0
      clear HK
      clear HB
      have HO312 := n0_
      have BK306 := n1_
      have BK314 := n2_
      have HI0 := n3_
      have HK := n4_
      have HB := n5_
      clear n0_ n1_ n2_ n3_ n4_ n5_
      refine start_ (n := 9) (S := fun w' => w'.cell? ⟨gb314, 0, none⟩ = some (.int .i64 t309) ∧ w'.cell? ⟨gb314, 1, none⟩ = some (.slice Ao62 t310.length co62)) (ds := [8]) #[false, false, false, false, false, false, false, false, false] (by kernel_rfl) rfl rfl ⟨q_z BK314.out 0, q_z BK314.out 1⟩ (fun hHeld => ?_); refine with_tabW spec_l1Bent.tab9 spec_l1Bent.bits9 (fun HT_ HW_ => ?_)
      generalize w64.drew = w65 at HO312 BK306 BK314 HI0 HK HB hHeld ⊢
      refine q_p 0 (some 35) #[true, false, false, false, false, false, false, false, false] HT_.out ?_
      refine q_p 2 (some 37) #[true, false, true, false, false, false, false, false, false] HT_.out ?_
      refine q_p 3 (some 38) #[true, false, true, true, false, false, false, false, false] HT_.out ?_
      refine q_t 1 (some 36) #[true, true, true, true, false, false, false, false, false] HT_.out HW_.out hHeld ?_
      refine one_ (i := 4) (N := some 39) #[true, true, true, true, true, false, false, false, false] rfl rfl (one_of HT_.out (by kernel_rfl)) (by decide) (fun K hK => ?_)
      refine Kd.R_lit_step (Kd.int .i64) _ 2 ?hg (N := 39) ?hd (xs := ([(-1), 6, 5] : List Int)) (inner := [.int .i64 (-1), .int .i64 6, .int .i64 5]) (ok := fun _ => True) (okp := fun _ => True) ?hr ?hp (fun _ hk => hk) trivial (Below.refl _ _) (Nat.le_refl _) (by simp) ?_; (case hd => rfl); (case hg => rfl); (case hr => first | (go_simp; done) | (go_simp; rfl)); (case hp => exact (Reps.one (show Kd.M (Kd.int .i64) _ _ _ (-1) [.int .i64 (-1)] from rfl) (Reps.one (show Kd.M (Kd.int .i64) _ _ _ 6 [.int .i64 6] from rfl) (Reps.one (show Kd.M (Kd.int .i64) _ _ _ 5 [.int .i64 5] from rfl) (Reps.none _ _)))))
      intro v331 w66 ho67 hb hg_ hnew_
      clear hg_ hnew_
      (first | rw [← Ny330.out] at ho67 | (simp only [Int.reduceToNat] at ho67; rw [← Ny330.out] at ho67))
      have n0_ := Aside0.mk (Kd.R_below (q_r (HO312.out)) hb)
      have n1_ := Aside0.mk (Kd.R_lower ho67 (keep_size (w := w) (g := g) (row := none) q_K))
      have n2_ := Aside0.mk (IsS130.below q_I130_0_1 hb)
      have n3_ := Aside0.mk (blk_below (q_b BK306.out) hb)
      have n4_ := Aside0.mk (blk_below (q_b BK314.out) hb)
      have n5_ := Aside0.mk (KeepBut.trans q_K (KeepBut.of_below hb g none) (.inl rfl))
      have n6_ := Aside0.mk (below_step q_B130_0 hb)
      clear HO312
      clear HI0
      clear BK306
      clear BK314
      clear HK
      clear HB
      have HO312 := n0_
      have HO332 := n1_
      have HI0 := n2_
      have BK306 := n3_
      have BK314 := n4_
      have HK := n5_
      have HB := n6_
      clear n0_ n1_ n2_ n3_ n4_ n5_ n6_
      clear hb ho67
      obtain ⟨Ao68, co68, eo68⟩ := Kd.R_slice HO332.out
      (first | subst eo68 | (injection eo68 with f1_ f2_ f3_; have f4_ := f1_.symm; have f5_ := f3_.symm; clear f1_ f2_ f3_; subst f4_; subst f5_))
      refine hK.out _ _ ⟨q_z BK314.out 0, q_z BK314.out 1⟩ (fun hHeld => ?_)
      clear hK K
      refine norm_ (a' := ?_) ?_ ?_
      rotate_left
      ·show Act.put _ (some 39) _ = _
       simp only [Act.put, List.setIfInBounds_toArray, List.set_cons_zero, List.set_cons_succ, i64_w, i32_w]
       rfl
      refine one_ (i := 5) (N := some 40) #[true, true, true, true, true, true, false, false, false] rfl rfl (one_of HT_.out (by kernel_rfl)) (by decide) (fun K hK => ?_)
      refine goes_ Try.func100 (by kernel_rfl) rfl #[.pointer (some ⟨g, 0, none⟩), .slice Ao68 y330.length co68] (by rfl) rfl rfl (by (try simp only [List.map_toArray, List.map_cons, List.map_nil]); first | done | rfl | (simp only [List.length_drop, List.length_take]; rfl)) ?_
      with_reducible refine (spec_l1Pick.calls g s0_0 t318 _ _ y330 t333 t334 w0 _ ?side1 ?side2 ?side3 ?side4 ?side5 A51.out).mono ?_
      (case side1 => repeat (first | (with_reducible first | exact HI0.out | apply IsS130.alloc | apply IsS130.drewN | apply IsS130.drew | apply IsS130.set_1 | refine IsS130.far ?_ NB0_306.out _ | refine IsS130.far ?_ NB0_314.out _) | exact HI0.out))
      (case side2 => repeat (first | (with_reducible first | exact HB.out | apply below_alloc | apply pw_below_drewN | apply below_drew1 | refine below_set ?_ (IsS130.ge HI0.out) | refine below_set ?_ GE306.out | refine below_set ?_ GE314.out) | exact HB.out))
      (case side3 => exact q_c ((Kd.R_reads' HO332.out).2.2))
      (case side4 => exact (Kd.R_reads' HO332.out).2.1)
      (case side5 => exact far_slice (IsS130.own_ne HI0.out HO332.out (by decide)))
      rintro e w69 ⟨rfl, hi, hb, hk⟩
      refine ⟨_, rfl, ?_⟩
      have n0_ := Aside0.mk (KeepBut.blk hk (g' := gb306) (o := .cells #[.int .i64 0, .slice none 0 0] 36 (0, 0)) kq NB306_0.out (by simp))
      have n1_ := Aside0.mk (Kd.R_mono (Kd.R_keep (IsS130.apart (show IsS130 w0 _ g s0_0 t318 from q_I130_0_1) (q_r (HO312.out)) (by decide)) hk (fun _ h => h.2)) (fun _ h => h.1))
      have n2_ := Aside0.mk (KeepBut.blk hk (g' := gb314) (o := .cells #[.int .i64 t309, .slice Ao62 t310.length co62] 36 (0, 0)) kq NB314_0.out (by simp))
      have n3_ := Aside0.mk (Kd.R_mono (Kd.R_keep (IsS130.apart (show IsS130 w0 _ g s0_0 t318 from q_I130_0_1) (q_r (HO332.out)) (by decide)) hk (fun _ h => h.2)) (fun _ h => h.1))
      have n4_ := Aside0.mk (KeepBut.trans q_K hk (.inl rfl))
      have n5_ := Aside0.mk (hb)
      have n6_ := Aside0.mk (hi)
      clear BK306
      clear HO312
      clear BK314
      clear HO332
      clear HK
      clear HB
      clear HI0
      have BK306 := n0_
      have HO312 := n1_
      have BK314 := n2_
      have HO332 := n3_
      have HK := n4_
      have HB := n5_
      have HI0 := n6_
      clear n0_ n1_ n2_ n3_ n4_ n5_ n6_
      (try clear hb)
      (try clear hb2)
      (try clear hk)
      (try clear hi)
      have p54 : 0 ≤ (t315 : Int) := q_d
      have q54 : (t315 : Int) < ((t310.length : Int) : Int) := q_d
      obtain ⟨go54, co54, eo54, gb54, gl54, cl54, HG54⟩ := Kd.R_form HO312.out (by omega)
      (first | cases eo54 | (injection eo54 with ea_ en_ ec_; (first | subst ea_ | (injection ea_ with ea_; subst ea_)); subst ec_; clear en_))
      have GB54 := Aside0.mk gb54
      have GG54 := Aside0.mk HG54
      clear gb54 gl54 HG54
      obtain ⟨ce54, hcl54, hM54, hcc54, hfr54⟩ := Kd.R_elem HO312.out z89 (t315 : Int) p54 q54
      obtain rfl := k89_openM hM54
      have hx54_0 : World.cell? _ ⟨go54, (t315 : Int).toNat * 4, none⟩ = some (.int .i64 ((rd_T89 t310 t315).f0)) := hcc54 0 _ rfl
      have hx54_1 : World.cell? _ ⟨go54, (t315 : Int).toNat * 4 + 1, none⟩ = some (.int .i64 ((rd_T89 t310 t315).f1)) := hcc54 1 _ rfl
      have hx54_2 : World.cell? _ ⟨go54, (t315 : Int).toNat * 4 + 2, none⟩ = some (.int .i64 ((rd_T89 t310 t315).f2)) := hcc54 2 _ rfl
      have hx54_3 : World.cell? _ ⟨go54, (t315 : Int).toNat * 4 + 3, none⟩ = some (.int .i64 ((rd_T89 t310 t315).f3)) := hcc54 3 _ rfl
      have hf54_0 : World.frozen? _ ⟨go54, (t315 : Int).toNat * 4, none⟩ = false := hfr54 0
      have hf54_1 : World.frozen? _ ⟨go54, (t315 : Int).toNat * 4 + 1, none⟩ = false := hfr54 1
      have hf54_2 : World.frozen? _ ⟨go54, (t315 : Int).toNat * 4 + 2, none⟩ = false := hfr54 2
      have hf54_3 : World.frozen? _ ⟨go54, (t315 : Int).toNat * 4 + 3, none⟩ = false := hfr54 3
      clear hcl54 hcc54 hfr54; (try clear hM54)
      replace p54 := eq_true p54
      replace q54 := eq_true q54
      have HN0_go54 := Aside0.mk (show g ≠ go54 from by have h_ := IsS130.own_ne HI0.out HO312.out (by decide); intro e_; exact h_ (by rw [e_]; rfl))
      obtain ⟨ce70, hcl70, hM70, hcc70, hfr70⟩ := Kd.R_elem HO312.out z89 (t315 : Int) q_d (by have h_ : (t315 : Int) < ((t310.length : Int) : Int) := q_d; first | exact h_ | (have e_ := (Kd.R_reads' HO312.out).1; omega) | simpa using h_)
      obtain rfl := k89_openM hM70
      have HP70 := (Kd.R_seg HO312.out (t315 : Int) q_d (by have h_ : (t315 : Int) < ((t310.length : Int) : Int) := q_d; first | exact h_ | (have e_ := (Kd.R_reads' HO312.out).1; omega) | simpa using h_) (seg := [.int .i64 t333]) (j := 1) hcl70 hcc70 (show 2 ≤ 4 from by decide) (x' := (⟨(rd_T89 t310 t315).f0, t333, (rd_T89 t310 t315).f2, (rd_T89 t310 t315).f3⟩ : S89)) (k89_mkM _ _ _ (⟨(rd_T89 t310 t315).f0, t333, (rd_T89 t310 t315).f2, (rd_T89 t310 t315).f3⟩ : S89) ) (fun _ hk => hk)).1
      rw [← Ny335.out] at HP70
      have HQ70 := Aside0.mk HP70
      clear hcl70 hcc70 hfr70 HP70; (try clear hM70)
      refine hK.out _ _ ⟨q_z BK314.out 0, q_z BK314.out 1⟩ (fun hHeld => ?_)
      clear hK K
      refine norm_ (a' := ?_) ?_ ?_
      rotate_left
      ·show Act.put _ (some 40) _ = _
       simp only [Act.put, List.setIfInBounds_toArray, List.set_cons_zero, List.set_cons_succ, i64_w, i32_w]
       rfl
      refine q_p 6 (some 41) #[true, true, true, true, true, true, true, false, false] HT_.out ?_
      refine q_p 7 (some 42) #[true, true, true, true, true, true, true, true, false] HT_.out ?_
      refine last_ (i := 8) (N := none) #[true, true, true, true, true, true, true, true, true] rfl rfl (one_of HT_.out (by kernel_rfl)) (by decide) (fun K hK => ?_)
      refine skip_ (w1 := ?_) (by rfl) rfl ?_ ?_
      rotate_left
      ·go_simp
       rfl
      refine hK.out _ _ ?_
      clear hK K
      refine done_ (done_of HT_.out (by kernel_rfl)) ?_
      have n0_ : Aside0 (Kd.R k89 89 (w69.setCell ⟨go54, (t315 : Int).toNat * 4 + 1, none⟩ (.int .i64 t333)) w.heap.size (fun _ => True) (.slice (some ⟨go54, 0, none⟩) t310.length co62) y335) := ⟨q_r (HQ70.out)⟩
      have n1_ : Aside0 (Kd.R (Kd.int .i64) 2 (w69.setCell ⟨go54, (t315 : Int).toNat * 4 + 1, none⟩ (.int .i64 t333)) w.heap.size (fun _ => True) (.slice Ao68 y330.length co68) y330) := ⟨by (with_reducible repeat (first | apply Kd.R_alloc | apply Kd.R_drewN | apply Kd.R_drew)); exact Kd.R_mono (Kd.R_far (p := ⟨go54, (t315 : Int).toNat * 4 + 1, none⟩) (Kd.R_types HO332.out GG54.out (by decide)) (fun _ hk => hk.2) (.int .i64 t333)) (fun _ hk => trivial)⟩
      have n2_ : Aside0 ((w69.setCell ⟨go54, (t315 : Int).toNat * 4 + 1, none⟩ (.int .i64 t333)).heap[gb306]? = some (.cells #[.int .i64 0, .slice none 0 0] 36 (0, 0))) := ⟨by (with_reducible repeat (first | refine blk_drewN ?_ _ | refine blk_drew ?_ | refine blk_alloc ?_ _)); refine blk_far ?_ (by have h_ := Kd.R_ne HO312.out BK306.out (by decide); intro e_; exact h_ (by rw [e_]; rfl)) _; (with_reducible repeat (first | refine blk_drewN ?_ _ | refine blk_drew ?_ | refine blk_alloc ?_ _)); exact BK306.out⟩
      have n3_ : Aside0 ((w69.setCell ⟨go54, (t315 : Int).toNat * 4 + 1, none⟩ (.int .i64 t333)).heap[gb314]? = some (.cells #[.int .i64 t309, .slice (some ⟨go54, 0, none⟩) t310.length co62] 36 (0, 0))) := ⟨by (with_reducible repeat (first | refine blk_drewN ?_ _ | refine blk_drew ?_ | refine blk_alloc ?_ _)); refine blk_far ?_ (by have h_ := Kd.R_ne HO312.out BK314.out (by decide); intro e_; exact h_ (by rw [e_]; rfl)) _; (with_reducible repeat (first | refine blk_drewN ?_ _ | refine blk_drew ?_ | refine blk_alloc ?_ _)); exact BK314.out⟩
      have n4_ : Aside0 (IsS130 w0 (w69.setCell ⟨go54, (t315 : Int).toNat * 4 + 1, none⟩ (.int .i64 t333)) g s0_0 t334) := ⟨by repeat (first | (with_reducible first | exact HI0.out | apply IsS130.alloc | apply IsS130.drewN | apply IsS130.drew | apply IsS130.set_1 | refine IsS130.far ?_ HN0_go54.out _ | refine IsS130.far ?_ NB0_306.out _ | refine IsS130.far ?_ NB0_314.out _) | exact HI0.out)⟩
      have n5_ : Aside0 (KeepBut w (w69.setCell ⟨go54, (t315 : Int).toNat * 4 + 1, none⟩ (.int .i64 t333)) g none) := ⟨by repeat (first | (with_reducible first | exact HK.out | apply KeepBut.set_ | apply keep_drewN | apply keep_drew | apply keep_alloc | refine keep_far ?_ GB54.out _ | refine keep_far ?_ GW306.out _ | refine keep_far ?_ GW314.out _) | exact HK.out)⟩
      have n6_ : Aside0 (Below w0.heap.size w0 (w69.setCell ⟨go54, (t315 : Int).toNat * 4 + 1, none⟩ (.int .i64 t333))) := ⟨by repeat (first | (with_reducible first | exact HB.out | apply below_alloc | apply pw_below_drewN | apply below_drew1 | refine below_set ?_ (Nat.le_trans HL.out GB54.out) | refine below_set ?_ (IsS130.ge HI0.out) | refine below_set ?_ GE306.out | refine below_set ?_ GE314.out) | exact HB.out)⟩
      (try clear HO312)
      (try clear HO332)
      (try clear BK306)
      (try clear BK314)
      (try clear HI0)
      (try clear HK)
      (try clear HB)
      generalize (w69.setCell ⟨go54, (t315 : Int).toNat * 4 + 1, none⟩ (.int .i64 t333)) = w71 at n0_ n1_ n2_ n3_ n4_ n5_ n6_ ⊢
      have HO312 := n0_
      have HO332 := n1_
      have BK306 := n2_
      have BK314 := n3_
      have HI0 := n4_
      have HK := n5_
      have HB := n6_
      clear n0_ n1_ n2_ n3_ n4_ n5_ n6_
      obtain ⟨hcz72_0, hcz72_1, hfz72_0, hfz72_1⟩ := q_2 BK314.out
      have hnb73 := NB306_0.out
      have hnc73 := NB0_306.out
      obtain ⟨hcz74_0, hcz74_1, hfz74_0, hfz74_1⟩ := q_2 BK306.out
      try go_wp2
      refine bodyPost_ret (results_cell_row rfl _ _ gb306 36 #[.int .i64 t309, .slice (some ⟨go54, 0, none⟩) t310.length co62] (0, 0) _ rfl (by (with_reducible repeat (first | refine blk_drewN ?_ _ | refine blk_drew ?_ | refine blk_alloc ?_ _)); refine blk_put (cs := #[.int .i64 t309, .slice none 0 0]) ?_ 1 _ rfl; (with_reducible repeat (first | refine blk_drewN ?_ _ | refine blk_drew ?_ | refine blk_alloc ?_ _)); refine blk_put (cs := #[.int .i64 0, .slice none 0 0]) ?_ 0 _ rfl; (with_reducible repeat (first | refine blk_drewN ?_ _ | refine blk_drew ?_ | refine blk_alloc ?_ _)); exact BK306.out) Try.underlying36 rfl (by kernel_rfl)) rfl ?_
      exact ⟨_, q_e, by (with_reducible repeat (first | apply Kd.R_alloc | apply Kd.R_drewN | apply Kd.R_drew)); exact Kd.R_mono (Kd.R_far (p := ⟨gb306, 1, none⟩) (Kd.R_far (p := ⟨gb306, 0, none⟩) (Kd.R_types HO312.out BK306.out (by decide)) (fun _ hk => hk.2) (.int .i64 t309)) (fun _ hk => hk.2) (.slice (some ⟨go54, 0, none⟩) t310.length co62)) (fun _ hk => trivial), q_I130_0_1, q_B130_0, q_K⟩
     ·rw [if_neg c53] at H
      exact absurd H (by simp)
    ·rw [if_neg c52] at H
     exact absurd H (by simp)
   ·rw [if_neg c50] at H
    have c50b0 : (t317 == 2) = false := beq_eq_false_iff_ne.mpr c50
    have c50b1 : (t317 != 2) = true := bne_iff_ne.mpr c50
    by_cases c75 : t317 = 3
    ·rw [if_pos c75] at H
     have c75b0 : (t317 == 3) = true := beq_iff_eq.mpr c75
     have c75b1 : (t317 != 3) = false := bne_eq_false_iff_eq.mpr c75
     clear c75
     obtain ⟨y336, hy336⟩ : ∃ y_ : List Int, y_ = (([(-1), 3, 2] : List Int)) := ⟨_, rfl⟩
     replace H : ((spec_l1Pick.f s0_0 t318 y336).bind fun bt339 => (if 0 ≤ t315 then (if t315 < (t310.length : Int) then (some (t309, (t310.set (t315 : Int).toNat (⟨(rd_T89 t310 t315).f0, (rd_T89 t310 t315).f1, bt339.1, (rd_T89 t310 t315).f3⟩ : S89)), bt339.2)) else (none)) else (none))) = some (r1, r2, r3) := q_h hy336 H
     have Ny336 := Aside0.mk hy336
     clear hy336
     replace H := Option.bind_eq_some_iff.mp H
     obtain ⟨⟨t339, t340⟩, A760, H⟩ := H
     replace H : (if 0 ≤ t315 then (if t315 < (t310.length : Int) then (some (t309, (t310.set (t315 : Int).toNat (⟨(rd_T89 t310 t315).f0, (rd_T89 t310 t315).f1, t339, (rd_T89 t310 t315).f3⟩ : S89)), t340)) else (none)) else (none)) = some (r1, r2, r3) := H
     have A76 := Aside0.mk A760
     clear A760
     by_cases c77 : 0 ≤ t315
     ·rw [if_pos c77] at H
      have c77b0 := decide_eq_true c77
      clear c77
      by_cases c78 : t315 < (t310.length : Int)
      ·rw [if_pos c78] at H
       have c78b0 := decide_eq_true c78
       clear c78
       obtain ⟨y341, hy341⟩ : ∃ y_ : List (S89), y_ = (t310.set (t315 : Int).toNat (⟨(rd_T89 t310 t315).f0, (rd_T89 t310 t315).f1, t339, (rd_T89 t310 t315).f3⟩ : S89)) := ⟨_, rfl⟩
       replace H : (some (t309, y341, t340)) = some (r1, r2, r3) := q_h hy341 H
       have Ny341 := Aside0.mk hy341
       clear hy341
       simp only [Option.some.injEq, Prod.mk.injEq] at H
       obtain ⟨rfl, rfl, rfl⟩ := H
       go_enter Try.func97, Try.ntmps97
       try go_wp2_with (first | ((with_reducible refine gate_dst (N := 2) rfl ?_); refine q_box (N := 2) (cs := #[.int .i64 0, .slice none 0 0]) (t := 36) ?_; intro gb306 hg w80 hbox hb; have n0_ := Aside0.mk (IsS130.below q_I130_0_1 hb); have n1_ := Aside0.mk (KeepBut.trans q_K (KeepBut.of_below hb g none) (.inl rfl)); have n2_ := Aside0.mk (below_step q_B130_0 hb); have n3_ := Aside0.mk (hbox); have n4_ := Aside0.mk ((by rw [hg]; exact (keep_size (w := w) (g := g) (row := none) q_K) : w.heap.size ≤ gb306)); have n5_ := Aside0.mk ((Nat.le_trans HW0.out (by rw [hg]; exact (keep_size (w := w) (g := g) (row := none) q_K) : w.heap.size ≤ gb306) : w0.heap.size ≤ gb306)); have n6_ := Aside0.mk ((by rw [hg]; exact Nat.ne_of_lt (IsS130.lt (show IsS130 w0 _ g s0_0 s0_1 from q_I130_0_1)) : g ≠ gb306)); have n7_ := Aside0.mk ((by rw [hg]; exact Nat.ne_of_gt (IsS130.lt (show IsS130 w0 _ g s0_0 s0_1 from q_I130_0_1)) : gb306 ≠ g)); revert n0_ n1_ n2_ n3_ n4_ n5_ n6_ n7_; clear HI0 HK HB; intro HI0 HK HB BK306 GW306 GE306 NB0_306 NB306_0; clear hb hbox hg) | ((with_reducible refine gate_callee (f := 121) rfl ?_); refine goesLq (some 7) rfl rfl Try.func121 (by kernel_rfl) rfl #[.pointer (some ⟨g, 0, none⟩), .int .i64 9] rfl ?_; (with_reducible refine (spec_l1Next.calls g s0_0 s0_1 9 t307 t308 w0 _ ?side1 ?side2 A2.out).mono ?_); (case side1 => repeat (first | (with_reducible first | exact HI0.out | apply IsS130.alloc | apply IsS130.drewN | apply IsS130.drew | apply IsS130.set_1 | refine IsS130.far ?_ NB0_306.out _) | exact HI0.out)); (case side2 => repeat (first | (with_reducible first | exact HB.out | apply below_alloc | apply pw_below_drewN | apply below_drew1 | refine below_set ?_ (IsS130.ge HI0.out) | refine below_set ?_ GE306.out) | exact HB.out)); rintro e w81 ⟨rfl, hi, hb, hk⟩; refine ⟨_, rfl, ?_⟩; have n0_ := Aside0.mk (KeepBut.blk hk (g' := gb306) (o := .cells #[.int .i64 0, .slice none 0 0] 36 (0, 0)) kq NB306_0.out (by simp)); have n1_ := Aside0.mk (KeepBut.trans q_K hk (.inl rfl)); have n2_ := Aside0.mk (hb); have n3_ := Aside0.mk (hi); revert n0_ n1_ n2_ n3_; clear BK306 HK HB HI0; intro BK306 HK HB HI0; (try clear hb); (try clear hb2); (try clear hk); (try clear hi)) | ((with_reducible refine gate_callee (f := 122) rfl ?_); refine goesLq (some 9) rfl rfl Try.func122 (by kernel_rfl) rfl #[.pointer (some ⟨g, 0, none⟩), .int .i64 (wrap64 (1 + t307))] rfl ?_; (with_reducible refine (spec_l1Draw.calls k g s0_0 t308 (wrap64 (1 + t307)) t309 t310 t313 w0 _ ?side1 ?side2 A3.out).mono ?_); (case side1 => repeat (first | (with_reducible first | exact HI0.out | apply IsS130.alloc | apply IsS130.drewN | apply IsS130.drew | apply IsS130.set_1 | refine IsS130.far ?_ NB0_306.out _) | exact HI0.out)); (case side2 => repeat (first | (with_reducible first | exact HB.out | apply below_alloc | apply pw_below_drewN | apply below_drew1 | refine below_set ?_ (IsS130.ge HI0.out) | refine below_set ?_ GE306.out) | exact HB.out)); rintro e w82 ⟨v311, rfl, ho0, hi, hb, hk⟩; refine ⟨_, rfl, ?_⟩; have n0_ := Aside0.mk (KeepBut.blk hk (g' := gb306) (o := .cells #[.int .i64 0, .slice none 0 0] 36 (0, 0)) kq NB306_0.out (by simp)); have n1_ := Aside0.mk (Kd.R_lower ho0 (keep_size (w := w) (g := g) (row := none) q_K)); have n2_ := Aside0.mk (KeepBut.trans q_K hk (.inl rfl)); have n3_ := Aside0.mk (hb); have n4_ := Aside0.mk (hi); revert n0_ n1_ n2_ n3_ n4_; clear BK306 HK HB HI0; intro BK306 HO312 HK HB HI0; (try clear hb); (try clear hb2); (try clear hk); (try clear hi); (try clear ho0)) | ((with_reducible refine gate_dst (N := 3) rfl ?_); refine q_box (N := 3) (cs := #[.int .i64 0, .slice none 0 0]) (t := 36) ?_; intro gb314 hg w83 hbox hb; have n0_ := Aside0.mk (Kd.R_below (q_r (HO312.out)) hb); have n1_ := Aside0.mk (IsS130.below q_I130_0_1 hb); have n2_ := Aside0.mk (blk_below (q_b BK306.out) hb); have n3_ := Aside0.mk (KeepBut.trans q_K (KeepBut.of_below hb g none) (.inl rfl)); have n4_ := Aside0.mk (below_step q_B130_0 hb); have n5_ := Aside0.mk (hbox); have n6_ := Aside0.mk ((by rw [hg]; exact (keep_size (w := w) (g := g) (row := none) q_K) : w.heap.size ≤ gb314)); have n7_ := Aside0.mk ((Nat.le_trans HW0.out (by rw [hg]; exact (keep_size (w := w) (g := g) (row := none) q_K) : w.heap.size ≤ gb314) : w0.heap.size ≤ gb314)); have n8_ := Aside0.mk ((q_n hg (q_b BK306.out) : gb306 ≠ gb314)); have n9_ := Aside0.mk ((q_m hg (q_b BK306.out) : gb314 ≠ gb306)); have n10_ := Aside0.mk ((by rw [hg]; exact Nat.ne_of_lt (IsS130.lt (show IsS130 w0 _ g s0_0 t313 from q_I130_0_1)) : g ≠ gb314)); have n11_ := Aside0.mk ((by rw [hg]; exact Nat.ne_of_gt (IsS130.lt (show IsS130 w0 _ g s0_0 t313 from q_I130_0_1)) : gb314 ≠ g)); revert n0_ n1_ n2_ n3_ n4_ n5_ n6_ n7_ n8_ n9_ n10_ n11_; clear HO312 HI0 BK306 HK HB; intro HO312 HI0 BK306 HK HB BK314 GW314 GE314 NB306_314 NB314_306 NB0_314 NB314_0; clear hb hbox hg; have hnb84 := NB314_306.out; have hnc84 := NB306_314.out; have hnb85 := NB314_0.out; have hnc85 := NB0_314.out; obtain ⟨hcz86_0, hcz86_1, hfz86_0, hfz86_1⟩ := q_2 BK314.out; obtain ⟨Ao87, co87, eo87⟩ := Kd.R_slice HO312.out; subst eo87) | ((with_reducible refine gate_callee (f := 121) rfl ?_); refine goesLq (some 14) rfl rfl Try.func121 (by kernel_rfl) rfl #[.pointer (some ⟨g, 0, none⟩), .int .i64 (t310.length : Int)] rfl ?_; (with_reducible refine (spec_l1Next.calls g s0_0 t313 (t310.length : Int) t315 t316 w0 _ ?side1 ?side2 A4.out).mono ?_); (case side1 => repeat (first | (with_reducible first | exact HI0.out | apply IsS130.alloc | apply IsS130.drewN | apply IsS130.drew | apply IsS130.set_1 | refine IsS130.far ?_ NB0_306.out _ | refine IsS130.far ?_ NB0_314.out _) | exact HI0.out)); (case side2 => repeat (first | (with_reducible first | exact HB.out | apply below_alloc | apply pw_below_drewN | apply below_drew1 | refine below_set ?_ (IsS130.ge HI0.out) | refine below_set ?_ GE306.out | refine below_set ?_ GE314.out) | exact HB.out)); rintro e w88 ⟨rfl, hi, hb, hk⟩; refine ⟨_, rfl, ?_⟩; have n0_ := Aside0.mk (KeepBut.blk hk (g' := gb306) (o := .cells #[.int .i64 0, .slice none 0 0] 36 (0, 0)) (by (with_reducible repeat (first | refine blk_drewN ?_ _ | refine blk_drew ?_ | refine blk_alloc ?_ _)); refine blk_far ?_ NB306_314.out _; (with_reducible repeat (first | refine blk_drewN ?_ _ | refine blk_drew ?_ | refine blk_alloc ?_ _)); refine blk_far ?_ NB306_314.out _; (with_reducible repeat (first | refine blk_drewN ?_ _ | refine blk_drew ?_ | refine blk_alloc ?_ _)); exact BK306.out) NB306_0.out (by simp)); have n1_ := Aside0.mk (Kd.R_mono (Kd.R_keep (IsS130.apart (show IsS130 w0 _ g s0_0 t313 from q_I130_0_1) (by (with_reducible repeat (first | apply Kd.R_alloc | apply Kd.R_drewN | apply Kd.R_drew)); exact (Kd.R_mono (Kd.R_far (p := ⟨gb314, 1, none⟩) (Kd.R_far (p := ⟨gb314, 0, none⟩) (Kd.R_types HO312.out BK314.out (by decide)) (fun _ hk => hk.2) (.int .i64 t309)) (fun _ hk => hk.2) (.slice Ao87 t310.length co87)) (fun _ h_ => h_.1))) (by decide)) hk (fun _ h => h.2)) (fun _ h => h.1)); have n2_ := Aside0.mk (KeepBut.blk hk (g' := gb314) (o := .cells #[.int .i64 t309, .slice Ao87 t310.length co87] 36 (0, 0)) (by (with_reducible repeat (first | refine blk_drewN ?_ _ | refine blk_drew ?_ | refine blk_alloc ?_ _)); refine blk_put (cs := #[.int .i64 t309, .slice none 0 0]) ?_ 1 _ rfl; (with_reducible repeat (first | refine blk_drewN ?_ _ | refine blk_drew ?_ | refine blk_alloc ?_ _)); refine blk_put (cs := #[.int .i64 0, .slice none 0 0]) ?_ 0 _ rfl; (with_reducible repeat (first | refine blk_drewN ?_ _ | refine blk_drew ?_ | refine blk_alloc ?_ _)); exact BK314.out) NB314_0.out (by simp)); have n3_ := Aside0.mk (KeepBut.trans q_K hk (.inl rfl)); have n4_ := Aside0.mk (hb); have n5_ := Aside0.mk (hi); revert n0_ n1_ n2_ n3_ n4_ n5_; clear BK306 HO312 BK314 HK HB HI0; intro BK306 HO312 BK314 HK HB HI0; (try clear hb); (try clear hb2); (try clear hk); (try clear hi)) | ((with_reducible refine gate_callee (f := 121) rfl ?_); refine goesLq (some 16) rfl rfl Try.func121 (by kernel_rfl) rfl #[.pointer (some ⟨g, 0, none⟩), .int .i64 24] rfl ?_; (with_reducible refine (spec_l1Next.calls g s0_0 t316 24 t317 t318 w0 _ ?side1 ?side2 A5.out).mono ?_); (case side1 => repeat (first | (with_reducible first | exact HI0.out | apply IsS130.alloc | apply IsS130.drewN | apply IsS130.drew | apply IsS130.set_1 | refine IsS130.far ?_ NB0_306.out _ | refine IsS130.far ?_ NB0_314.out _) | exact HI0.out)); (case side2 => repeat (first | (with_reducible first | exact HB.out | apply below_alloc | apply pw_below_drewN | apply below_drew1 | refine below_set ?_ (IsS130.ge HI0.out) | refine below_set ?_ GE306.out | refine below_set ?_ GE314.out) | exact HB.out)); rintro e w89 ⟨rfl, hi, hb, hk⟩; refine ⟨_, rfl, ?_⟩; have n0_ := Aside0.mk (KeepBut.blk hk (g' := gb306) (o := .cells #[.int .i64 0, .slice none 0 0] 36 (0, 0)) kq NB306_0.out (by simp)); have n1_ := Aside0.mk (Kd.R_mono (Kd.R_keep (IsS130.apart (show IsS130 w0 _ g s0_0 t316 from q_I130_0_1) (q_r (HO312.out)) (by decide)) hk (fun _ h => h.2)) (fun _ h => h.1)); have n2_ := Aside0.mk (KeepBut.blk hk (g' := gb314) (o := .cells #[.int .i64 t309, .slice Ao87 t310.length co87] 36 (0, 0)) kq NB314_0.out (by simp)); have n3_ := Aside0.mk (KeepBut.trans q_K hk (.inl rfl)); have n4_ := Aside0.mk (hb); have n5_ := Aside0.mk (hi); revert n0_ n1_ n2_ n3_ n4_ n5_; clear BK306 HO312 BK314 HK HB HI0; intro BK306 HO312 BK314 HK HB HI0; (try clear hb); (try clear hb2); (try clear hk); (try clear hi)))
       have n0_ := Aside0.mk (Kd.R_drew HO312.out)
       have n1_ := Aside0.mk (blk_drew BK306.out)
       have n2_ := Aside0.mk (blk_drew BK314.out)
       have n3_ := Aside0.mk (IsS130.drew HI0.out)
       have n4_ := Aside0.mk (keep_drew HK.out)
       have n5_ := Aside0.mk (below_drew1 HB.out)
       clear HO312
       clear BK306
       clear BK314
       clear HI0
       clear HK
       clear HB
       have HO312 := n0_
       have BK306 := n1_
       have BK314 := n2_
       have HI0 := n3_
       have HK := n4_
       have HB := n5_
       clear n0_ n1_ n2_ n3_ n4_ n5_
       refine start_ (n := 9) (S := fun w' => w'.cell? ⟨gb314, 0, none⟩ = some (.int .i64 t309) ∧ w'.cell? ⟨gb314, 1, none⟩ = some (.slice Ao87 t310.length co87)) (ds := [8]) #[false, false, false, false, false, false, false, false, false] (by kernel_rfl) rfl rfl ⟨q_z BK314.out 0, q_z BK314.out 1⟩ (fun hHeld => ?_); refine with_tabW spec_l1Bent.tab11 spec_l1Bent.bits11 (fun HT_ HW_ => ?_)
       generalize w89.drew = w90 at HO312 BK306 BK314 HI0 HK HB hHeld ⊢
       refine q_p 0 (some 45) #[true, false, false, false, false, false, false, false, false] HT_.out ?_
       refine q_p 2 (some 47) #[true, false, true, false, false, false, false, false, false] HT_.out ?_
       refine q_p 3 (some 48) #[true, false, true, true, false, false, false, false, false] HT_.out ?_
       refine q_t 1 (some 46) #[true, true, true, true, false, false, false, false, false] HT_.out HW_.out hHeld ?_
       refine one_ (i := 4) (N := some 49) #[true, true, true, true, true, false, false, false, false] rfl rfl (one_of HT_.out (by kernel_rfl)) (by decide) (fun K hK => ?_)
       refine Kd.R_lit_step (Kd.int .i64) _ 2 ?hg (N := 49) ?hd (xs := ([(-1), 3, 2] : List Int)) (inner := [.int .i64 (-1), .int .i64 3, .int .i64 2]) (ok := fun _ => True) (okp := fun _ => True) ?hr ?hp (fun _ hk => hk) trivial (Below.refl _ _) (Nat.le_refl _) (by simp) ?_; (case hd => rfl); (case hg => rfl); (case hr => first | (go_simp; done) | (go_simp; rfl)); (case hp => exact (Reps.one (show Kd.M (Kd.int .i64) _ _ _ (-1) [.int .i64 (-1)] from rfl) (Reps.one (show Kd.M (Kd.int .i64) _ _ _ 3 [.int .i64 3] from rfl) (Reps.one (show Kd.M (Kd.int .i64) _ _ _ 2 [.int .i64 2] from rfl) (Reps.none _ _)))))
       intro v337 w91 ho92 hb hg_ hnew_
       clear hg_ hnew_
       (first | rw [← Ny336.out] at ho92 | (simp only [Int.reduceToNat] at ho92; rw [← Ny336.out] at ho92))
       have n0_ := Aside0.mk (Kd.R_below (q_r (HO312.out)) hb)
       have n1_ := Aside0.mk (Kd.R_lower ho92 (keep_size (w := w) (g := g) (row := none) q_K))
       have n2_ := Aside0.mk (IsS130.below q_I130_0_1 hb)
       have n3_ := Aside0.mk (blk_below (q_b BK306.out) hb)
       have n4_ := Aside0.mk (blk_below (q_b BK314.out) hb)
       have n5_ := Aside0.mk (KeepBut.trans q_K (KeepBut.of_below hb g none) (.inl rfl))
       have n6_ := Aside0.mk (below_step q_B130_0 hb)
       clear HO312
       clear HI0
       clear BK306
       clear BK314
       clear HK
       clear HB
       have HO312 := n0_
       have HO338 := n1_
       have HI0 := n2_
       have BK306 := n3_
       have BK314 := n4_
       have HK := n5_
       have HB := n6_
       clear n0_ n1_ n2_ n3_ n4_ n5_ n6_
       clear hb ho92
       obtain ⟨Ao93, co93, eo93⟩ := Kd.R_slice HO338.out
       (first | subst eo93 | (injection eo93 with f1_ f2_ f3_; have f4_ := f1_.symm; have f5_ := f3_.symm; clear f1_ f2_ f3_; subst f4_; subst f5_))
       refine hK.out _ _ ⟨q_z BK314.out 0, q_z BK314.out 1⟩ (fun hHeld => ?_)
       clear hK K
       refine norm_ (a' := ?_) ?_ ?_
       rotate_left
       ·show Act.put _ (some 49) _ = _
        simp only [Act.put, List.setIfInBounds_toArray, List.set_cons_zero, List.set_cons_succ, i64_w, i32_w]
        rfl
       refine one_ (i := 5) (N := some 50) #[true, true, true, true, true, true, false, false, false] rfl rfl (one_of HT_.out (by kernel_rfl)) (by decide) (fun K hK => ?_)
       refine goes_ Try.func100 (by kernel_rfl) rfl #[.pointer (some ⟨g, 0, none⟩), .slice Ao93 y336.length co93] (by rfl) rfl rfl (by (try simp only [List.map_toArray, List.map_cons, List.map_nil]); first | done | rfl | (simp only [List.length_drop, List.length_take]; rfl)) ?_
       with_reducible refine (spec_l1Pick.calls g s0_0 t318 _ _ y336 t339 t340 w0 _ ?side1 ?side2 ?side3 ?side4 ?side5 A76.out).mono ?_
       (case side1 => repeat (first | (with_reducible first | exact HI0.out | apply IsS130.alloc | apply IsS130.drewN | apply IsS130.drew | apply IsS130.set_1 | refine IsS130.far ?_ NB0_306.out _ | refine IsS130.far ?_ NB0_314.out _) | exact HI0.out))
       (case side2 => repeat (first | (with_reducible first | exact HB.out | apply below_alloc | apply pw_below_drewN | apply below_drew1 | refine below_set ?_ (IsS130.ge HI0.out) | refine below_set ?_ GE306.out | refine below_set ?_ GE314.out) | exact HB.out))
       (case side3 => exact q_c ((Kd.R_reads' HO338.out).2.2))
       (case side4 => exact (Kd.R_reads' HO338.out).2.1)
       (case side5 => exact far_slice (IsS130.own_ne HI0.out HO338.out (by decide)))
       rintro e w94 ⟨rfl, hi, hb, hk⟩
       refine ⟨_, rfl, ?_⟩
       have n0_ := Aside0.mk (KeepBut.blk hk (g' := gb306) (o := .cells #[.int .i64 0, .slice none 0 0] 36 (0, 0)) kq NB306_0.out (by simp))
       have n1_ := Aside0.mk (Kd.R_mono (Kd.R_keep (IsS130.apart (show IsS130 w0 _ g s0_0 t318 from q_I130_0_1) (q_r (HO312.out)) (by decide)) hk (fun _ h => h.2)) (fun _ h => h.1))
       have n2_ := Aside0.mk (KeepBut.blk hk (g' := gb314) (o := .cells #[.int .i64 t309, .slice Ao87 t310.length co87] 36 (0, 0)) kq NB314_0.out (by simp))
       have n3_ := Aside0.mk (Kd.R_mono (Kd.R_keep (IsS130.apart (show IsS130 w0 _ g s0_0 t318 from q_I130_0_1) (q_r (HO338.out)) (by decide)) hk (fun _ h => h.2)) (fun _ h => h.1))
       have n4_ := Aside0.mk (KeepBut.trans q_K hk (.inl rfl))
       have n5_ := Aside0.mk (hb)
       have n6_ := Aside0.mk (hi)
       clear BK306
       clear HO312
       clear BK314
       clear HO338
       clear HK
       clear HB
       clear HI0
       have BK306 := n0_
       have HO312 := n1_
       have BK314 := n2_
       have HO338 := n3_
       have HK := n4_
       have HB := n5_
       have HI0 := n6_
       clear n0_ n1_ n2_ n3_ n4_ n5_ n6_
       (try clear hb)
       (try clear hb2)
       (try clear hk)
       (try clear hi)
       have p79 : 0 ≤ (t315 : Int) := q_d
       have q79 : (t315 : Int) < ((t310.length : Int) : Int) := q_d
       obtain ⟨go79, co79, eo79, gb79, gl79, cl79, HG79⟩ := Kd.R_form HO312.out (by omega)
       (first | cases eo79 | (injection eo79 with ea_ en_ ec_; (first | subst ea_ | (injection ea_ with ea_; subst ea_)); subst ec_; clear en_))
       have GB79 := Aside0.mk gb79
       have GG79 := Aside0.mk HG79
       clear gb79 gl79 HG79
       obtain ⟨ce79, hcl79, hM79, hcc79, hfr79⟩ := Kd.R_elem HO312.out z89 (t315 : Int) p79 q79
       obtain rfl := k89_openM hM79
       have hx79_0 : World.cell? _ ⟨go79, (t315 : Int).toNat * 4, none⟩ = some (.int .i64 ((rd_T89 t310 t315).f0)) := hcc79 0 _ rfl
       have hx79_1 : World.cell? _ ⟨go79, (t315 : Int).toNat * 4 + 1, none⟩ = some (.int .i64 ((rd_T89 t310 t315).f1)) := hcc79 1 _ rfl
       have hx79_2 : World.cell? _ ⟨go79, (t315 : Int).toNat * 4 + 2, none⟩ = some (.int .i64 ((rd_T89 t310 t315).f2)) := hcc79 2 _ rfl
       have hx79_3 : World.cell? _ ⟨go79, (t315 : Int).toNat * 4 + 3, none⟩ = some (.int .i64 ((rd_T89 t310 t315).f3)) := hcc79 3 _ rfl
       have hf79_0 : World.frozen? _ ⟨go79, (t315 : Int).toNat * 4, none⟩ = false := hfr79 0
       have hf79_1 : World.frozen? _ ⟨go79, (t315 : Int).toNat * 4 + 1, none⟩ = false := hfr79 1
       have hf79_2 : World.frozen? _ ⟨go79, (t315 : Int).toNat * 4 + 2, none⟩ = false := hfr79 2
       have hf79_3 : World.frozen? _ ⟨go79, (t315 : Int).toNat * 4 + 3, none⟩ = false := hfr79 3
       clear hcl79 hcc79 hfr79; (try clear hM79)
       replace p79 := eq_true p79
       replace q79 := eq_true q79
       have HN0_go79 := Aside0.mk (show g ≠ go79 from by have h_ := IsS130.own_ne HI0.out HO312.out (by decide); intro e_; exact h_ (by rw [e_]; rfl))
       obtain ⟨ce95, hcl95, hM95, hcc95, hfr95⟩ := Kd.R_elem HO312.out z89 (t315 : Int) q_d (by have h_ : (t315 : Int) < ((t310.length : Int) : Int) := q_d; first | exact h_ | (have e_ := (Kd.R_reads' HO312.out).1; omega) | simpa using h_)
       obtain rfl := k89_openM hM95
       have HP95 := (Kd.R_seg HO312.out (t315 : Int) q_d (by have h_ : (t315 : Int) < ((t310.length : Int) : Int) := q_d; first | exact h_ | (have e_ := (Kd.R_reads' HO312.out).1; omega) | simpa using h_) (seg := [.int .i64 t339]) (j := 2) hcl95 hcc95 (show 3 ≤ 4 from by decide) (x' := (⟨(rd_T89 t310 t315).f0, (rd_T89 t310 t315).f1, t339, (rd_T89 t310 t315).f3⟩ : S89)) (k89_mkM _ _ _ (⟨(rd_T89 t310 t315).f0, (rd_T89 t310 t315).f1, t339, (rd_T89 t310 t315).f3⟩ : S89) ) (fun _ hk => hk)).1
       rw [← Ny341.out] at HP95
       have HQ95 := Aside0.mk HP95
       clear hcl95 hcc95 hfr95 HP95; (try clear hM95)
       refine hK.out _ _ ⟨q_z BK314.out 0, q_z BK314.out 1⟩ (fun hHeld => ?_)
       clear hK K
       refine norm_ (a' := ?_) ?_ ?_
       rotate_left
       ·show Act.put _ (some 50) _ = _
        simp only [Act.put, List.setIfInBounds_toArray, List.set_cons_zero, List.set_cons_succ, i64_w, i32_w]
        rfl
       refine q_p 6 (some 51) #[true, true, true, true, true, true, true, false, false] HT_.out ?_
       refine q_p 7 (some 52) #[true, true, true, true, true, true, true, true, false] HT_.out ?_
       refine last_ (i := 8) (N := none) #[true, true, true, true, true, true, true, true, true] rfl rfl (one_of HT_.out (by kernel_rfl)) (by decide) (fun K hK => ?_)
       refine skip_ (w1 := ?_) (by rfl) rfl ?_ ?_
       rotate_left
       ·go_simp
        rfl
       refine hK.out _ _ ?_
       clear hK K
       refine done_ (done_of HT_.out (by kernel_rfl)) ?_
       have n0_ : Aside0 (Kd.R k89 89 (w94.setCell ⟨go79, (t315 : Int).toNat * 4 + 2, none⟩ (.int .i64 t339)) w.heap.size (fun _ => True) (.slice (some ⟨go79, 0, none⟩) t310.length co87) y341) := ⟨q_r (HQ95.out)⟩
       have n1_ : Aside0 (Kd.R (Kd.int .i64) 2 (w94.setCell ⟨go79, (t315 : Int).toNat * 4 + 2, none⟩ (.int .i64 t339)) w.heap.size (fun _ => True) (.slice Ao93 y336.length co93) y336) := ⟨by (with_reducible repeat (first | apply Kd.R_alloc | apply Kd.R_drewN | apply Kd.R_drew)); exact Kd.R_mono (Kd.R_far (p := ⟨go79, (t315 : Int).toNat * 4 + 2, none⟩) (Kd.R_types HO338.out GG79.out (by decide)) (fun _ hk => hk.2) (.int .i64 t339)) (fun _ hk => trivial)⟩
       have n2_ : Aside0 ((w94.setCell ⟨go79, (t315 : Int).toNat * 4 + 2, none⟩ (.int .i64 t339)).heap[gb306]? = some (.cells #[.int .i64 0, .slice none 0 0] 36 (0, 0))) := ⟨by (with_reducible repeat (first | refine blk_drewN ?_ _ | refine blk_drew ?_ | refine blk_alloc ?_ _)); refine blk_far ?_ (by have h_ := Kd.R_ne HO312.out BK306.out (by decide); intro e_; exact h_ (by rw [e_]; rfl)) _; (with_reducible repeat (first | refine blk_drewN ?_ _ | refine blk_drew ?_ | refine blk_alloc ?_ _)); exact BK306.out⟩
       have n3_ : Aside0 ((w94.setCell ⟨go79, (t315 : Int).toNat * 4 + 2, none⟩ (.int .i64 t339)).heap[gb314]? = some (.cells #[.int .i64 t309, .slice (some ⟨go79, 0, none⟩) t310.length co87] 36 (0, 0))) := ⟨by (with_reducible repeat (first | refine blk_drewN ?_ _ | refine blk_drew ?_ | refine blk_alloc ?_ _)); refine blk_far ?_ (by have h_ := Kd.R_ne HO312.out BK314.out (by decide); intro e_; exact h_ (by rw [e_]; rfl)) _; (with_reducible repeat (first | refine blk_drewN ?_ _ | refine blk_drew ?_ | refine blk_alloc ?_ _)); exact BK314.out⟩
       have n4_ : Aside0 (IsS130 w0 (w94.setCell ⟨go79, (t315 : Int).toNat * 4 + 2, none⟩ (.int .i64 t339)) g s0_0 t340) := ⟨by repeat (first | (with_reducible first | exact HI0.out | apply IsS130.alloc | apply IsS130.drewN | apply IsS130.drew | apply IsS130.set_1 | refine IsS130.far ?_ HN0_go79.out _ | refine IsS130.far ?_ NB0_306.out _ | refine IsS130.far ?_ NB0_314.out _) | exact HI0.out)⟩
       have n5_ : Aside0 (KeepBut w (w94.setCell ⟨go79, (t315 : Int).toNat * 4 + 2, none⟩ (.int .i64 t339)) g none) := ⟨by repeat (first | (with_reducible first | exact HK.out | apply KeepBut.set_ | apply keep_drewN | apply keep_drew | apply keep_alloc | refine keep_far ?_ GB79.out _ | refine keep_far ?_ GW306.out _ | refine keep_far ?_ GW314.out _) | exact HK.out)⟩
       have n6_ : Aside0 (Below w0.heap.size w0 (w94.setCell ⟨go79, (t315 : Int).toNat * 4 + 2, none⟩ (.int .i64 t339))) := ⟨by repeat (first | (with_reducible first | exact HB.out | apply below_alloc | apply pw_below_drewN | apply below_drew1 | refine below_set ?_ (Nat.le_trans HL.out GB79.out) | refine below_set ?_ (IsS130.ge HI0.out) | refine below_set ?_ GE306.out | refine below_set ?_ GE314.out) | exact HB.out)⟩
       (try clear HO312)
       (try clear HO338)
       (try clear BK306)
       (try clear BK314)
       (try clear HI0)
       (try clear HK)
       (try clear HB)
       generalize (w94.setCell ⟨go79, (t315 : Int).toNat * 4 + 2, none⟩ (.int .i64 t339)) = w96 at n0_ n1_ n2_ n3_ n4_ n5_ n6_ ⊢
       have HO312 := n0_
       have HO338 := n1_
       have BK306 := n2_
       have BK314 := n3_
       have HI0 := n4_
       have HK := n5_
       have HB := n6_
       clear n0_ n1_ n2_ n3_ n4_ n5_ n6_
       obtain ⟨hcz97_0, hcz97_1, hfz97_0, hfz97_1⟩ := q_2 BK314.out
       have hnb98 := NB306_0.out
       have hnc98 := NB0_306.out
       obtain ⟨hcz99_0, hcz99_1, hfz99_0, hfz99_1⟩ := q_2 BK306.out
       try go_wp2
       refine bodyPost_ret (results_cell_row rfl _ _ gb306 36 #[.int .i64 t309, .slice (some ⟨go79, 0, none⟩) t310.length co87] (0, 0) _ rfl (by (with_reducible repeat (first | refine blk_drewN ?_ _ | refine blk_drew ?_ | refine blk_alloc ?_ _)); refine blk_put (cs := #[.int .i64 t309, .slice none 0 0]) ?_ 1 _ rfl; (with_reducible repeat (first | refine blk_drewN ?_ _ | refine blk_drew ?_ | refine blk_alloc ?_ _)); refine blk_put (cs := #[.int .i64 0, .slice none 0 0]) ?_ 0 _ rfl; (with_reducible repeat (first | refine blk_drewN ?_ _ | refine blk_drew ?_ | refine blk_alloc ?_ _)); exact BK306.out) Try.underlying36 rfl (by kernel_rfl)) rfl ?_
       exact ⟨_, q_e, by (with_reducible repeat (first | apply Kd.R_alloc | apply Kd.R_drewN | apply Kd.R_drew)); exact Kd.R_mono (Kd.R_far (p := ⟨gb306, 1, none⟩) (Kd.R_far (p := ⟨gb306, 0, none⟩) (Kd.R_types HO312.out BK306.out (by decide)) (fun _ hk => hk.2) (.int .i64 t309)) (fun _ hk => hk.2) (.slice (some ⟨go79, 0, none⟩) t310.length co87)) (fun _ hk => trivial), q_I130_0_1, q_B130_0, q_K⟩
      ·rw [if_neg c78] at H
       exact absurd H (by simp)
     ·rw [if_neg c77] at H
      exact absurd H (by simp)
    ·rw [if_neg c75] at H
     have c75b0 : (t317 == 3) = false := beq_eq_false_iff_ne.mpr c75
     have c75b1 : (t317 != 3) = true := bne_iff_ne.mpr c75
     by_cases c100 : t317 = 4
     ·rw [if_pos c100] at H
      have c100b0 : (t317 == 4) = true := beq_iff_eq.mpr c100
      have c100b1 : (t317 != 4) = false := bne_eq_false_iff_eq.mpr c100
      clear c100
      obtain ⟨y342, hy342⟩ : ∃ y_ : List Int, y_ = (([0, 1000000000000, 1000000000001, (-9223372036854775808), 3] : List Int)) := ⟨_, rfl⟩
      replace H : ((spec_l1Pick.f s0_0 t318 y342).bind fun bt345 => (if 0 ≤ t315 then (if t315 < (t310.length : Int) then (some (t309, (t310.set (t315 : Int).toNat (⟨(rd_T89 t310 t315).f0, (rd_T89 t310 t315).f1, (rd_T89 t310 t315).f2, bt345.1⟩ : S89)), bt345.2)) else (none)) else (none))) = some (r1, r2, r3) := q_h hy342 H
      have Ny342 := Aside0.mk hy342
      clear hy342
      replace H := Option.bind_eq_some_iff.mp H
      obtain ⟨⟨t345, t346⟩, A1010, H⟩ := H
      replace H : (if 0 ≤ t315 then (if t315 < (t310.length : Int) then (some (t309, (t310.set (t315 : Int).toNat (⟨(rd_T89 t310 t315).f0, (rd_T89 t310 t315).f1, (rd_T89 t310 t315).f2, t345⟩ : S89)), t346)) else (none)) else (none)) = some (r1, r2, r3) := H
      have A101 := Aside0.mk A1010
      clear A1010
      by_cases c102 : 0 ≤ t315
      ·rw [if_pos c102] at H
       have c102b0 := decide_eq_true c102
       clear c102
       by_cases c103 : t315 < (t310.length : Int)
       ·rw [if_pos c103] at H
        have c103b0 := decide_eq_true c103
        clear c103
        obtain ⟨y347, hy347⟩ : ∃ y_ : List (S89), y_ = (t310.set (t315 : Int).toNat (⟨(rd_T89 t310 t315).f0, (rd_T89 t310 t315).f1, (rd_T89 t310 t315).f2, t345⟩ : S89)) := ⟨_, rfl⟩
        replace H : (some (t309, y347, t346)) = some (r1, r2, r3) := q_h hy347 H
        have Ny347 := Aside0.mk hy347
        clear hy347
        simp only [Option.some.injEq, Prod.mk.injEq] at H
        obtain ⟨rfl, rfl, rfl⟩ := H
        go_enter Try.func97, Try.ntmps97
        try go_wp2_with (first | ((with_reducible refine gate_dst (N := 2) rfl ?_); refine q_box (N := 2) (cs := #[.int .i64 0, .slice none 0 0]) (t := 36) ?_; intro gb306 hg w105 hbox hb; have n0_ := Aside0.mk (IsS130.below q_I130_0_1 hb); have n1_ := Aside0.mk (KeepBut.trans q_K (KeepBut.of_below hb g none) (.inl rfl)); have n2_ := Aside0.mk (below_step q_B130_0 hb); have n3_ := Aside0.mk (hbox); have n4_ := Aside0.mk ((by rw [hg]; exact (keep_size (w := w) (g := g) (row := none) q_K) : w.heap.size ≤ gb306)); have n5_ := Aside0.mk ((Nat.le_trans HW0.out (by rw [hg]; exact (keep_size (w := w) (g := g) (row := none) q_K) : w.heap.size ≤ gb306) : w0.heap.size ≤ gb306)); have n6_ := Aside0.mk ((by rw [hg]; exact Nat.ne_of_lt (IsS130.lt (show IsS130 w0 _ g s0_0 s0_1 from q_I130_0_1)) : g ≠ gb306)); have n7_ := Aside0.mk ((by rw [hg]; exact Nat.ne_of_gt (IsS130.lt (show IsS130 w0 _ g s0_0 s0_1 from q_I130_0_1)) : gb306 ≠ g)); revert n0_ n1_ n2_ n3_ n4_ n5_ n6_ n7_; clear HI0 HK HB; intro HI0 HK HB BK306 GW306 GE306 NB0_306 NB306_0; clear hb hbox hg) | ((with_reducible refine gate_callee (f := 121) rfl ?_); refine goesLq (some 7) rfl rfl Try.func121 (by kernel_rfl) rfl #[.pointer (some ⟨g, 0, none⟩), .int .i64 9] rfl ?_; (with_reducible refine (spec_l1Next.calls g s0_0 s0_1 9 t307 t308 w0 _ ?side1 ?side2 A2.out).mono ?_); (case side1 => repeat (first | (with_reducible first | exact HI0.out | apply IsS130.alloc | apply IsS130.drewN | apply IsS130.drew | apply IsS130.set_1 | refine IsS130.far ?_ NB0_306.out _) | exact HI0.out)); (case side2 => repeat (first | (with_reducible first | exact HB.out | apply below_alloc | apply pw_below_drewN | apply below_drew1 | refine below_set ?_ (IsS130.ge HI0.out) | refine below_set ?_ GE306.out) | exact HB.out)); rintro e w106 ⟨rfl, hi, hb, hk⟩; refine ⟨_, rfl, ?_⟩; have n0_ := Aside0.mk (KeepBut.blk hk (g' := gb306) (o := .cells #[.int .i64 0, .slice none 0 0] 36 (0, 0)) kq NB306_0.out (by simp)); have n1_ := Aside0.mk (KeepBut.trans q_K hk (.inl rfl)); have n2_ := Aside0.mk (hb); have n3_ := Aside0.mk (hi); revert n0_ n1_ n2_ n3_; clear BK306 HK HB HI0; intro BK306 HK HB HI0; (try clear hb); (try clear hb2); (try clear hk); (try clear hi)) | ((with_reducible refine gate_callee (f := 122) rfl ?_); refine goesLq (some 9) rfl rfl Try.func122 (by kernel_rfl) rfl #[.pointer (some ⟨g, 0, none⟩), .int .i64 (wrap64 (1 + t307))] rfl ?_; (with_reducible refine (spec_l1Draw.calls k g s0_0 t308 (wrap64 (1 + t307)) t309 t310 t313 w0 _ ?side1 ?side2 A3.out).mono ?_); (case side1 => repeat (first | (with_reducible first | exact HI0.out | apply IsS130.alloc | apply IsS130.drewN | apply IsS130.drew | apply IsS130.set_1 | refine IsS130.far ?_ NB0_306.out _) | exact HI0.out)); (case side2 => repeat (first | (with_reducible first | exact HB.out | apply below_alloc | apply pw_below_drewN | apply below_drew1 | refine below_set ?_ (IsS130.ge HI0.out) | refine below_set ?_ GE306.out) | exact HB.out)); rintro e w107 ⟨v311, rfl, ho0, hi, hb, hk⟩; refine ⟨_, rfl, ?_⟩; have n0_ := Aside0.mk (KeepBut.blk hk (g' := gb306) (o := .cells #[.int .i64 0, .slice none 0 0] 36 (0, 0)) kq NB306_0.out (by simp)); have n1_ := Aside0.mk (Kd.R_lower ho0 (keep_size (w := w) (g := g) (row := none) q_K)); have n2_ := Aside0.mk (KeepBut.trans q_K hk (.inl rfl)); have n3_ := Aside0.mk (hb); have n4_ := Aside0.mk (hi); revert n0_ n1_ n2_ n3_ n4_; clear BK306 HK HB HI0; intro BK306 HO312 HK HB HI0; (try clear hb); (try clear hb2); (try clear hk); (try clear hi); (try clear ho0)) | ((with_reducible refine gate_dst (N := 3) rfl ?_); refine q_box (N := 3) (cs := #[.int .i64 0, .slice none 0 0]) (t := 36) ?_; intro gb314 hg w108 hbox hb; have n0_ := Aside0.mk (Kd.R_below (q_r (HO312.out)) hb); have n1_ := Aside0.mk (IsS130.below q_I130_0_1 hb); have n2_ := Aside0.mk (blk_below (q_b BK306.out) hb); have n3_ := Aside0.mk (KeepBut.trans q_K (KeepBut.of_below hb g none) (.inl rfl)); have n4_ := Aside0.mk (below_step q_B130_0 hb); have n5_ := Aside0.mk (hbox); have n6_ := Aside0.mk ((by rw [hg]; exact (keep_size (w := w) (g := g) (row := none) q_K) : w.heap.size ≤ gb314)); have n7_ := Aside0.mk ((Nat.le_trans HW0.out (by rw [hg]; exact (keep_size (w := w) (g := g) (row := none) q_K) : w.heap.size ≤ gb314) : w0.heap.size ≤ gb314)); have n8_ := Aside0.mk ((q_n hg (q_b BK306.out) : gb306 ≠ gb314)); have n9_ := Aside0.mk ((q_m hg (q_b BK306.out) : gb314 ≠ gb306)); have n10_ := Aside0.mk ((by rw [hg]; exact Nat.ne_of_lt (IsS130.lt (show IsS130 w0 _ g s0_0 t313 from q_I130_0_1)) : g ≠ gb314)); have n11_ := Aside0.mk ((by rw [hg]; exact Nat.ne_of_gt (IsS130.lt (show IsS130 w0 _ g s0_0 t313 from q_I130_0_1)) : gb314 ≠ g)); revert n0_ n1_ n2_ n3_ n4_ n5_ n6_ n7_ n8_ n9_ n10_ n11_; clear HO312 HI0 BK306 HK HB; intro HO312 HI0 BK306 HK HB BK314 GW314 GE314 NB306_314 NB314_306 NB0_314 NB314_0; clear hb hbox hg; have hnb109 := NB314_306.out; have hnc109 := NB306_314.out; have hnb110 := NB314_0.out; have hnc110 := NB0_314.out; obtain ⟨hcz111_0, hcz111_1, hfz111_0, hfz111_1⟩ := q_2 BK314.out; obtain ⟨Ao112, co112, eo112⟩ := Kd.R_slice HO312.out; subst eo112) | ((with_reducible refine gate_callee (f := 121) rfl ?_); refine goesLq (some 14) rfl rfl Try.func121 (by kernel_rfl) rfl #[.pointer (some ⟨g, 0, none⟩), .int .i64 (t310.length : Int)] rfl ?_; (with_reducible refine (spec_l1Next.calls g s0_0 t313 (t310.length : Int) t315 t316 w0 _ ?side1 ?side2 A4.out).mono ?_); (case side1 => repeat (first | (with_reducible first | exact HI0.out | apply IsS130.alloc | apply IsS130.drewN | apply IsS130.drew | apply IsS130.set_1 | refine IsS130.far ?_ NB0_306.out _ | refine IsS130.far ?_ NB0_314.out _) | exact HI0.out)); (case side2 => repeat (first | (with_reducible first | exact HB.out | apply below_alloc | apply pw_below_drewN | apply below_drew1 | refine below_set ?_ (IsS130.ge HI0.out) | refine below_set ?_ GE306.out | refine below_set ?_ GE314.out) | exact HB.out)); rintro e w113 ⟨rfl, hi, hb, hk⟩; refine ⟨_, rfl, ?_⟩; have n0_ := Aside0.mk (KeepBut.blk hk (g' := gb306) (o := .cells #[.int .i64 0, .slice none 0 0] 36 (0, 0)) (by (with_reducible repeat (first | refine blk_drewN ?_ _ | refine blk_drew ?_ | refine blk_alloc ?_ _)); refine blk_far ?_ NB306_314.out _; (with_reducible repeat (first | refine blk_drewN ?_ _ | refine blk_drew ?_ | refine blk_alloc ?_ _)); refine blk_far ?_ NB306_314.out _; (with_reducible repeat (first | refine blk_drewN ?_ _ | refine blk_drew ?_ | refine blk_alloc ?_ _)); exact BK306.out) NB306_0.out (by simp)); have n1_ := Aside0.mk (Kd.R_mono (Kd.R_keep (IsS130.apart (show IsS130 w0 _ g s0_0 t313 from q_I130_0_1) (by (with_reducible repeat (first | apply Kd.R_alloc | apply Kd.R_drewN | apply Kd.R_drew)); exact (Kd.R_mono (Kd.R_far (p := ⟨gb314, 1, none⟩) (Kd.R_far (p := ⟨gb314, 0, none⟩) (Kd.R_types HO312.out BK314.out (by decide)) (fun _ hk => hk.2) (.int .i64 t309)) (fun _ hk => hk.2) (.slice Ao112 t310.length co112)) (fun _ h_ => h_.1))) (by decide)) hk (fun _ h => h.2)) (fun _ h => h.1)); have n2_ := Aside0.mk (KeepBut.blk hk (g' := gb314) (o := .cells #[.int .i64 t309, .slice Ao112 t310.length co112] 36 (0, 0)) (by (with_reducible repeat (first | refine blk_drewN ?_ _ | refine blk_drew ?_ | refine blk_alloc ?_ _)); refine blk_put (cs := #[.int .i64 t309, .slice none 0 0]) ?_ 1 _ rfl; (with_reducible repeat (first | refine blk_drewN ?_ _ | refine blk_drew ?_ | refine blk_alloc ?_ _)); refine blk_put (cs := #[.int .i64 0, .slice none 0 0]) ?_ 0 _ rfl; (with_reducible repeat (first | refine blk_drewN ?_ _ | refine blk_drew ?_ | refine blk_alloc ?_ _)); exact BK314.out) NB314_0.out (by simp)); have n3_ := Aside0.mk (KeepBut.trans q_K hk (.inl rfl)); have n4_ := Aside0.mk (hb); have n5_ := Aside0.mk (hi); revert n0_ n1_ n2_ n3_ n4_ n5_; clear BK306 HO312 BK314 HK HB HI0; intro BK306 HO312 BK314 HK HB HI0; (try clear hb); (try clear hb2); (try clear hk); (try clear hi)) | ((with_reducible refine gate_callee (f := 121) rfl ?_); refine goesLq (some 16) rfl rfl Try.func121 (by kernel_rfl) rfl #[.pointer (some ⟨g, 0, none⟩), .int .i64 24] rfl ?_; (with_reducible refine (spec_l1Next.calls g s0_0 t316 24 t317 t318 w0 _ ?side1 ?side2 A5.out).mono ?_); (case side1 => repeat (first | (with_reducible first | exact HI0.out | apply IsS130.alloc | apply IsS130.drewN | apply IsS130.drew | apply IsS130.set_1 | refine IsS130.far ?_ NB0_306.out _ | refine IsS130.far ?_ NB0_314.out _) | exact HI0.out)); (case side2 => repeat (first | (with_reducible first | exact HB.out | apply below_alloc | apply pw_below_drewN | apply below_drew1 | refine below_set ?_ (IsS130.ge HI0.out) | refine below_set ?_ GE306.out | refine below_set ?_ GE314.out) | exact HB.out)); rintro e w114 ⟨rfl, hi, hb, hk⟩; refine ⟨_, rfl, ?_⟩; have n0_ := Aside0.mk (KeepBut.blk hk (g' := gb306) (o := .cells #[.int .i64 0, .slice none 0 0] 36 (0, 0)) kq NB306_0.out (by simp)); have n1_ := Aside0.mk (Kd.R_mono (Kd.R_keep (IsS130.apart (show IsS130 w0 _ g s0_0 t316 from q_I130_0_1) (q_r (HO312.out)) (by decide)) hk (fun _ h => h.2)) (fun _ h => h.1)); have n2_ := Aside0.mk (KeepBut.blk hk (g' := gb314) (o := .cells #[.int .i64 t309, .slice Ao112 t310.length co112] 36 (0, 0)) kq NB314_0.out (by simp)); have n3_ := Aside0.mk (KeepBut.trans q_K hk (.inl rfl)); have n4_ := Aside0.mk (hb); have n5_ := Aside0.mk (hi); revert n0_ n1_ n2_ n3_ n4_ n5_; clear BK306 HO312 BK314 HK HB HI0; intro BK306 HO312 BK314 HK HB HI0; (try clear hb); (try clear hb2); (try clear hk); (try clear hi)))
        have n0_ := Aside0.mk (Kd.R_drew HO312.out)
        have n1_ := Aside0.mk (blk_drew BK306.out)
        have n2_ := Aside0.mk (blk_drew BK314.out)
        have n3_ := Aside0.mk (IsS130.drew HI0.out)
        have n4_ := Aside0.mk (keep_drew HK.out)
        have n5_ := Aside0.mk (below_drew1 HB.out)
        clear HO312
        clear BK306
        clear BK314
        clear HI0
        clear HK
        clear HB
        have HO312 := n0_
        have BK306 := n1_
        have BK314 := n2_
        have HI0 := n3_
        have HK := n4_
        have HB := n5_
        clear n0_ n1_ n2_ n3_ n4_ n5_
        refine start_ (n := 9) (S := fun w' => w'.cell? ⟨gb314, 0, none⟩ = some (.int .i64 t309) ∧ w'.cell? ⟨gb314, 1, none⟩ = some (.slice Ao112 t310.length co112)) (ds := [8]) #[false, false, false, false, false, false, false, false, false] (by kernel_rfl) rfl rfl ⟨q_z BK314.out 0, q_z BK314.out 1⟩ (fun hHeld => ?_); refine with_tabW spec_l1Bent.tab13 spec_l1Bent.bits13 (fun HT_ HW_ => ?_)
        generalize w114.drew = w115 at HO312 BK306 BK314 HI0 HK HB hHeld ⊢
        refine q_p 0 (some 55) #[true, false, false, false, false, false, false, false, false] HT_.out ?_
        refine q_p 2 (some 57) #[true, false, true, false, false, false, false, false, false] HT_.out ?_
        refine q_p 3 (some 58) #[true, false, true, true, false, false, false, false, false] HT_.out ?_
        refine q_t 1 (some 56) #[true, true, true, true, false, false, false, false, false] HT_.out HW_.out hHeld ?_
        refine one_ (i := 4) (N := some 59) #[true, true, true, true, true, false, false, false, false] rfl rfl (one_of HT_.out (by kernel_rfl)) (by decide) (fun K hK => ?_)
        refine Kd.R_lit_step (Kd.int .i64) _ 2 ?hg (N := 59) ?hd (xs := ([0, 1000000000000, 1000000000001, (-9223372036854775808), 3] : List Int)) (inner := [.int .i64 0, .int .i64 1000000000000, .int .i64 1000000000001, .int .i64 (-9223372036854775808), .int .i64 3]) (ok := fun _ => True) (okp := fun _ => True) ?hr ?hp (fun _ hk => hk) trivial (Below.refl _ _) (Nat.le_refl _) (by simp) ?_; (case hd => rfl); (case hg => rfl); (case hr => first | (go_simp; done) | (go_simp; rfl)); (case hp => exact (Reps.one (show Kd.M (Kd.int .i64) _ _ _ 0 [.int .i64 0] from rfl) (Reps.one (show Kd.M (Kd.int .i64) _ _ _ 1000000000000 [.int .i64 1000000000000] from rfl) (Reps.one (show Kd.M (Kd.int .i64) _ _ _ 1000000000001 [.int .i64 1000000000001] from rfl) (Reps.one (show Kd.M (Kd.int .i64) _ _ _ (-9223372036854775808) [.int .i64 (-9223372036854775808)] from rfl) (Reps.one (show Kd.M (Kd.int .i64) _ _ _ 3 [.int .i64 3] from rfl) (Reps.none _ _)))))))
        intro v343 w116 ho117 hb hg_ hnew_
        clear hg_ hnew_
        (first | rw [← Ny342.out] at ho117 | (simp only [Int.reduceToNat] at ho117; rw [← Ny342.out] at ho117))
        have n0_ := Aside0.mk (Kd.R_below (q_r (HO312.out)) hb)
        have n1_ := Aside0.mk (Kd.R_lower ho117 (keep_size (w := w) (g := g) (row := none) q_K))
        have n2_ := Aside0.mk (IsS130.below q_I130_0_1 hb)
        have n3_ := Aside0.mk (blk_below (q_b BK306.out) hb)
        have n4_ := Aside0.mk (blk_below (q_b BK314.out) hb)
        have n5_ := Aside0.mk (KeepBut.trans q_K (KeepBut.of_below hb g none) (.inl rfl))
        have n6_ := Aside0.mk (below_step q_B130_0 hb)
        clear HO312
        clear HI0
        clear BK306
        clear BK314
        clear HK
        clear HB
        have HO312 := n0_
        have HO344 := n1_
        have HI0 := n2_
        have BK306 := n3_
        have BK314 := n4_
        have HK := n5_
        have HB := n6_
        clear n0_ n1_ n2_ n3_ n4_ n5_ n6_
        clear hb ho117
        obtain ⟨Ao118, co118, eo118⟩ := Kd.R_slice HO344.out
        (first | subst eo118 | (injection eo118 with f1_ f2_ f3_; have f4_ := f1_.symm; have f5_ := f3_.symm; clear f1_ f2_ f3_; subst f4_; subst f5_))
        refine hK.out _ _ ⟨q_z BK314.out 0, q_z BK314.out 1⟩ (fun hHeld => ?_)
        clear hK K
        refine norm_ (a' := ?_) ?_ ?_
        rotate_left
        ·show Act.put _ (some 59) _ = _
         simp only [Act.put, List.setIfInBounds_toArray, List.set_cons_zero, List.set_cons_succ, i64_w, i32_w]
         rfl
        refine one_ (i := 5) (N := some 60) #[true, true, true, true, true, true, false, false, false] rfl rfl (one_of HT_.out (by kernel_rfl)) (by decide) (fun K hK => ?_)
        refine goes_ Try.func100 (by kernel_rfl) rfl #[.pointer (some ⟨g, 0, none⟩), .slice Ao118 y342.length co118] (by rfl) rfl rfl (by (try simp only [List.map_toArray, List.map_cons, List.map_nil]); first | done | rfl | (simp only [List.length_drop, List.length_take]; rfl)) ?_
        with_reducible refine (spec_l1Pick.calls g s0_0 t318 _ _ y342 t345 t346 w0 _ ?side1 ?side2 ?side3 ?side4 ?side5 A101.out).mono ?_
        (case side1 => repeat (first | (with_reducible first | exact HI0.out | apply IsS130.alloc | apply IsS130.drewN | apply IsS130.drew | apply IsS130.set_1 | refine IsS130.far ?_ NB0_306.out _ | refine IsS130.far ?_ NB0_314.out _) | exact HI0.out))
        (case side2 => repeat (first | (with_reducible first | exact HB.out | apply below_alloc | apply pw_below_drewN | apply below_drew1 | refine below_set ?_ (IsS130.ge HI0.out) | refine below_set ?_ GE306.out | refine below_set ?_ GE314.out) | exact HB.out))
        (case side3 => exact q_c ((Kd.R_reads' HO344.out).2.2))
        (case side4 => exact (Kd.R_reads' HO344.out).2.1)
        (case side5 => exact far_slice (IsS130.own_ne HI0.out HO344.out (by decide)))
        rintro e w119 ⟨rfl, hi, hb, hk⟩
        refine ⟨_, rfl, ?_⟩
        have n0_ := Aside0.mk (KeepBut.blk hk (g' := gb306) (o := .cells #[.int .i64 0, .slice none 0 0] 36 (0, 0)) kq NB306_0.out (by simp))
        have n1_ := Aside0.mk (Kd.R_mono (Kd.R_keep (IsS130.apart (show IsS130 w0 _ g s0_0 t318 from q_I130_0_1) (q_r (HO312.out)) (by decide)) hk (fun _ h => h.2)) (fun _ h => h.1))
        have n2_ := Aside0.mk (KeepBut.blk hk (g' := gb314) (o := .cells #[.int .i64 t309, .slice Ao112 t310.length co112] 36 (0, 0)) kq NB314_0.out (by simp))
        have n3_ := Aside0.mk (Kd.R_mono (Kd.R_keep (IsS130.apart (show IsS130 w0 _ g s0_0 t318 from q_I130_0_1) (q_r (HO344.out)) (by decide)) hk (fun _ h => h.2)) (fun _ h => h.1))
        have n4_ := Aside0.mk (KeepBut.trans q_K hk (.inl rfl))
        have n5_ := Aside0.mk (hb)
        have n6_ := Aside0.mk (hi)
        clear BK306
        clear HO312
        clear BK314
        clear HO344
        clear HK
        clear HB
        clear HI0
        have BK306 := n0_
        have HO312 := n1_
        have BK314 := n2_
        have HO344 := n3_
        have HK := n4_
        have HB := n5_
        have HI0 := n6_
        clear n0_ n1_ n2_ n3_ n4_ n5_ n6_
        (try clear hb)
        (try clear hb2)
        (try clear hk)
        (try clear hi)
        have p104 : 0 ≤ (t315 : Int) := q_d
        have q104 : (t315 : Int) < ((t310.length : Int) : Int) := q_d
        obtain ⟨go104, co104, eo104, gb104, gl104, cl104, HG104⟩ := Kd.R_form HO312.out (by omega)
        (first | cases eo104 | (injection eo104 with ea_ en_ ec_; (first | subst ea_ | (injection ea_ with ea_; subst ea_)); subst ec_; clear en_))
        have GB104 := Aside0.mk gb104
        have GG104 := Aside0.mk HG104
        clear gb104 gl104 HG104
        obtain ⟨ce104, hcl104, hM104, hcc104, hfr104⟩ := Kd.R_elem HO312.out z89 (t315 : Int) p104 q104
        obtain rfl := k89_openM hM104
        have hx104_0 : World.cell? _ ⟨go104, (t315 : Int).toNat * 4, none⟩ = some (.int .i64 ((rd_T89 t310 t315).f0)) := hcc104 0 _ rfl
        have hx104_1 : World.cell? _ ⟨go104, (t315 : Int).toNat * 4 + 1, none⟩ = some (.int .i64 ((rd_T89 t310 t315).f1)) := hcc104 1 _ rfl
        have hx104_2 : World.cell? _ ⟨go104, (t315 : Int).toNat * 4 + 2, none⟩ = some (.int .i64 ((rd_T89 t310 t315).f2)) := hcc104 2 _ rfl
        have hx104_3 : World.cell? _ ⟨go104, (t315 : Int).toNat * 4 + 3, none⟩ = some (.int .i64 ((rd_T89 t310 t315).f3)) := hcc104 3 _ rfl
        have hf104_0 : World.frozen? _ ⟨go104, (t315 : Int).toNat * 4, none⟩ = false := hfr104 0
        have hf104_1 : World.frozen? _ ⟨go104, (t315 : Int).toNat * 4 + 1, none⟩ = false := hfr104 1
        have hf104_2 : World.frozen? _ ⟨go104, (t315 : Int).toNat * 4 + 2, none⟩ = false := hfr104 2
        have hf104_3 : World.frozen? _ ⟨go104, (t315 : Int).toNat * 4 + 3, none⟩ = false := hfr104 3
        clear hcl104 hcc104 hfr104; (try clear hM104)
        replace p104 := eq_true p104
        replace q104 := eq_true q104
        have HN0_go104 := Aside0.mk (show g ≠ go104 from by have h_ := IsS130.own_ne HI0.out HO312.out (by decide); intro e_; exact h_ (by rw [e_]; rfl))
        obtain ⟨ce120, hcl120, hM120, hcc120, hfr120⟩ := Kd.R_elem HO312.out z89 (t315 : Int) q_d (by have h_ : (t315 : Int) < ((t310.length : Int) : Int) := q_d; first | exact h_ | (have e_ := (Kd.R_reads' HO312.out).1; omega) | simpa using h_)
        obtain rfl := k89_openM hM120
        have HP120 := (Kd.R_seg HO312.out (t315 : Int) q_d (by have h_ : (t315 : Int) < ((t310.length : Int) : Int) := q_d; first | exact h_ | (have e_ := (Kd.R_reads' HO312.out).1; omega) | simpa using h_) (seg := [.int .i64 t345]) (j := 3) hcl120 hcc120 (show 4 ≤ 4 from by decide) (x' := (⟨(rd_T89 t310 t315).f0, (rd_T89 t310 t315).f1, (rd_T89 t310 t315).f2, t345⟩ : S89)) (k89_mkM _ _ _ (⟨(rd_T89 t310 t315).f0, (rd_T89 t310 t315).f1, (rd_T89 t310 t315).f2, t345⟩ : S89) ) (fun _ hk => hk)).1
        rw [← Ny347.out] at HP120
        have HQ120 := Aside0.mk HP120
        clear hcl120 hcc120 hfr120 HP120; (try clear hM120)
        refine hK.out _ _ ⟨q_z BK314.out 0, q_z BK314.out 1⟩ (fun hHeld => ?_)
        clear hK K
        refine norm_ (a' := ?_) ?_ ?_
        rotate_left
        ·show Act.put _ (some 60) _ = _
         simp only [Act.put, List.setIfInBounds_toArray, List.set_cons_zero, List.set_cons_succ, i64_w, i32_w]
         rfl
        refine q_p 6 (some 61) #[true, true, true, true, true, true, true, false, false] HT_.out ?_
        refine q_p 7 (some 62) #[true, true, true, true, true, true, true, true, false] HT_.out ?_
        refine last_ (i := 8) (N := none) #[true, true, true, true, true, true, true, true, true] rfl rfl (one_of HT_.out (by kernel_rfl)) (by decide) (fun K hK => ?_)
        refine skip_ (w1 := ?_) (by rfl) rfl ?_ ?_
        rotate_left
        ·go_simp
         rfl
        refine hK.out _ _ ?_
        clear hK K
        refine done_ (done_of HT_.out (by kernel_rfl)) ?_
        have n0_ : Aside0 (Kd.R k89 89 (w119.setCell ⟨go104, (t315 : Int).toNat * 4 + 3, none⟩ (.int .i64 t345)) w.heap.size (fun _ => True) (.slice (some ⟨go104, 0, none⟩) t310.length co112) y347) := ⟨q_r (HQ120.out)⟩
        have n1_ : Aside0 (Kd.R (Kd.int .i64) 2 (w119.setCell ⟨go104, (t315 : Int).toNat * 4 + 3, none⟩ (.int .i64 t345)) w.heap.size (fun _ => True) (.slice Ao118 y342.length co118) y342) := ⟨by (with_reducible repeat (first | apply Kd.R_alloc | apply Kd.R_drewN | apply Kd.R_drew)); exact Kd.R_mono (Kd.R_far (p := ⟨go104, (t315 : Int).toNat * 4 + 3, none⟩) (Kd.R_types HO344.out GG104.out (by decide)) (fun _ hk => hk.2) (.int .i64 t345)) (fun _ hk => trivial)⟩
        have n2_ : Aside0 ((w119.setCell ⟨go104, (t315 : Int).toNat * 4 + 3, none⟩ (.int .i64 t345)).heap[gb306]? = some (.cells #[.int .i64 0, .slice none 0 0] 36 (0, 0))) := ⟨by (with_reducible repeat (first | refine blk_drewN ?_ _ | refine blk_drew ?_ | refine blk_alloc ?_ _)); refine blk_far ?_ (by have h_ := Kd.R_ne HO312.out BK306.out (by decide); intro e_; exact h_ (by rw [e_]; rfl)) _; (with_reducible repeat (first | refine blk_drewN ?_ _ | refine blk_drew ?_ | refine blk_alloc ?_ _)); exact BK306.out⟩
        have n3_ : Aside0 ((w119.setCell ⟨go104, (t315 : Int).toNat * 4 + 3, none⟩ (.int .i64 t345)).heap[gb314]? = some (.cells #[.int .i64 t309, .slice (some ⟨go104, 0, none⟩) t310.length co112] 36 (0, 0))) := ⟨by (with_reducible repeat (first | refine blk_drewN ?_ _ | refine blk_drew ?_ | refine blk_alloc ?_ _)); refine blk_far ?_ (by have h_ := Kd.R_ne HO312.out BK314.out (by decide); intro e_; exact h_ (by rw [e_]; rfl)) _; (with_reducible repeat (first | refine blk_drewN ?_ _ | refine blk_drew ?_ | refine blk_alloc ?_ _)); exact BK314.out⟩
        have n4_ : Aside0 (IsS130 w0 (w119.setCell ⟨go104, (t315 : Int).toNat * 4 + 3, none⟩ (.int .i64 t345)) g s0_0 t346) := ⟨by repeat (first | (with_reducible first | exact HI0.out | apply IsS130.alloc | apply IsS130.drewN | apply IsS130.drew | apply IsS130.set_1 | refine IsS130.far ?_ HN0_go104.out _ | refine IsS130.far ?_ NB0_306.out _ | refine IsS130.far ?_ NB0_314.out _) | exact HI0.out)⟩
        have n5_ : Aside0 (KeepBut w (w119.setCell ⟨go104, (t315 : Int).toNat * 4 + 3, none⟩ (.int .i64 t345)) g none) := ⟨by repeat (first | (with_reducible first | exact HK.out | apply KeepBut.set_ | apply keep_drewN | apply keep_drew | apply keep_alloc | refine keep_far ?_ GB104.out _ | refine keep_far ?_ GW306.out _ | refine keep_far ?_ GW314.out _) | exact HK.out)⟩
        have n6_ : Aside0 (Below w0.heap.size w0 (w119.setCell ⟨go104, (t315 : Int).toNat * 4 + 3, none⟩ (.int .i64 t345))) := ⟨by repeat (first | (with_reducible first | exact HB.out | apply below_alloc | apply pw_below_drewN | apply below_drew1 | refine below_set ?_ (Nat.le_trans HL.out GB104.out) | refine below_set ?_ (IsS130.ge HI0.out) | refine below_set ?_ GE306.out | refine below_set ?_ GE314.out) | exact HB.out)⟩
        (try clear HO312)
        (try clear HO344)
        (try clear BK306)
        (try clear BK314)
        (try clear HI0)
        (try clear HK)
        (try clear HB)
        generalize (w119.setCell ⟨go104, (t315 : Int).toNat * 4 + 3, none⟩ (.int .i64 t345)) = w121 at n0_ n1_ n2_ n3_ n4_ n5_ n6_ ⊢
        have HO312 := n0_
        have HO344 := n1_
        have BK306 := n2_
        have BK314 := n3_
        have HI0 := n4_
        have HK := n5_
        have HB := n6_
        clear n0_ n1_ n2_ n3_ n4_ n5_ n6_
        obtain ⟨hcz122_0, hcz122_1, hfz122_0, hfz122_1⟩ := q_2 BK314.out
        have hnb123 := NB306_0.out
        have hnc123 := NB0_306.out
        obtain ⟨hcz124_0, hcz124_1, hfz124_0, hfz124_1⟩ := q_2 BK306.out
        try go_wp2
        refine bodyPost_ret (results_cell_row rfl _ _ gb306 36 #[.int .i64 t309, .slice (some ⟨go104, 0, none⟩) t310.length co112] (0, 0) _ rfl (by (with_reducible repeat (first | refine blk_drewN ?_ _ | refine blk_drew ?_ | refine blk_alloc ?_ _)); refine blk_put (cs := #[.int .i64 t309, .slice none 0 0]) ?_ 1 _ rfl; (with_reducible repeat (first | refine blk_drewN ?_ _ | refine blk_drew ?_ | refine blk_alloc ?_ _)); refine blk_put (cs := #[.int .i64 0, .slice none 0 0]) ?_ 0 _ rfl; (with_reducible repeat (first | refine blk_drewN ?_ _ | refine blk_drew ?_ | refine blk_alloc ?_ _)); exact BK306.out) Try.underlying36 rfl (by kernel_rfl)) rfl ?_
        exact ⟨_, q_e, by (with_reducible repeat (first | apply Kd.R_alloc | apply Kd.R_drewN | apply Kd.R_drew)); exact Kd.R_mono (Kd.R_far (p := ⟨gb306, 1, none⟩) (Kd.R_far (p := ⟨gb306, 0, none⟩) (Kd.R_types HO312.out BK306.out (by decide)) (fun _ hk => hk.2) (.int .i64 t309)) (fun _ hk => hk.2) (.slice (some ⟨go104, 0, none⟩) t310.length co112)) (fun _ hk => trivial), q_I130_0_1, q_B130_0, q_K⟩
       ·rw [if_neg c103] at H
        exact absurd H (by simp)
      ·rw [if_neg c102] at H
       exact absurd H (by simp)
     ·rw [if_neg c100] at H
      have c100b0 : (t317 == 4) = false := beq_eq_false_iff_ne.mpr c100
      have c100b1 : (t317 != 4) = true := bne_iff_ne.mpr c100
      by_cases c125 : t317 = 5
      ·rw [if_pos c125] at H
       have c125b0 : (t317 == 5) = true := beq_iff_eq.mpr c125
       have c125b1 : (t317 != 5) = false := bne_eq_false_iff_eq.mpr c125
       clear c125
       by_cases c126 : 0 ≤ t315
       ·rw [if_pos c126] at H
        have c126b0 := decide_eq_true c126
        clear c126
        by_cases c127 : t315 < (t310.length : Int)
        ·rw [if_pos c127] at H
         have c127b0 := decide_eq_true c127
         clear c127
         by_cases c128 : t310.length < 4398046511104
         ·rw [if_pos c128] at H
          have LMc128 := Aside0.mk c128
          clear c128
          obtain ⟨y349, hy349⟩ : ∃ y_ : List (S89), y_ = (t310 ++ [(⟨(rd_T89 t310 t315).f0, (rd_T89 t310 t315).f1, (rd_T89 t310 t315).f2, (rd_T89 t310 t315).f3⟩ : S89)]) := ⟨_, rfl⟩
          replace H : (some (t309, y349, t318)) = some (r1, r2, r3) := q_h hy349 H
          have Ny349 := Aside0.mk hy349
          clear hy349
          simp only [Option.some.injEq, Prod.mk.injEq] at H
          obtain ⟨rfl, rfl, rfl⟩ := H
          go_enter Try.func97, Try.ntmps97
          try go_wp2_with (first | ((with_reducible refine gate_dst (N := 2) rfl ?_); refine q_box (N := 2) (cs := #[.int .i64 0, .slice none 0 0]) (t := 36) ?_; intro gb306 hg w129 hbox hb; have n0_ := Aside0.mk (IsS130.below q_I130_0_1 hb); have n1_ := Aside0.mk (KeepBut.trans q_K (KeepBut.of_below hb g none) (.inl rfl)); have n2_ := Aside0.mk (below_step q_B130_0 hb); have n3_ := Aside0.mk (hbox); have n4_ := Aside0.mk ((by rw [hg]; exact (keep_size (w := w) (g := g) (row := none) q_K) : w.heap.size ≤ gb306)); have n5_ := Aside0.mk ((Nat.le_trans HW0.out (by rw [hg]; exact (keep_size (w := w) (g := g) (row := none) q_K) : w.heap.size ≤ gb306) : w0.heap.size ≤ gb306)); have n6_ := Aside0.mk ((by rw [hg]; exact Nat.ne_of_lt (IsS130.lt (show IsS130 w0 _ g s0_0 s0_1 from q_I130_0_1)) : g ≠ gb306)); have n7_ := Aside0.mk ((by rw [hg]; exact Nat.ne_of_gt (IsS130.lt (show IsS130 w0 _ g s0_0 s0_1 from q_I130_0_1)) : gb306 ≠ g)); revert n0_ n1_ n2_ n3_ n4_ n5_ n6_ n7_; clear HI0 HK HB; intro HI0 HK HB BK306 GW306 GE306 NB0_306 NB306_0; clear hb hbox hg) | ((with_reducible refine gate_callee (f := 121) rfl ?_); refine goesLq (some 7) rfl rfl Try.func121 (by kernel_rfl) rfl #[.pointer (some ⟨g, 0, none⟩), .int .i64 9] rfl ?_; (with_reducible refine (spec_l1Next.calls g s0_0 s0_1 9 t307 t308 w0 _ ?side1 ?side2 A2.out).mono ?_); (case side1 => repeat (first | (with_reducible first | exact HI0.out | apply IsS130.alloc | apply IsS130.drewN | apply IsS130.drew | apply IsS130.set_1 | refine IsS130.far ?_ NB0_306.out _) | exact HI0.out)); (case side2 => repeat (first | (with_reducible first | exact HB.out | apply below_alloc | apply pw_below_drewN | apply below_drew1 | refine below_set ?_ (IsS130.ge HI0.out) | refine below_set ?_ GE306.out) | exact HB.out)); rintro e w130 ⟨rfl, hi, hb, hk⟩; refine ⟨_, rfl, ?_⟩; have n0_ := Aside0.mk (KeepBut.blk hk (g' := gb306) (o := .cells #[.int .i64 0, .slice none 0 0] 36 (0, 0)) kq NB306_0.out (by simp)); have n1_ := Aside0.mk (KeepBut.trans q_K hk (.inl rfl)); have n2_ := Aside0.mk (hb); have n3_ := Aside0.mk (hi); revert n0_ n1_ n2_ n3_; clear BK306 HK HB HI0; intro BK306 HK HB HI0; (try clear hb); (try clear hb2); (try clear hk); (try clear hi)) | ((with_reducible refine gate_callee (f := 122) rfl ?_); refine goesLq (some 9) rfl rfl Try.func122 (by kernel_rfl) rfl #[.pointer (some ⟨g, 0, none⟩), .int .i64 (wrap64 (1 + t307))] rfl ?_; (with_reducible refine (spec_l1Draw.calls k g s0_0 t308 (wrap64 (1 + t307)) t309 t310 t313 w0 _ ?side1 ?side2 A3.out).mono ?_); (case side1 => repeat (first | (with_reducible first | exact HI0.out | apply IsS130.alloc | apply IsS130.drewN | apply IsS130.drew | apply IsS130.set_1 | refine IsS130.far ?_ NB0_306.out _) | exact HI0.out)); (case side2 => repeat (first | (with_reducible first | exact HB.out | apply below_alloc | apply pw_below_drewN | apply below_drew1 | refine below_set ?_ (IsS130.ge HI0.out) | refine below_set ?_ GE306.out) | exact HB.out)); rintro e w131 ⟨v311, rfl, ho0, hi, hb, hk⟩; refine ⟨_, rfl, ?_⟩; have n0_ := Aside0.mk (KeepBut.blk hk (g' := gb306) (o := .cells #[.int .i64 0, .slice none 0 0] 36 (0, 0)) kq NB306_0.out (by simp)); have n1_ := Aside0.mk (Kd.R_lower ho0 (keep_size (w := w) (g := g) (row := none) q_K)); have n2_ := Aside0.mk (KeepBut.trans q_K hk (.inl rfl)); have n3_ := Aside0.mk (hb); have n4_ := Aside0.mk (hi); revert n0_ n1_ n2_ n3_ n4_; clear BK306 HK HB HI0; intro BK306 HO312 HK HB HI0; (try clear hb); (try clear hb2); (try clear hk); (try clear hi); (try clear ho0)) | ((with_reducible refine gate_dst (N := 3) rfl ?_); refine q_box (N := 3) (cs := #[.int .i64 0, .slice none 0 0]) (t := 36) ?_; intro gb314 hg w132 hbox hb; have n0_ := Aside0.mk (Kd.R_below (q_r (HO312.out)) hb); have n1_ := Aside0.mk (IsS130.below q_I130_0_1 hb); have n2_ := Aside0.mk (blk_below (q_b BK306.out) hb); have n3_ := Aside0.mk (KeepBut.trans q_K (KeepBut.of_below hb g none) (.inl rfl)); have n4_ := Aside0.mk (below_step q_B130_0 hb); have n5_ := Aside0.mk (hbox); have n6_ := Aside0.mk ((by rw [hg]; exact (keep_size (w := w) (g := g) (row := none) q_K) : w.heap.size ≤ gb314)); have n7_ := Aside0.mk ((Nat.le_trans HW0.out (by rw [hg]; exact (keep_size (w := w) (g := g) (row := none) q_K) : w.heap.size ≤ gb314) : w0.heap.size ≤ gb314)); have n8_ := Aside0.mk ((q_n hg (q_b BK306.out) : gb306 ≠ gb314)); have n9_ := Aside0.mk ((q_m hg (q_b BK306.out) : gb314 ≠ gb306)); have n10_ := Aside0.mk ((by rw [hg]; exact Nat.ne_of_lt (IsS130.lt (show IsS130 w0 _ g s0_0 t313 from q_I130_0_1)) : g ≠ gb314)); have n11_ := Aside0.mk ((by rw [hg]; exact Nat.ne_of_gt (IsS130.lt (show IsS130 w0 _ g s0_0 t313 from q_I130_0_1)) : gb314 ≠ g)); revert n0_ n1_ n2_ n3_ n4_ n5_ n6_ n7_ n8_ n9_ n10_ n11_; clear HO312 HI0 BK306 HK HB; intro HO312 HI0 BK306 HK HB BK314 GW314 GE314 NB306_314 NB314_306 NB0_314 NB314_0; clear hb hbox hg; have hnb133 := NB314_306.out; have hnc133 := NB306_314.out; have hnb134 := NB314_0.out; have hnc134 := NB0_314.out; obtain ⟨hcz135_0, hcz135_1, hfz135_0, hfz135_1⟩ := q_2 BK314.out; obtain ⟨Ao136, co136, eo136⟩ := Kd.R_slice HO312.out; subst eo136) | ((with_reducible refine gate_callee (f := 121) rfl ?_); refine goesLq (some 14) rfl rfl Try.func121 (by kernel_rfl) rfl #[.pointer (some ⟨g, 0, none⟩), .int .i64 (t310.length : Int)] rfl ?_; (with_reducible refine (spec_l1Next.calls g s0_0 t313 (t310.length : Int) t315 t316 w0 _ ?side1 ?side2 A4.out).mono ?_); (case side1 => repeat (first | (with_reducible first | exact HI0.out | apply IsS130.alloc | apply IsS130.drewN | apply IsS130.drew | apply IsS130.set_1 | refine IsS130.far ?_ NB0_306.out _ | refine IsS130.far ?_ NB0_314.out _) | exact HI0.out)); (case side2 => repeat (first | (with_reducible first | exact HB.out | apply below_alloc | apply pw_below_drewN | apply below_drew1 | refine below_set ?_ (IsS130.ge HI0.out) | refine below_set ?_ GE306.out | refine below_set ?_ GE314.out) | exact HB.out)); rintro e w137 ⟨rfl, hi, hb, hk⟩; refine ⟨_, rfl, ?_⟩; have n0_ := Aside0.mk (KeepBut.blk hk (g' := gb306) (o := .cells #[.int .i64 0, .slice none 0 0] 36 (0, 0)) (by (with_reducible repeat (first | refine blk_drewN ?_ _ | refine blk_drew ?_ | refine blk_alloc ?_ _)); refine blk_far ?_ NB306_314.out _; (with_reducible repeat (first | refine blk_drewN ?_ _ | refine blk_drew ?_ | refine blk_alloc ?_ _)); refine blk_far ?_ NB306_314.out _; (with_reducible repeat (first | refine blk_drewN ?_ _ | refine blk_drew ?_ | refine blk_alloc ?_ _)); exact BK306.out) NB306_0.out (by simp)); have n1_ := Aside0.mk (Kd.R_mono (Kd.R_keep (IsS130.apart (show IsS130 w0 _ g s0_0 t313 from q_I130_0_1) (by (with_reducible repeat (first | apply Kd.R_alloc | apply Kd.R_drewN | apply Kd.R_drew)); exact (Kd.R_mono (Kd.R_far (p := ⟨gb314, 1, none⟩) (Kd.R_far (p := ⟨gb314, 0, none⟩) (Kd.R_types HO312.out BK314.out (by decide)) (fun _ hk => hk.2) (.int .i64 t309)) (fun _ hk => hk.2) (.slice Ao136 t310.length co136)) (fun _ h_ => h_.1))) (by decide)) hk (fun _ h => h.2)) (fun _ h => h.1)); have n2_ := Aside0.mk (KeepBut.blk hk (g' := gb314) (o := .cells #[.int .i64 t309, .slice Ao136 t310.length co136] 36 (0, 0)) (by (with_reducible repeat (first | refine blk_drewN ?_ _ | refine blk_drew ?_ | refine blk_alloc ?_ _)); refine blk_put (cs := #[.int .i64 t309, .slice none 0 0]) ?_ 1 _ rfl; (with_reducible repeat (first | refine blk_drewN ?_ _ | refine blk_drew ?_ | refine blk_alloc ?_ _)); refine blk_put (cs := #[.int .i64 0, .slice none 0 0]) ?_ 0 _ rfl; (with_reducible repeat (first | refine blk_drewN ?_ _ | refine blk_drew ?_ | refine blk_alloc ?_ _)); exact BK314.out) NB314_0.out (by simp)); have n3_ := Aside0.mk (KeepBut.trans q_K hk (.inl rfl)); have n4_ := Aside0.mk (hb); have n5_ := Aside0.mk (hi); revert n0_ n1_ n2_ n3_ n4_ n5_; clear BK306 HO312 BK314 HK HB HI0; intro BK306 HO312 BK314 HK HB HI0; (try clear hb); (try clear hb2); (try clear hk); (try clear hi)) | ((with_reducible refine gate_callee (f := 121) rfl ?_); refine goesLq (some 16) rfl rfl Try.func121 (by kernel_rfl) rfl #[.pointer (some ⟨g, 0, none⟩), .int .i64 24] rfl ?_; (with_reducible refine (spec_l1Next.calls g s0_0 t316 24 t317 t318 w0 _ ?side1 ?side2 A5.out).mono ?_); (case side1 => repeat (first | (with_reducible first | exact HI0.out | apply IsS130.alloc | apply IsS130.drewN | apply IsS130.drew | apply IsS130.set_1 | refine IsS130.far ?_ NB0_306.out _ | refine IsS130.far ?_ NB0_314.out _) | exact HI0.out)); (case side2 => repeat (first | (with_reducible first | exact HB.out | apply below_alloc | apply pw_below_drewN | apply below_drew1 | refine below_set ?_ (IsS130.ge HI0.out) | refine below_set ?_ GE306.out | refine below_set ?_ GE314.out) | exact HB.out)); rintro e w138 ⟨rfl, hi, hb, hk⟩; refine ⟨_, rfl, ?_⟩; have n0_ := Aside0.mk (KeepBut.blk hk (g' := gb306) (o := .cells #[.int .i64 0, .slice none 0 0] 36 (0, 0)) kq NB306_0.out (by simp)); have n1_ := Aside0.mk (Kd.R_mono (Kd.R_keep (IsS130.apart (show IsS130 w0 _ g s0_0 t316 from q_I130_0_1) (q_r (HO312.out)) (by decide)) hk (fun _ h => h.2)) (fun _ h => h.1)); have n2_ := Aside0.mk (KeepBut.blk hk (g' := gb314) (o := .cells #[.int .i64 t309, .slice Ao136 t310.length co136] 36 (0, 0)) kq NB314_0.out (by simp)); have n3_ := Aside0.mk (KeepBut.trans q_K hk (.inl rfl)); have n4_ := Aside0.mk (hb); have n5_ := Aside0.mk (hi); revert n0_ n1_ n2_ n3_ n4_ n5_; clear BK306 HO312 BK314 HK HB HI0; intro BK306 HO312 BK314 HK HB HI0; (try clear hb); (try clear hb2); (try clear hk); (try clear hi)))
          have n0_ := Aside0.mk (Kd.R_drew HO312.out)
          have n1_ := Aside0.mk (blk_drew BK306.out)
          have n2_ := Aside0.mk (blk_drew BK314.out)
          have n3_ := Aside0.mk (IsS130.drew HI0.out)
          have n4_ := Aside0.mk (keep_drew HK.out)
          have n5_ := Aside0.mk (below_drew1 HB.out)
          clear HO312
          clear BK306
          clear BK314
          clear HI0
          clear HK
          clear HB
          have HO312 := n0_
          have BK306 := n1_
          have BK314 := n2_
          have HI0 := n3_
          have HK := n4_
          have HB := n5_
          clear n0_ n1_ n2_ n3_ n4_ n5_
          have p348 : 0 ≤ (t315 : Int) := q_d
          have q348 : t315 < (t310.length : Int) := q_d
          obtain ⟨ad348, e348, hx348_0, hx348_1, hx348_2, hx348_3⟩ := at_T89 (Kd.R_reads' HO312.out).2.2 t315 p348 q348
          cases e348
          replace p348 := eq_true p348
          replace q348 := eq_true q348
          refine start_ (n := 11) (S := fun w' => w'.cell? ⟨gb314, 0, none⟩ = some (.int .i64 t309) ∧ w'.cell? ⟨gb314, 1, none⟩ = some (.slice (some ad348) t310.length co136) ∧ w'.cell? (ad348.add ((t315).toNat * 4)) = some (.int .i64 ((rd_T89 t310 t315).f0)) ∧ w'.cell? ⟨(ad348.add ((t315).toNat * 4)).block, (ad348.add ((t315).toNat * 4)).off + 1, none⟩ = some (.int .i64 ((rd_T89 t310 t315).f1)) ∧ w'.cell? ⟨(ad348.add ((t315).toNat * 4)).block, (ad348.add ((t315).toNat * 4)).off + 2, none⟩ = some (.int .i64 ((rd_T89 t310 t315).f2)) ∧ w'.cell? ⟨(ad348.add ((t315).toNat * 4)).block, (ad348.add ((t315).toNat * 4)).off + 3, none⟩ = some (.int .i64 ((rd_T89 t310 t315).f3))) (ds := [8, 10]) #[false, false, false, false, false, false, false, false, false, false, false] (by kernel_rfl) rfl rfl ⟨q_z BK314.out 0, q_z BK314.out 1, hx348_0, hx348_1, hx348_2, hx348_3⟩ (fun hHeld => ?_); refine with_tabW spec_l1Bent.tab15 spec_l1Bent.bits15 (fun HT_ HW_ => ?_)
          generalize w138.drew = w139 at HO312 BK306 BK314 HI0 HK HB hx348_0 hx348_1 hx348_2 hx348_3 hHeld ⊢
          refine q_p 0 (some 65) #[true, false, false, false, false, false, false, false, false, false, false] HT_.out ?_
          refine q_p 2 (some 67) #[true, false, true, false, false, false, false, false, false, false, false] HT_.out ?_
          refine q_p 4 (some 69) #[true, false, true, false, true, false, false, false, false, false, false] HT_.out ?_
          refine q_t 1 (some 66) #[true, true, true, false, true, false, false, false, false, false, false] HT_.out HW_.out hHeld ?_
          refine q_t 3 (some 68) #[true, true, true, true, true, false, false, false, false, false, false] HT_.out HW_.out hHeld ?_
          refine q_p 5 (some 70) #[true, true, true, true, true, true, false, false, false, false, false] HT_.out ?_
          refine q_t 6 (some 71) #[true, true, true, true, true, true, true, false, false, false, false] HT_.out HW_.out hHeld ?_
          refine one_ (i := 7) (N := some 72) #[true, true, true, true, true, true, true, true, false, false, false] rfl rfl (one_of HT_.out (by kernel_rfl)) (by decide) (fun K hK => ?_)
          refine value_ (w1 := ?_) (v := ?_) (by rfl) rfl ?_ ?_
          rotate_left 2
          ·go_simp
           constructor
           ·rfl
           ·rfl
          refine hK.out _ _ ⟨(blk_cell (blk_alloc BK314.out _) 0).trans rfl, (blk_cell (blk_alloc BK314.out _) 1).trans rfl, (World.cell?_alloc_lt _ _ _ (World.block_lt_of_cell? _ _ (hHeld.2.2.1))).trans (hHeld.2.2.1), (World.cell?_alloc_lt _ _ _ (World.block_lt_of_cell? _ _ (hHeld.2.2.2.1))).trans (hHeld.2.2.2.1), (World.cell?_alloc_lt _ _ _ (World.block_lt_of_cell? _ _ (hHeld.2.2.2.2.1))).trans (hHeld.2.2.2.2.1), (World.cell?_alloc_lt _ _ _ (World.block_lt_of_cell? _ _ (hHeld.2.2.2.2.2))).trans (hHeld.2.2.2.2.2)⟩ (fun hHeld => ?_)
          clear hK K
          refine norm_ (a' := ?_) ?_ ?_
          rotate_left
          ·show Act.put _ (some 72) _ = _
           simp only [Act.put, List.setIfInBounds_toArray, List.set_cons_zero, List.set_cons_succ, i64_w, i32_w]
           rfl
          refine last_ (i := 8) (N := some 73) #[true, true, true, true, true, true, true, true, true, false, false] rfl rfl (one_of HT_.out (by kernel_rfl)) (by decide) (fun K hK => ?_)
          refine Kd.R_append_step k89 w.heap.size (by rfl) (.tmp 66) (.tmp 72) 34 89 (.agg #[(.int .i64 0), (.int .i64 0), (.int .i64 0), (.int .i64 0)]) 32 rfl Try.underlying34 info89 rfl (by decide) (by omega) (.slice (some ad348) t310.length co136) t310 (⟨(rd_T89 t310 t315).f0, (rd_T89 t310 t315).f1, (rd_T89 t310 t315).f2, (rd_T89 t310 t315).f3⟩ : S89) [.int .i64 ((rd_T89 t310 t315).f0), .int .i64 ((rd_T89 t310 t315).f1), .int .i64 ((rd_T89 t310 t315).f2), .int .i64 ((rd_T89 t310 t315).f3)] (fun _ => True) (fun _ => False) rfl rfl ?aP (fun _ hk => hk.elim) ?aF ?aO (Below.refl _ _) ?aS ?aL ?_
          (case aP => exact k89_mkM _ _ _ (⟨(rd_T89 t310 t315).f0, (rd_T89 t310 t315).f1, (rd_T89 t310 t315).f2, (rd_T89 t310 t315).f3⟩ : S89))
          (case aF => exact (fun _ _ => trivial))
          (case aO => exact (q_r (HO312.out)))
          (case aS => exact (keep_size (w := w) (g := g) (row := none) q_K))
          (case aL => have := LMc128.out; omega)
          intro v350 w140 ho hb hg hat
          rw [← Ny349.out] at ho
          have n0_ := Aside0.mk (IsS130.grown q_I130_0_1 hg (IsS130.own_ne HI0.out HO312.out (by decide)))
          have n1_ := Aside0.mk (blk_grown (q_b BK306.out) hg (Kd.R_ne HO312.out BK306.out (by decide)))
          have n2_ := Aside0.mk (blk_grown (q_b BK314.out) hg (Kd.R_ne HO312.out BK314.out (by decide)))
          have n3_ := Aside0.mk (below_weaken q_B130_0 HL.out hb)
          have n4_ := Aside0.mk (KeepBut.trans q_K (KeepBut.of_grown hg g) (Kd.R_base2 HO312.out))
          have n5_ := Aside0.mk (ho)
          clear HI0
          clear BK306
          clear BK314
          clear HB
          clear HK
          clear HO312
          have HI0 := n0_
          have BK306 := n1_
          have BK314 := n2_
          have HB := n3_
          have HK := n4_
          have HO351 := n5_
          clear n0_ n1_ n2_ n3_ n4_ n5_
          clear ho hb hg hat
          obtain ⟨Ao141, co141, eo141⟩ := Kd.R_slice HO351.out
          (first | subst eo141 | (injection eo141 with f1_ f2_ f3_; have f4_ := f1_.symm; have f5_ := f3_.symm; clear f1_ f2_ f3_; subst f4_; subst f5_))
          refine hK.out _ _ ?_
          clear hK K
          refine norm_ (a' := ?_) ?_ ?_
          rotate_left
          ·show Act.put _ (some 73) _ = _
           simp only [Act.put, List.setIfInBounds_toArray, List.set_cons_zero, List.set_cons_succ, i64_w, i32_w]
           rfl
          refine q_p 9 (some 74) #[true, true, true, true, true, true, true, true, true, true, false] HT_.out ?_
          refine last_ (i := 10) (N := none) #[true, true, true, true, true, true, true, true, true, true, true] rfl rfl (one_of HT_.out (by kernel_rfl)) (by decide) (fun K hK => ?_)
          have hs142 : w140.cell? ⟨gb314, 1, none⟩ = some (.slice (some ad348) t310.length co136) := (blk_cell BK314.out 1).trans rfl
          have hfs142 := blk_frozen BK314.out 1
          have hns142_0 := NB306_314.out
          have hms142_0 := NB314_306.out
          refine skip_ (w1 := ?_) (by rfl) rfl ?_ ?_
          rotate_left
          ·go_simp
           rfl
          refine hK.out _ _ ?_
          clear hK K
          refine done_ (done_of HT_.out (by kernel_rfl)) ?_
          obtain ⟨hcz143_0, hcz143_1, hfz143_0, hfz143_1⟩ := q_2 BK314.out
          have hnb144 := NB306_0.out
          have hnc144 := NB0_306.out
          obtain ⟨hcz145_0, hcz145_1, hfz145_0, hfz145_1⟩ := q_2 BK306.out
          try go_wp2
          refine bodyPost_ret (results_cell_row rfl _ _ gb306 36 #[.int .i64 t309, .slice Ao141 y349.length co141] (0, 0) _ rfl (by (with_reducible repeat (first | refine blk_drewN ?_ _ | refine blk_drew ?_ | refine blk_alloc ?_ _)); refine blk_put (cs := #[.int .i64 t309, .slice none 0 0]) ?_ 1 _ rfl; (with_reducible repeat (first | refine blk_drewN ?_ _ | refine blk_drew ?_ | refine blk_alloc ?_ _)); refine blk_put (cs := #[.int .i64 0, .slice none 0 0]) ?_ 0 _ rfl; (with_reducible repeat (first | refine blk_drewN ?_ _ | refine blk_drew ?_ | refine blk_alloc ?_ _)); refine blk_far ?_ NB306_314.out _; (with_reducible repeat (first | refine blk_drewN ?_ _ | refine blk_drew ?_ | refine blk_alloc ?_ _)); exact BK306.out) Try.underlying36 rfl (by kernel_rfl)) rfl ?_
          exact ⟨_, q_e, by (with_reducible repeat (first | apply Kd.R_alloc | apply Kd.R_drewN | apply Kd.R_drew)); exact Kd.R_mono (Kd.R_far (p := ⟨gb306, 1, none⟩) (Kd.R_far (p := ⟨gb306, 0, none⟩) (Kd.R_far (p := ⟨gb314, 1, none⟩) (Kd.R_types (Kd.R_types HO351.out BK314.out (by decide)) BK306.out (by decide)) (fun _ hk => hk.1.2) (.slice Ao141 y349.length co141)) (fun _ hk => hk.2) (.int .i64 t309)) (fun _ hk => hk.2) (.slice Ao141 y349.length co141)) (fun _ hk => trivial), q_I130_0_1, q_B130_0, q_K⟩
         ·rw [if_neg c128] at H
          exact absurd H (by simp)
        ·rw [if_neg c127] at H
         exact absurd H (by simp)
       ·rw [if_neg c126] at H
        exact absurd H (by simp)
      ·rw [if_neg c125] at H
       have c125b0 : (t317 == 5) = false := beq_eq_false_iff_ne.mpr c125
       have c125b1 : (t317 != 5) = true := bne_iff_ne.mpr c125
       by_cases c146 : t317 = 6
       ·rw [if_pos c146] at H
        have c146b0 : (t317 == 6) = true := beq_iff_eq.mpr c146
        have c146b1 : (t317 != 6) = false := bne_eq_false_iff_eq.mpr c146
        clear c146
        by_cases c147 : 1 ≤ (t310.length : Int)
        ·rw [if_pos c147] at H
         have c147b0 := eq_true c147
         have c147b1 := decide_eq_true c147
         clear c147
         obtain ⟨y352, hy352⟩ : ∃ y_ : List (S89), y_ = (t310.take (1 : Int).toNat) := ⟨_, rfl⟩
         replace H : (some (t309, y352, t318)) = some (r1, r2, r3) := q_h hy352 H
         have Ny352 := Aside0.mk hy352
         clear hy352
         simp only [Option.some.injEq, Prod.mk.injEq] at H
         obtain ⟨rfl, rfl, rfl⟩ := H
         go_enter Try.func97, Try.ntmps97
         go_wp2_with (first | ((with_reducible refine gate_dst (N := 2) rfl ?_); refine q_box (N := 2) (cs := #[.int .i64 0, .slice none 0 0]) (t := 36) ?_; intro gb306 hg w148 hbox hb; have n0_ := Aside0.mk (IsS130.below q_I130_0_1 hb); have n1_ := Aside0.mk (KeepBut.trans q_K (KeepBut.of_below hb g none) (.inl rfl)); have n2_ := Aside0.mk (below_step q_B130_0 hb); have n3_ := Aside0.mk (hbox); have n4_ := Aside0.mk ((by rw [hg]; exact (keep_size (w := w) (g := g) (row := none) q_K) : w.heap.size ≤ gb306)); have n5_ := Aside0.mk ((Nat.le_trans HW0.out (by rw [hg]; exact (keep_size (w := w) (g := g) (row := none) q_K) : w.heap.size ≤ gb306) : w0.heap.size ≤ gb306)); have n6_ := Aside0.mk ((by rw [hg]; exact Nat.ne_of_lt (IsS130.lt (show IsS130 w0 _ g s0_0 s0_1 from q_I130_0_1)) : g ≠ gb306)); have n7_ := Aside0.mk ((by rw [hg]; exact Nat.ne_of_gt (IsS130.lt (show IsS130 w0 _ g s0_0 s0_1 from q_I130_0_1)) : gb306 ≠ g)); revert n0_ n1_ n2_ n3_ n4_ n5_ n6_ n7_; clear HI0 HK HB; intro HI0 HK HB BK306 GW306 GE306 NB0_306 NB306_0; clear hb hbox hg) | ((with_reducible refine gate_callee (f := 121) rfl ?_); refine goesLq (some 7) rfl rfl Try.func121 (by kernel_rfl) rfl #[.pointer (some ⟨g, 0, none⟩), .int .i64 9] rfl ?_; (with_reducible refine (spec_l1Next.calls g s0_0 s0_1 9 t307 t308 w0 _ ?side1 ?side2 A2.out).mono ?_); (case side1 => repeat (first | (with_reducible first | exact HI0.out | apply IsS130.alloc | apply IsS130.drewN | apply IsS130.drew | apply IsS130.set_1 | refine IsS130.far ?_ NB0_306.out _) | exact HI0.out)); (case side2 => repeat (first | (with_reducible first | exact HB.out | apply below_alloc | apply pw_below_drewN | apply below_drew1 | refine below_set ?_ (IsS130.ge HI0.out) | refine below_set ?_ GE306.out) | exact HB.out)); rintro e w149 ⟨rfl, hi, hb, hk⟩; refine ⟨_, rfl, ?_⟩; have n0_ := Aside0.mk (KeepBut.blk hk (g' := gb306) (o := .cells #[.int .i64 0, .slice none 0 0] 36 (0, 0)) kq NB306_0.out (by simp)); have n1_ := Aside0.mk (KeepBut.trans q_K hk (.inl rfl)); have n2_ := Aside0.mk (hb); have n3_ := Aside0.mk (hi); revert n0_ n1_ n2_ n3_; clear BK306 HK HB HI0; intro BK306 HK HB HI0; (try clear hb); (try clear hb2); (try clear hk); (try clear hi)) | ((with_reducible refine gate_callee (f := 122) rfl ?_); refine goesLq (some 9) rfl rfl Try.func122 (by kernel_rfl) rfl #[.pointer (some ⟨g, 0, none⟩), .int .i64 (wrap64 (1 + t307))] rfl ?_; (with_reducible refine (spec_l1Draw.calls k g s0_0 t308 (wrap64 (1 + t307)) t309 t310 t313 w0 _ ?side1 ?side2 A3.out).mono ?_); (case side1 => repeat (first | (with_reducible first | exact HI0.out | apply IsS130.alloc | apply IsS130.drewN | apply IsS130.drew | apply IsS130.set_1 | refine IsS130.far ?_ NB0_306.out _) | exact HI0.out)); (case side2 => repeat (first | (with_reducible first | exact HB.out | apply below_alloc | apply pw_below_drewN | apply below_drew1 | refine below_set ?_ (IsS130.ge HI0.out) | refine below_set ?_ GE306.out) | exact HB.out)); rintro e w150 ⟨v311, rfl, ho0, hi, hb, hk⟩; refine ⟨_, rfl, ?_⟩; have n0_ := Aside0.mk (KeepBut.blk hk (g' := gb306) (o := .cells #[.int .i64 0, .slice none 0 0] 36 (0, 0)) kq NB306_0.out (by simp)); have n1_ := Aside0.mk (Kd.R_lower ho0 (keep_size (w := w) (g := g) (row := none) q_K)); have n2_ := Aside0.mk (KeepBut.trans q_K hk (.inl rfl)); have n3_ := Aside0.mk (hb); have n4_ := Aside0.mk (hi); revert n0_ n1_ n2_ n3_ n4_; clear BK306 HK HB HI0; intro BK306 HO312 HK HB HI0; (try clear hb); (try clear hb2); (try clear hk); (try clear hi); (try clear ho0)) | ((with_reducible refine gate_dst (N := 3) rfl ?_); refine q_box (N := 3) (cs := #[.int .i64 0, .slice none 0 0]) (t := 36) ?_; intro gb314 hg w151 hbox hb; have n0_ := Aside0.mk (Kd.R_below (q_r (HO312.out)) hb); have n1_ := Aside0.mk (IsS130.below q_I130_0_1 hb); have n2_ := Aside0.mk (blk_below (q_b BK306.out) hb); have n3_ := Aside0.mk (KeepBut.trans q_K (KeepBut.of_below hb g none) (.inl rfl)); have n4_ := Aside0.mk (below_step q_B130_0 hb); have n5_ := Aside0.mk (hbox); have n6_ := Aside0.mk ((by rw [hg]; exact (keep_size (w := w) (g := g) (row := none) q_K) : w.heap.size ≤ gb314)); have n7_ := Aside0.mk ((Nat.le_trans HW0.out (by rw [hg]; exact (keep_size (w := w) (g := g) (row := none) q_K) : w.heap.size ≤ gb314) : w0.heap.size ≤ gb314)); have n8_ := Aside0.mk ((q_n hg (q_b BK306.out) : gb306 ≠ gb314)); have n9_ := Aside0.mk ((q_m hg (q_b BK306.out) : gb314 ≠ gb306)); have n10_ := Aside0.mk ((by rw [hg]; exact Nat.ne_of_lt (IsS130.lt (show IsS130 w0 _ g s0_0 t313 from q_I130_0_1)) : g ≠ gb314)); have n11_ := Aside0.mk ((by rw [hg]; exact Nat.ne_of_gt (IsS130.lt (show IsS130 w0 _ g s0_0 t313 from q_I130_0_1)) : gb314 ≠ g)); revert n0_ n1_ n2_ n3_ n4_ n5_ n6_ n7_ n8_ n9_ n10_ n11_; clear HO312 HI0 BK306 HK HB; intro HO312 HI0 BK306 HK HB BK314 GW314 GE314 NB306_314 NB314_306 NB0_314 NB314_0; clear hb hbox hg; have hnb152 := NB314_306.out; have hnc152 := NB306_314.out; have hnb153 := NB314_0.out; have hnc153 := NB0_314.out; obtain ⟨hcz154_0, hcz154_1, hfz154_0, hfz154_1⟩ := q_2 BK314.out; obtain ⟨Ao155, co155, eo155⟩ := Kd.R_slice HO312.out; subst eo155) | ((with_reducible refine gate_callee (f := 121) rfl ?_); refine goesLq (some 14) rfl rfl Try.func121 (by kernel_rfl) rfl #[.pointer (some ⟨g, 0, none⟩), .int .i64 (t310.length : Int)] rfl ?_; (with_reducible refine (spec_l1Next.calls g s0_0 t313 (t310.length : Int) t315 t316 w0 _ ?side1 ?side2 A4.out).mono ?_); (case side1 => repeat (first | (with_reducible first | exact HI0.out | apply IsS130.alloc | apply IsS130.drewN | apply IsS130.drew | apply IsS130.set_1 | refine IsS130.far ?_ NB0_306.out _ | refine IsS130.far ?_ NB0_314.out _) | exact HI0.out)); (case side2 => repeat (first | (with_reducible first | exact HB.out | apply below_alloc | apply pw_below_drewN | apply below_drew1 | refine below_set ?_ (IsS130.ge HI0.out) | refine below_set ?_ GE306.out | refine below_set ?_ GE314.out) | exact HB.out)); rintro e w156 ⟨rfl, hi, hb, hk⟩; refine ⟨_, rfl, ?_⟩; have n0_ := Aside0.mk (KeepBut.blk hk (g' := gb306) (o := .cells #[.int .i64 0, .slice none 0 0] 36 (0, 0)) (by (with_reducible repeat (first | refine blk_drewN ?_ _ | refine blk_drew ?_ | refine blk_alloc ?_ _)); refine blk_far ?_ NB306_314.out _; (with_reducible repeat (first | refine blk_drewN ?_ _ | refine blk_drew ?_ | refine blk_alloc ?_ _)); refine blk_far ?_ NB306_314.out _; (with_reducible repeat (first | refine blk_drewN ?_ _ | refine blk_drew ?_ | refine blk_alloc ?_ _)); exact BK306.out) NB306_0.out (by simp)); have n1_ := Aside0.mk (Kd.R_mono (Kd.R_keep (IsS130.apart (show IsS130 w0 _ g s0_0 t313 from q_I130_0_1) (by (with_reducible repeat (first | apply Kd.R_alloc | apply Kd.R_drewN | apply Kd.R_drew)); exact (Kd.R_mono (Kd.R_far (p := ⟨gb314, 1, none⟩) (Kd.R_far (p := ⟨gb314, 0, none⟩) (Kd.R_types HO312.out BK314.out (by decide)) (fun _ hk => hk.2) (.int .i64 t309)) (fun _ hk => hk.2) (.slice Ao155 t310.length co155)) (fun _ h_ => h_.1))) (by decide)) hk (fun _ h => h.2)) (fun _ h => h.1)); have n2_ := Aside0.mk (KeepBut.blk hk (g' := gb314) (o := .cells #[.int .i64 t309, .slice Ao155 t310.length co155] 36 (0, 0)) (by (with_reducible repeat (first | refine blk_drewN ?_ _ | refine blk_drew ?_ | refine blk_alloc ?_ _)); refine blk_put (cs := #[.int .i64 t309, .slice none 0 0]) ?_ 1 _ rfl; (with_reducible repeat (first | refine blk_drewN ?_ _ | refine blk_drew ?_ | refine blk_alloc ?_ _)); refine blk_put (cs := #[.int .i64 0, .slice none 0 0]) ?_ 0 _ rfl; (with_reducible repeat (first | refine blk_drewN ?_ _ | refine blk_drew ?_ | refine blk_alloc ?_ _)); exact BK314.out) NB314_0.out (by simp)); have n3_ := Aside0.mk (KeepBut.trans q_K hk (.inl rfl)); have n4_ := Aside0.mk (hb); have n5_ := Aside0.mk (hi); revert n0_ n1_ n2_ n3_ n4_ n5_; clear BK306 HO312 BK314 HK HB HI0; intro BK306 HO312 BK314 HK HB HI0; (try clear hb); (try clear hb2); (try clear hk); (try clear hi)) | ((with_reducible refine gate_callee (f := 121) rfl ?_); refine goesLq (some 16) rfl rfl Try.func121 (by kernel_rfl) rfl #[.pointer (some ⟨g, 0, none⟩), .int .i64 24] rfl ?_; (with_reducible refine (spec_l1Next.calls g s0_0 t316 24 t317 t318 w0 _ ?side1 ?side2 A5.out).mono ?_); (case side1 => repeat (first | (with_reducible first | exact HI0.out | apply IsS130.alloc | apply IsS130.drewN | apply IsS130.drew | apply IsS130.set_1 | refine IsS130.far ?_ NB0_306.out _ | refine IsS130.far ?_ NB0_314.out _) | exact HI0.out)); (case side2 => repeat (first | (with_reducible first | exact HB.out | apply below_alloc | apply pw_below_drewN | apply below_drew1 | refine below_set ?_ (IsS130.ge HI0.out) | refine below_set ?_ GE306.out | refine below_set ?_ GE314.out) | exact HB.out)); rintro e w157 ⟨rfl, hi, hb, hk⟩; refine ⟨_, rfl, ?_⟩; have n0_ := Aside0.mk (KeepBut.blk hk (g' := gb306) (o := .cells #[.int .i64 0, .slice none 0 0] 36 (0, 0)) kq NB306_0.out (by simp)); have n1_ := Aside0.mk (Kd.R_mono (Kd.R_keep (IsS130.apart (show IsS130 w0 _ g s0_0 t316 from q_I130_0_1) (q_r (HO312.out)) (by decide)) hk (fun _ h => h.2)) (fun _ h => h.1)); have n2_ := Aside0.mk (KeepBut.blk hk (g' := gb314) (o := .cells #[.int .i64 t309, .slice Ao155 t310.length co155] 36 (0, 0)) kq NB314_0.out (by simp)); have n3_ := Aside0.mk (KeepBut.trans q_K hk (.inl rfl)); have n4_ := Aside0.mk (hb); have n5_ := Aside0.mk (hi); revert n0_ n1_ n2_ n3_ n4_ n5_; clear BK306 HO312 BK314 HK HB HI0; intro BK306 HO312 BK314 HK HB HI0; (try clear hb); (try clear hb2); (try clear hk); (try clear hi); obtain ⟨hcz158_0, hcz158_1, hfz158_0, hfz158_1⟩ := q_2 BK314.out; have q159 : (1 : Int) ≤ ((t310.length : Int) : Int) := q_d; obtain ⟨i0159, hi0159, _, hsz159, _⟩ := info_parts info89; have hcut159 := cut_to (P := Try.prog) 34 89 .i64 Try.underlying34 hi0159 Ao155 t310.length co155 1 (by omega) q159 (Kd.R_reads' HO312.out).2.1; have hr159 := Kd.R_take (m := (1 : Int).toNat) HO312.out (by omega); have hy159 : y352.length = (1 : Int).toNat := (by rw [Ny352.out, List.length_take]; omega); rw [← Ny352.out] at hr159; rw [← hy159] at hr159 hcut159; clear hy159 hi0159 hsz159 HO312; have HO354 := Aside0.mk hr159; clear hr159; replace q159 := eq_true q159; have hnb160 := NB306_0.out; have hnc160 := NB0_306.out; obtain ⟨hcz161_0, hcz161_1, hfz161_0, hfz161_1⟩ := q_2 BK306.out))
         refine bodyPost_ret (results_cell_row rfl _ _ gb306 36 #[.int .i64 t309, .slice Ao155 y352.length co155] (0, 0) _ rfl (by (with_reducible repeat (first | refine blk_drewN ?_ _ | refine blk_drew ?_ | refine blk_alloc ?_ _)); refine blk_put (cs := #[.int .i64 t309, .slice none 0 0]) ?_ 1 _ rfl; (with_reducible repeat (first | refine blk_drewN ?_ _ | refine blk_drew ?_ | refine blk_alloc ?_ _)); refine blk_put (cs := #[.int .i64 0, .slice none 0 0]) ?_ 0 _ rfl; (with_reducible repeat (first | refine blk_drewN ?_ _ | refine blk_drew ?_ | refine blk_alloc ?_ _)); refine blk_far ?_ NB306_314.out _; (with_reducible repeat (first | refine blk_drewN ?_ _ | refine blk_drew ?_ | refine blk_alloc ?_ _)); exact BK306.out) Try.underlying36 rfl (by kernel_rfl)) rfl ?_
         exact ⟨_, q_e, by (with_reducible repeat (first | apply Kd.R_alloc | apply Kd.R_drewN | apply Kd.R_drew)); exact Kd.R_mono (Kd.R_far (p := ⟨gb306, 1, none⟩) (Kd.R_far (p := ⟨gb306, 0, none⟩) (Kd.R_far (p := ⟨gb314, 1, none⟩) (Kd.R_types (Kd.R_types HO354.out BK314.out (by decide)) BK306.out (by decide)) (fun _ hk => hk.1.2) (.slice Ao155 y352.length co155)) (fun _ hk => hk.2) (.int .i64 t309)) (fun _ hk => hk.2) (.slice Ao155 y352.length co155)) (fun _ hk => trivial), q_I130_0_1, q_B130_0, q_K⟩
        ·rw [if_neg c147] at H
         exact absurd H (by simp)
       ·rw [if_neg c146] at H
        have c146b0 : (t317 == 6) = false := beq_eq_false_iff_ne.mpr c146
        have c146b1 : (t317 != 6) = true := bne_iff_ne.mpr c146
        by_cases c162 : t317 = 7
        ·rw [if_pos c162] at H
         have c162b0 : (t317 == 7) = true := beq_iff_eq.mpr c162
         have c162b1 : (t317 != 7) = false := bne_eq_false_iff_eq.mpr c162
         clear c162
         by_cases c163 : 9 ≤ 8796093022208
         ·rw [if_pos c163] at H
          have c163b0 := eq_true c163
          have c163b1 := decide_eq_true c163
          clear c163
          obtain ⟨y355, hy355⟩ : ∃ y_ : List (S89), y_ = (List.replicate 9 z89) := ⟨_, rfl⟩
          replace H : (some (t309, y355, t318)) = some (r1, r2, r3) := q_h hy355 H
          have Ny355 := Aside0.mk hy355
          clear hy355
          simp only [Option.some.injEq, Prod.mk.injEq] at H
          obtain ⟨rfl, rfl, rfl⟩ := H
          go_enter Try.func97, Try.ntmps97
          go_wp2_with (first | ((with_reducible refine gate_dst (N := 2) rfl ?_); refine q_box (N := 2) (cs := #[.int .i64 0, .slice none 0 0]) (t := 36) ?_; intro gb306 hg w164 hbox hb; have n0_ := Aside0.mk (IsS130.below q_I130_0_1 hb); have n1_ := Aside0.mk (KeepBut.trans q_K (KeepBut.of_below hb g none) (.inl rfl)); have n2_ := Aside0.mk (below_step q_B130_0 hb); have n3_ := Aside0.mk (hbox); have n4_ := Aside0.mk ((by rw [hg]; exact (keep_size (w := w) (g := g) (row := none) q_K) : w.heap.size ≤ gb306)); have n5_ := Aside0.mk ((Nat.le_trans HW0.out (by rw [hg]; exact (keep_size (w := w) (g := g) (row := none) q_K) : w.heap.size ≤ gb306) : w0.heap.size ≤ gb306)); have n6_ := Aside0.mk ((by rw [hg]; exact Nat.ne_of_lt (IsS130.lt (show IsS130 w0 _ g s0_0 s0_1 from q_I130_0_1)) : g ≠ gb306)); have n7_ := Aside0.mk ((by rw [hg]; exact Nat.ne_of_gt (IsS130.lt (show IsS130 w0 _ g s0_0 s0_1 from q_I130_0_1)) : gb306 ≠ g)); revert n0_ n1_ n2_ n3_ n4_ n5_ n6_ n7_; clear HI0 HK HB; intro HI0 HK HB BK306 GW306 GE306 NB0_306 NB306_0; clear hb hbox hg) | ((with_reducible refine gate_callee (f := 121) rfl ?_); refine goesLq (some 7) rfl rfl Try.func121 (by kernel_rfl) rfl #[.pointer (some ⟨g, 0, none⟩), .int .i64 9] rfl ?_; (with_reducible refine (spec_l1Next.calls g s0_0 s0_1 9 t307 t308 w0 _ ?side1 ?side2 A2.out).mono ?_); (case side1 => repeat (first | (with_reducible first | exact HI0.out | apply IsS130.alloc | apply IsS130.drewN | apply IsS130.drew | apply IsS130.set_1 | refine IsS130.far ?_ NB0_306.out _) | exact HI0.out)); (case side2 => repeat (first | (with_reducible first | exact HB.out | apply below_alloc | apply pw_below_drewN | apply below_drew1 | refine below_set ?_ (IsS130.ge HI0.out) | refine below_set ?_ GE306.out) | exact HB.out)); rintro e w165 ⟨rfl, hi, hb, hk⟩; refine ⟨_, rfl, ?_⟩; have n0_ := Aside0.mk (KeepBut.blk hk (g' := gb306) (o := .cells #[.int .i64 0, .slice none 0 0] 36 (0, 0)) kq NB306_0.out (by simp)); have n1_ := Aside0.mk (KeepBut.trans q_K hk (.inl rfl)); have n2_ := Aside0.mk (hb); have n3_ := Aside0.mk (hi); revert n0_ n1_ n2_ n3_; clear BK306 HK HB HI0; intro BK306 HK HB HI0; (try clear hb); (try clear hb2); (try clear hk); (try clear hi)) | ((with_reducible refine gate_callee (f := 122) rfl ?_); refine goesLq (some 9) rfl rfl Try.func122 (by kernel_rfl) rfl #[.pointer (some ⟨g, 0, none⟩), .int .i64 (wrap64 (1 + t307))] rfl ?_; (with_reducible refine (spec_l1Draw.calls k g s0_0 t308 (wrap64 (1 + t307)) t309 t310 t313 w0 _ ?side1 ?side2 A3.out).mono ?_); (case side1 => repeat (first | (with_reducible first | exact HI0.out | apply IsS130.alloc | apply IsS130.drewN | apply IsS130.drew | apply IsS130.set_1 | refine IsS130.far ?_ NB0_306.out _) | exact HI0.out)); (case side2 => repeat (first | (with_reducible first | exact HB.out | apply below_alloc | apply pw_below_drewN | apply below_drew1 | refine below_set ?_ (IsS130.ge HI0.out) | refine below_set ?_ GE306.out) | exact HB.out)); rintro e w166 ⟨v311, rfl, ho0, hi, hb, hk⟩; refine ⟨_, rfl, ?_⟩; have n0_ := Aside0.mk (KeepBut.blk hk (g' := gb306) (o := .cells #[.int .i64 0, .slice none 0 0] 36 (0, 0)) kq NB306_0.out (by simp)); have n1_ := Aside0.mk (Kd.R_lower ho0 (keep_size (w := w) (g := g) (row := none) q_K)); have n2_ := Aside0.mk (KeepBut.trans q_K hk (.inl rfl)); have n3_ := Aside0.mk (hb); have n4_ := Aside0.mk (hi); revert n0_ n1_ n2_ n3_ n4_; clear BK306 HK HB HI0; intro BK306 HO312 HK HB HI0; (try clear hb); (try clear hb2); (try clear hk); (try clear hi); (try clear ho0)) | ((with_reducible refine gate_dst (N := 3) rfl ?_); refine q_box (N := 3) (cs := #[.int .i64 0, .slice none 0 0]) (t := 36) ?_; intro gb314 hg w167 hbox hb; have n0_ := Aside0.mk (Kd.R_below (q_r (HO312.out)) hb); have n1_ := Aside0.mk (IsS130.below q_I130_0_1 hb); have n2_ := Aside0.mk (blk_below (q_b BK306.out) hb); have n3_ := Aside0.mk (KeepBut.trans q_K (KeepBut.of_below hb g none) (.inl rfl)); have n4_ := Aside0.mk (below_step q_B130_0 hb); have n5_ := Aside0.mk (hbox); have n6_ := Aside0.mk ((by rw [hg]; exact (keep_size (w := w) (g := g) (row := none) q_K) : w.heap.size ≤ gb314)); have n7_ := Aside0.mk ((Nat.le_trans HW0.out (by rw [hg]; exact (keep_size (w := w) (g := g) (row := none) q_K) : w.heap.size ≤ gb314) : w0.heap.size ≤ gb314)); have n8_ := Aside0.mk ((q_n hg (q_b BK306.out) : gb306 ≠ gb314)); have n9_ := Aside0.mk ((q_m hg (q_b BK306.out) : gb314 ≠ gb306)); have n10_ := Aside0.mk ((by rw [hg]; exact Nat.ne_of_lt (IsS130.lt (show IsS130 w0 _ g s0_0 t313 from q_I130_0_1)) : g ≠ gb314)); have n11_ := Aside0.mk ((by rw [hg]; exact Nat.ne_of_gt (IsS130.lt (show IsS130 w0 _ g s0_0 t313 from q_I130_0_1)) : gb314 ≠ g)); revert n0_ n1_ n2_ n3_ n4_ n5_ n6_ n7_ n8_ n9_ n10_ n11_; clear HO312 HI0 BK306 HK HB; intro HO312 HI0 BK306 HK HB BK314 GW314 GE314 NB306_314 NB314_306 NB0_314 NB314_0; clear hb hbox hg; have hnb168 := NB314_306.out; have hnc168 := NB306_314.out; have hnb169 := NB314_0.out; have hnc169 := NB0_314.out; obtain ⟨hcz170_0, hcz170_1, hfz170_0, hfz170_1⟩ := q_2 BK314.out; obtain ⟨Ao171, co171, eo171⟩ := Kd.R_slice HO312.out; subst eo171) | ((with_reducible refine gate_callee (f := 121) rfl ?_); refine goesLq (some 14) rfl rfl Try.func121 (by kernel_rfl) rfl #[.pointer (some ⟨g, 0, none⟩), .int .i64 (t310.length : Int)] rfl ?_; (with_reducible refine (spec_l1Next.calls g s0_0 t313 (t310.length : Int) t315 t316 w0 _ ?side1 ?side2 A4.out).mono ?_); (case side1 => repeat (first | (with_reducible first | exact HI0.out | apply IsS130.alloc | apply IsS130.drewN | apply IsS130.drew | apply IsS130.set_1 | refine IsS130.far ?_ NB0_306.out _ | refine IsS130.far ?_ NB0_314.out _) | exact HI0.out)); (case side2 => repeat (first | (with_reducible first | exact HB.out | apply below_alloc | apply pw_below_drewN | apply below_drew1 | refine below_set ?_ (IsS130.ge HI0.out) | refine below_set ?_ GE306.out | refine below_set ?_ GE314.out) | exact HB.out)); rintro e w172 ⟨rfl, hi, hb, hk⟩; refine ⟨_, rfl, ?_⟩; have n0_ := Aside0.mk (KeepBut.blk hk (g' := gb306) (o := .cells #[.int .i64 0, .slice none 0 0] 36 (0, 0)) (by (with_reducible repeat (first | refine blk_drewN ?_ _ | refine blk_drew ?_ | refine blk_alloc ?_ _)); refine blk_far ?_ NB306_314.out _; (with_reducible repeat (first | refine blk_drewN ?_ _ | refine blk_drew ?_ | refine blk_alloc ?_ _)); refine blk_far ?_ NB306_314.out _; (with_reducible repeat (first | refine blk_drewN ?_ _ | refine blk_drew ?_ | refine blk_alloc ?_ _)); exact BK306.out) NB306_0.out (by simp)); have n1_ := Aside0.mk (Kd.R_mono (Kd.R_keep (IsS130.apart (show IsS130 w0 _ g s0_0 t313 from q_I130_0_1) (by (with_reducible repeat (first | apply Kd.R_alloc | apply Kd.R_drewN | apply Kd.R_drew)); exact (Kd.R_mono (Kd.R_far (p := ⟨gb314, 1, none⟩) (Kd.R_far (p := ⟨gb314, 0, none⟩) (Kd.R_types HO312.out BK314.out (by decide)) (fun _ hk => hk.2) (.int .i64 t309)) (fun _ hk => hk.2) (.slice Ao171 t310.length co171)) (fun _ h_ => h_.1))) (by decide)) hk (fun _ h => h.2)) (fun _ h => h.1)); have n2_ := Aside0.mk (KeepBut.blk hk (g' := gb314) (o := .cells #[.int .i64 t309, .slice Ao171 t310.length co171] 36 (0, 0)) (by (with_reducible repeat (first | refine blk_drewN ?_ _ | refine blk_drew ?_ | refine blk_alloc ?_ _)); refine blk_put (cs := #[.int .i64 t309, .slice none 0 0]) ?_ 1 _ rfl; (with_reducible repeat (first | refine blk_drewN ?_ _ | refine blk_drew ?_ | refine blk_alloc ?_ _)); refine blk_put (cs := #[.int .i64 0, .slice none 0 0]) ?_ 0 _ rfl; (with_reducible repeat (first | refine blk_drewN ?_ _ | refine blk_drew ?_ | refine blk_alloc ?_ _)); exact BK314.out) NB314_0.out (by simp)); have n3_ := Aside0.mk (KeepBut.trans q_K hk (.inl rfl)); have n4_ := Aside0.mk (hb); have n5_ := Aside0.mk (hi); revert n0_ n1_ n2_ n3_ n4_ n5_; clear BK306 HO312 BK314 HK HB HI0; intro BK306 HO312 BK314 HK HB HI0; (try clear hb); (try clear hb2); (try clear hk); (try clear hi)) | ((with_reducible refine gate_callee (f := 121) rfl ?_); refine goesLq (some 16) rfl rfl Try.func121 (by kernel_rfl) rfl #[.pointer (some ⟨g, 0, none⟩), .int .i64 24] rfl ?_; (with_reducible refine (spec_l1Next.calls g s0_0 t316 24 t317 t318 w0 _ ?side1 ?side2 A5.out).mono ?_); (case side1 => repeat (first | (with_reducible first | exact HI0.out | apply IsS130.alloc | apply IsS130.drewN | apply IsS130.drew | apply IsS130.set_1 | refine IsS130.far ?_ NB0_306.out _ | refine IsS130.far ?_ NB0_314.out _) | exact HI0.out)); (case side2 => repeat (first | (with_reducible first | exact HB.out | apply below_alloc | apply pw_below_drewN | apply below_drew1 | refine below_set ?_ (IsS130.ge HI0.out) | refine below_set ?_ GE306.out | refine below_set ?_ GE314.out) | exact HB.out)); rintro e w173 ⟨rfl, hi, hb, hk⟩; refine ⟨_, rfl, ?_⟩; have n0_ := Aside0.mk (KeepBut.blk hk (g' := gb306) (o := .cells #[.int .i64 0, .slice none 0 0] 36 (0, 0)) kq NB306_0.out (by simp)); have n1_ := Aside0.mk (Kd.R_mono (Kd.R_keep (IsS130.apart (show IsS130 w0 _ g s0_0 t316 from q_I130_0_1) (q_r (HO312.out)) (by decide)) hk (fun _ h => h.2)) (fun _ h => h.1)); have n2_ := Aside0.mk (KeepBut.blk hk (g' := gb314) (o := .cells #[.int .i64 t309, .slice Ao171 t310.length co171] 36 (0, 0)) kq NB314_0.out (by simp)); have n3_ := Aside0.mk (KeepBut.trans q_K hk (.inl rfl)); have n4_ := Aside0.mk (hb); have n5_ := Aside0.mk (hi); revert n0_ n1_ n2_ n3_ n4_ n5_; clear BK306 HO312 BK314 HK HB HI0; intro BK306 HO312 BK314 HK HB HI0; (try clear hb); (try clear hb2); (try clear hk); (try clear hi)) | ((with_reducible refine gate_dst (N := 83) rfl ?_); refine Kd.R_make k89 _ 89 rfl (N := 83) rfl 34 _ _ rfl 9 rfl rfl Try.underlying34 (.agg #[(.int .i64 0), (.int .i64 0), (.int .i64 0), (.int .i64 0)]) 32 info89 rfl (by decide) (by omega) z89 (ok := fun _ => True) (okp := fun _ => True) (k89_mkM _ _ _ z89 ) (fun _ hk => hk) trivial (by omega) (by omega) (Below.refl _ _) (Nat.le_refl _) ?_; intro v356 w174 ho175 hb hg_ hnew_; clear hg_ hnew_; (first | rw [← Ny355.out] at ho175 | (simp only [Int.reduceToNat] at ho175; rw [← Ny355.out] at ho175)); have n0_ := Aside0.mk (Kd.R_elder' (q_r (HO312.out)) (Kd.R_base ho175) hb); have n1_ := Aside0.mk (Kd.R_lower (Kd.R_new' ho175 (Kd.R_lt (q_r (HO312.out)))) (keep_size (w := w) (g := g) (row := none) q_K)); have n2_ := Aside0.mk (IsS130.below q_I130_0_1 hb); have n3_ := Aside0.mk (blk_below (q_b BK306.out) hb); have n4_ := Aside0.mk (blk_below (q_b BK314.out) hb); have n5_ := Aside0.mk (KeepBut.trans q_K (KeepBut.of_below hb g none) (.inl rfl)); have n6_ := Aside0.mk (below_step q_B130_0 hb); revert n0_ n1_ n2_ n3_ n4_ n5_ n6_; clear HO312 HI0 BK306 BK314 HK HB; intro HO312 HO357 HI0 BK306 BK314 HK HB; clear hb ho175; obtain ⟨Ao176, co176, eo176⟩ := Kd.R_slice HO357.out; subst eo176; obtain ⟨hcz177_0, hcz177_1, hfz177_0, hfz177_1⟩ := q_2 BK314.out; have hnb178 := NB306_0.out; have hnc178 := NB0_306.out; obtain ⟨hcz179_0, hcz179_1, hfz179_0, hfz179_1⟩ := q_2 BK306.out))
          refine bodyPost_ret (results_cell_row rfl _ _ gb306 36 #[.int .i64 t309, .slice Ao176 y355.length co176] (0, 0) _ rfl (by (with_reducible repeat (first | refine blk_drewN ?_ _ | refine blk_drew ?_ | refine blk_alloc ?_ _)); refine blk_put (cs := #[.int .i64 t309, .slice none 0 0]) ?_ 1 _ rfl; (with_reducible repeat (first | refine blk_drewN ?_ _ | refine blk_drew ?_ | refine blk_alloc ?_ _)); refine blk_put (cs := #[.int .i64 0, .slice none 0 0]) ?_ 0 _ rfl; (with_reducible repeat (first | refine blk_drewN ?_ _ | refine blk_drew ?_ | refine blk_alloc ?_ _)); refine blk_far ?_ NB306_314.out _; (with_reducible repeat (first | refine blk_drewN ?_ _ | refine blk_drew ?_ | refine blk_alloc ?_ _)); exact BK306.out) Try.underlying36 rfl (by kernel_rfl)) rfl ?_
          exact ⟨_, q_e, by (with_reducible repeat (first | apply Kd.R_alloc | apply Kd.R_drewN | apply Kd.R_drew)); exact Kd.R_mono (Kd.R_far (p := ⟨gb306, 1, none⟩) (Kd.R_far (p := ⟨gb306, 0, none⟩) (Kd.R_far (p := ⟨gb314, 1, none⟩) (Kd.R_types (Kd.R_types HO357.out BK314.out (by decide)) BK306.out (by decide)) (fun _ hk => hk.1.2) (.slice Ao176 y355.length co176)) (fun _ hk => hk.2) (.int .i64 t309)) (fun _ hk => hk.2) (.slice Ao176 y355.length co176)) (fun _ hk => trivial), q_I130_0_1, q_B130_0, q_K⟩
         ·rw [if_neg c163] at H
          exact absurd H (by simp)
        ·rw [if_neg c162] at H
         have c162b0 : (t317 == 7) = false := beq_eq_false_iff_ne.mpr c162
         have c162b1 : (t317 != 7) = true := bne_iff_ne.mpr c162
         simp only [Option.some.injEq, Prod.mk.injEq] at H
         obtain ⟨rfl, rfl, rfl⟩ := H
         go_enter Try.func97, Try.ntmps97
         go_wp2_with (first | ((with_reducible refine gate_dst (N := 2) rfl ?_); refine q_box (N := 2) (cs := #[.int .i64 0, .slice none 0 0]) (t := 36) ?_; intro gb306 hg w180 hbox hb; have n0_ := Aside0.mk (IsS130.below q_I130_0_1 hb); have n1_ := Aside0.mk (KeepBut.trans q_K (KeepBut.of_below hb g none) (.inl rfl)); have n2_ := Aside0.mk (below_step q_B130_0 hb); have n3_ := Aside0.mk (hbox); have n4_ := Aside0.mk ((by rw [hg]; exact (keep_size (w := w) (g := g) (row := none) q_K) : w.heap.size ≤ gb306)); have n5_ := Aside0.mk ((Nat.le_trans HW0.out (by rw [hg]; exact (keep_size (w := w) (g := g) (row := none) q_K) : w.heap.size ≤ gb306) : w0.heap.size ≤ gb306)); have n6_ := Aside0.mk ((by rw [hg]; exact Nat.ne_of_lt (IsS130.lt (show IsS130 w0 _ g s0_0 s0_1 from q_I130_0_1)) : g ≠ gb306)); have n7_ := Aside0.mk ((by rw [hg]; exact Nat.ne_of_gt (IsS130.lt (show IsS130 w0 _ g s0_0 s0_1 from q_I130_0_1)) : gb306 ≠ g)); revert n0_ n1_ n2_ n3_ n4_ n5_ n6_ n7_; clear HI0 HK HB; intro HI0 HK HB BK306 GW306 GE306 NB0_306 NB306_0; clear hb hbox hg) | ((with_reducible refine gate_callee (f := 121) rfl ?_); refine goesLq (some 7) rfl rfl Try.func121 (by kernel_rfl) rfl #[.pointer (some ⟨g, 0, none⟩), .int .i64 9] rfl ?_; (with_reducible refine (spec_l1Next.calls g s0_0 s0_1 9 t307 t308 w0 _ ?side1 ?side2 A2.out).mono ?_); (case side1 => repeat (first | (with_reducible first | exact HI0.out | apply IsS130.alloc | apply IsS130.drewN | apply IsS130.drew | apply IsS130.set_1 | refine IsS130.far ?_ NB0_306.out _) | exact HI0.out)); (case side2 => repeat (first | (with_reducible first | exact HB.out | apply below_alloc | apply pw_below_drewN | apply below_drew1 | refine below_set ?_ (IsS130.ge HI0.out) | refine below_set ?_ GE306.out) | exact HB.out)); rintro e w181 ⟨rfl, hi, hb, hk⟩; refine ⟨_, rfl, ?_⟩; have n0_ := Aside0.mk (KeepBut.blk hk (g' := gb306) (o := .cells #[.int .i64 0, .slice none 0 0] 36 (0, 0)) kq NB306_0.out (by simp)); have n1_ := Aside0.mk (KeepBut.trans q_K hk (.inl rfl)); have n2_ := Aside0.mk (hb); have n3_ := Aside0.mk (hi); revert n0_ n1_ n2_ n3_; clear BK306 HK HB HI0; intro BK306 HK HB HI0; (try clear hb); (try clear hb2); (try clear hk); (try clear hi)) | ((with_reducible refine gate_callee (f := 122) rfl ?_); refine goesLq (some 9) rfl rfl Try.func122 (by kernel_rfl) rfl #[.pointer (some ⟨g, 0, none⟩), .int .i64 (wrap64 (1 + t307))] rfl ?_; (with_reducible refine (spec_l1Draw.calls k g s0_0 t308 (wrap64 (1 + t307)) t309 t310 t313 w0 _ ?side1 ?side2 A3.out).mono ?_); (case side1 => repeat (first | (with_reducible first | exact HI0.out | apply IsS130.alloc | apply IsS130.drewN | apply IsS130.drew | apply IsS130.set_1 | refine IsS130.far ?_ NB0_306.out _) | exact HI0.out)); (case side2 => repeat (first | (with_reducible first | exact HB.out | apply below_alloc | apply pw_below_drewN | apply below_drew1 | refine below_set ?_ (IsS130.ge HI0.out) | refine below_set ?_ GE306.out) | exact HB.out)); rintro e w182 ⟨v311, rfl, ho0, hi, hb, hk⟩; refine ⟨_, rfl, ?_⟩; have n0_ := Aside0.mk (KeepBut.blk hk (g' := gb306) (o := .cells #[.int .i64 0, .slice none 0 0] 36 (0, 0)) kq NB306_0.out (by simp)); have n1_ := Aside0.mk (Kd.R_lower ho0 (keep_size (w := w) (g := g) (row := none) q_K)); have n2_ := Aside0.mk (KeepBut.trans q_K hk (.inl rfl)); have n3_ := Aside0.mk (hb); have n4_ := Aside0.mk (hi); revert n0_ n1_ n2_ n3_ n4_; clear BK306 HK HB HI0; intro BK306 HO312 HK HB HI0; (try clear hb); (try clear hb2); (try clear hk); (try clear hi); (try clear ho0)) | ((with_reducible refine gate_dst (N := 3) rfl ?_); refine q_box (N := 3) (cs := #[.int .i64 0, .slice none 0 0]) (t := 36) ?_; intro gb314 hg w183 hbox hb; have n0_ := Aside0.mk (Kd.R_below (q_r (HO312.out)) hb); have n1_ := Aside0.mk (IsS130.below q_I130_0_1 hb); have n2_ := Aside0.mk (blk_below (q_b BK306.out) hb); have n3_ := Aside0.mk (KeepBut.trans q_K (KeepBut.of_below hb g none) (.inl rfl)); have n4_ := Aside0.mk (below_step q_B130_0 hb); have n5_ := Aside0.mk (hbox); have n6_ := Aside0.mk ((by rw [hg]; exact (keep_size (w := w) (g := g) (row := none) q_K) : w.heap.size ≤ gb314)); have n7_ := Aside0.mk ((Nat.le_trans HW0.out (by rw [hg]; exact (keep_size (w := w) (g := g) (row := none) q_K) : w.heap.size ≤ gb314) : w0.heap.size ≤ gb314)); have n8_ := Aside0.mk ((q_n hg (q_b BK306.out) : gb306 ≠ gb314)); have n9_ := Aside0.mk ((q_m hg (q_b BK306.out) : gb314 ≠ gb306)); have n10_ := Aside0.mk ((by rw [hg]; exact Nat.ne_of_lt (IsS130.lt (show IsS130 w0 _ g s0_0 t313 from q_I130_0_1)) : g ≠ gb314)); have n11_ := Aside0.mk ((by rw [hg]; exact Nat.ne_of_gt (IsS130.lt (show IsS130 w0 _ g s0_0 t313 from q_I130_0_1)) : gb314 ≠ g)); revert n0_ n1_ n2_ n3_ n4_ n5_ n6_ n7_ n8_ n9_ n10_ n11_; clear HO312 HI0 BK306 HK HB; intro HO312 HI0 BK306 HK HB BK314 GW314 GE314 NB306_314 NB314_306 NB0_314 NB314_0; clear hb hbox hg; have hnb184 := NB314_306.out; have hnc184 := NB306_314.out; have hnb185 := NB314_0.out; have hnc185 := NB0_314.out; obtain ⟨hcz186_0, hcz186_1, hfz186_0, hfz186_1⟩ := q_2 BK314.out; obtain ⟨Ao187, co187, eo187⟩ := Kd.R_slice HO312.out; subst eo187) | ((with_reducible refine gate_callee (f := 121) rfl ?_); refine goesLq (some 14) rfl rfl Try.func121 (by kernel_rfl) rfl #[.pointer (some ⟨g, 0, none⟩), .int .i64 (t310.length : Int)] rfl ?_; (with_reducible refine (spec_l1Next.calls g s0_0 t313 (t310.length : Int) t315 t316 w0 _ ?side1 ?side2 A4.out).mono ?_); (case side1 => repeat (first | (with_reducible first | exact HI0.out | apply IsS130.alloc | apply IsS130.drewN | apply IsS130.drew | apply IsS130.set_1 | refine IsS130.far ?_ NB0_306.out _ | refine IsS130.far ?_ NB0_314.out _) | exact HI0.out)); (case side2 => repeat (first | (with_reducible first | exact HB.out | apply below_alloc | apply pw_below_drewN | apply below_drew1 | refine below_set ?_ (IsS130.ge HI0.out) | refine below_set ?_ GE306.out | refine below_set ?_ GE314.out) | exact HB.out)); rintro e w188 ⟨rfl, hi, hb, hk⟩; refine ⟨_, rfl, ?_⟩; have n0_ := Aside0.mk (KeepBut.blk hk (g' := gb306) (o := .cells #[.int .i64 0, .slice none 0 0] 36 (0, 0)) (by (with_reducible repeat (first | refine blk_drewN ?_ _ | refine blk_drew ?_ | refine blk_alloc ?_ _)); refine blk_far ?_ NB306_314.out _; (with_reducible repeat (first | refine blk_drewN ?_ _ | refine blk_drew ?_ | refine blk_alloc ?_ _)); refine blk_far ?_ NB306_314.out _; (with_reducible repeat (first | refine blk_drewN ?_ _ | refine blk_drew ?_ | refine blk_alloc ?_ _)); exact BK306.out) NB306_0.out (by simp)); have n1_ := Aside0.mk (Kd.R_mono (Kd.R_keep (IsS130.apart (show IsS130 w0 _ g s0_0 t313 from q_I130_0_1) (by (with_reducible repeat (first | apply Kd.R_alloc | apply Kd.R_drewN | apply Kd.R_drew)); exact (Kd.R_mono (Kd.R_far (p := ⟨gb314, 1, none⟩) (Kd.R_far (p := ⟨gb314, 0, none⟩) (Kd.R_types HO312.out BK314.out (by decide)) (fun _ hk => hk.2) (.int .i64 t309)) (fun _ hk => hk.2) (.slice Ao187 t310.length co187)) (fun _ h_ => h_.1))) (by decide)) hk (fun _ h => h.2)) (fun _ h => h.1)); have n2_ := Aside0.mk (KeepBut.blk hk (g' := gb314) (o := .cells #[.int .i64 t309, .slice Ao187 t310.length co187] 36 (0, 0)) (by (with_reducible repeat (first | refine blk_drewN ?_ _ | refine blk_drew ?_ | refine blk_alloc ?_ _)); refine blk_put (cs := #[.int .i64 t309, .slice none 0 0]) ?_ 1 _ rfl; (with_reducible repeat (first | refine blk_drewN ?_ _ | refine blk_drew ?_ | refine blk_alloc ?_ _)); refine blk_put (cs := #[.int .i64 0, .slice none 0 0]) ?_ 0 _ rfl; (with_reducible repeat (first | refine blk_drewN ?_ _ | refine blk_drew ?_ | refine blk_alloc ?_ _)); exact BK314.out) NB314_0.out (by simp)); have n3_ := Aside0.mk (KeepBut.trans q_K hk (.inl rfl)); have n4_ := Aside0.mk (hb); have n5_ := Aside0.mk (hi); revert n0_ n1_ n2_ n3_ n4_ n5_; clear BK306 HO312 BK314 HK HB HI0; intro BK306 HO312 BK314 HK HB HI0; (try clear hb); (try clear hb2); (try clear hk); (try clear hi)) | ((with_reducible refine gate_callee (f := 121) rfl ?_); refine goesLq (some 16) rfl rfl Try.func121 (by kernel_rfl) rfl #[.pointer (some ⟨g, 0, none⟩), .int .i64 24] rfl ?_; (with_reducible refine (spec_l1Next.calls g s0_0 t316 24 t317 t318 w0 _ ?side1 ?side2 A5.out).mono ?_); (case side1 => repeat (first | (with_reducible first | exact HI0.out | apply IsS130.alloc | apply IsS130.drewN | apply IsS130.drew | apply IsS130.set_1 | refine IsS130.far ?_ NB0_306.out _ | refine IsS130.far ?_ NB0_314.out _) | exact HI0.out)); (case side2 => repeat (first | (with_reducible first | exact HB.out | apply below_alloc | apply pw_below_drewN | apply below_drew1 | refine below_set ?_ (IsS130.ge HI0.out) | refine below_set ?_ GE306.out | refine below_set ?_ GE314.out) | exact HB.out)); rintro e w189 ⟨rfl, hi, hb, hk⟩; refine ⟨_, rfl, ?_⟩; have n0_ := Aside0.mk (KeepBut.blk hk (g' := gb306) (o := .cells #[.int .i64 0, .slice none 0 0] 36 (0, 0)) kq NB306_0.out (by simp)); have n1_ := Aside0.mk (Kd.R_mono (Kd.R_keep (IsS130.apart (show IsS130 w0 _ g s0_0 t316 from q_I130_0_1) (q_r (HO312.out)) (by decide)) hk (fun _ h => h.2)) (fun _ h => h.1)); have n2_ := Aside0.mk (KeepBut.blk hk (g' := gb314) (o := .cells #[.int .i64 t309, .slice Ao187 t310.length co187] 36 (0, 0)) kq NB314_0.out (by simp)); have n3_ := Aside0.mk (KeepBut.trans q_K hk (.inl rfl)); have n4_ := Aside0.mk (hb); have n5_ := Aside0.mk (hi); revert n0_ n1_ n2_ n3_ n4_ n5_; clear BK306 HO312 BK314 HK HB HI0; intro BK306 HO312 BK314 HK HB HI0; (try clear hb); (try clear hb2); (try clear hk); (try clear hi); obtain ⟨hcz190_0, hcz190_1, hfz190_0, hfz190_1⟩ := q_2 BK314.out; have hnb191 := NB306_0.out; have hnc191 := NB0_306.out; obtain ⟨hcz192_0, hcz192_1, hfz192_0, hfz192_1⟩ := q_2 BK306.out))
         refine bodyPost_ret (results_cell_row rfl _ _ gb306 36 #[.int .i64 t309, .slice Ao187 t310.length co187] (0, 0) _ rfl (by (with_reducible repeat (first | refine blk_drewN ?_ _ | refine blk_drew ?_ | refine blk_alloc ?_ _)); refine blk_put (cs := #[.int .i64 t309, .slice none 0 0]) ?_ 1 _ rfl; (with_reducible repeat (first | refine blk_drewN ?_ _ | refine blk_drew ?_ | refine blk_alloc ?_ _)); refine blk_put (cs := #[.int .i64 0, .slice none 0 0]) ?_ 0 _ rfl; (with_reducible repeat (first | refine blk_drewN ?_ _ | refine blk_drew ?_ | refine blk_alloc ?_ _)); exact BK306.out) Try.underlying36 rfl (by kernel_rfl)) rfl ?_
         exact ⟨_, q_e, by (with_reducible repeat (first | apply Kd.R_alloc | apply Kd.R_drewN | apply Kd.R_drew)); exact Kd.R_mono (Kd.R_far (p := ⟨gb306, 1, none⟩) (Kd.R_far (p := ⟨gb306, 0, none⟩) (Kd.R_types HO312.out BK306.out (by decide)) (fun _ hk => hk.2) (.int .i64 t309)) (fun _ hk => hk.2) (.slice Ao187 t310.length co187)) (fun _ hk => trivial), q_I130_0_1, q_B130_0, q_K⟩

end Go.Proofs.Ytooiamkaipdmpaa.PFnBytes
