/- Functions that a law reaches, as plain Lean functions, with the proof that the machine comes to their answers. No conditions. -/
import Derived.Test.YtdhlcnlcpjlliaaPFnTablesx0
import Derived.Test.YtdhlcnlcpjlliaaPFnTablesx2
import Derived.Test.YtdhlcnlcpjlliaaPFnTablesx7
import Derived.Test.YtdhlcnlcpjlliaaPFnTablesx8
namespace Go.Proofs.Ytdhlcnlcpjlliaa.PFnTables
open Go.RowKit Go.Proofs.YtdhlcnlcpjlliaaW.PrintWords Go.Proofs.YtdhlcnlcpjlliaaW.PrintLast Go.Proofs.YtdhlcnlcpjlliaaW.PrintMore
attribute [local go_sem] max2_int min2_int max_two min_two max_three min_three max_four min_four   -- for this text's walks alone
set_option linter.unusedVariables false
set_option linter.unusedSimpArgs false
set_option maxHeartbeats 8000000
set_option maxRecDepth 100000

/-! ### slices_symMergeCmpFunc_impl_Row: function 138 -/
mutual
def slices_symMergeCmpFunc_impl_Row.l0 : Nat → List (S49) → Int → Int → Int → Option ((List (S49)))
  | 0, _, _, _, _ => none
  | k + 1, x0, x1, x10, x11 => if x10 < x11 then (if 0 ≤ (wrap64 ((IntKind.u64.wrap (wrap64 (x10 + x11))) / 2)) then (if (wrap64 ((IntKind.u64.wrap (wrap64 (x10 + x11))) / 2)) < (x0.length : Int) then (if 0 ≤ x1 then (if x1 < (x0.length : Int) then ((impl_compareRows.f k ((rd_T49 x0 (wrap64 ((IntKind.u64.wrap (wrap64 (x10 + x11))) / 2))).f0) ((rd_T49 x0 (wrap64 ((IntKind.u64.wrap (wrap64 (x10 + x11))) / 2))).f1) ((rd_T49 x0 (wrap64 ((IntKind.u64.wrap (wrap64 (x10 + x11))) / 2))).f2) ((rd_T49 x0 (wrap64 ((IntKind.u64.wrap (wrap64 (x10 + x11))) / 2))).f3) ((rd_T49 x0 x1).f0) ((rd_T49 x0 x1).f1) ((rd_T49 x0 x1).f2) ((rd_T49 x0 x1).f3)).bind fun t298 => (if t298 < 0 then (slices_symMergeCmpFunc_impl_Row.l0 k x0 x1 (wrap64 ((wrap64 ((IntKind.u64.wrap (wrap64 (x10 + x11))) / 2)) + 1)) x11) else (slices_symMergeCmpFunc_impl_Row.l0 k x0 x1 x10 (wrap64 ((IntKind.u64.wrap (wrap64 (x10 + x11))) / 2))))) else (none)) else (none)) else (none)) else (none)) else (slices_symMergeCmpFunc_impl_Row.l1 k x0 x10 x1)
def slices_symMergeCmpFunc_impl_Row.l1 : Nat → List (S49) → Int → Int → Option ((List (S49)))
  | 0, _, _, _ => none
  | k + 1, x0, x10, x13 => if x13 < (wrap64 (x10 - 1)) then (if 0 ≤ (wrap64 (x13 + 1)) then (if (wrap64 (x13 + 1)) < (x0.length : Int) then (if 0 ≤ x13 then (if x13 < (x0.length : Int) then (slices_symMergeCmpFunc_impl_Row.l1 k ((x0.set (x13 : Int).toNat (⟨(rd_T49 x0 (wrap64 (x13 + 1))).f0, (rd_T49 x0 (wrap64 (x13 + 1))).f1, (rd_T49 x0 (wrap64 (x13 + 1))).f2, (rd_T49 x0 (wrap64 (x13 + 1))).f3⟩ : S49)).set ((wrap64 (x13 + 1)) : Int).toNat (⟨(rd_T49 x0 x13).f0, (rd_T49 x0 x13).f1, (rd_T49 x0 x13).f2, (rd_T49 x0 x13).f3⟩ : S49)) x10 (wrap64 (x13 + 1))) else (none)) else (none)) else (none)) else (none)) else (some x0)
def slices_symMergeCmpFunc_impl_Row.l2 : Nat → List (S49) → Int → Int → Int → Option ((List (S49)))
  | 0, _, _, _, _ => none
  | k + 1, x0, x2, x14, x15 => if x14 < x15 then (if 0 ≤ x2 then (if x2 < (x0.length : Int) then (if 0 ≤ (wrap64 ((IntKind.u64.wrap (wrap64 (x14 + x15))) / 2)) then (if (wrap64 ((IntKind.u64.wrap (wrap64 (x14 + x15))) / 2)) < (x0.length : Int) then ((impl_compareRows.f k ((rd_T49 x0 x2).f0) ((rd_T49 x0 x2).f1) ((rd_T49 x0 x2).f2) ((rd_T49 x0 x2).f3) ((rd_T49 x0 (wrap64 ((IntKind.u64.wrap (wrap64 (x14 + x15))) / 2))).f0) ((rd_T49 x0 (wrap64 ((IntKind.u64.wrap (wrap64 (x14 + x15))) / 2))).f1) ((rd_T49 x0 (wrap64 ((IntKind.u64.wrap (wrap64 (x14 + x15))) / 2))).f2) ((rd_T49 x0 (wrap64 ((IntKind.u64.wrap (wrap64 (x14 + x15))) / 2))).f3)).bind fun t305 => (if t305 < 0 then (slices_symMergeCmpFunc_impl_Row.l2 k x0 x2 x14 (wrap64 ((IntKind.u64.wrap (wrap64 (x14 + x15))) / 2))) else (slices_symMergeCmpFunc_impl_Row.l2 k x0 x2 (wrap64 ((wrap64 ((IntKind.u64.wrap (wrap64 (x14 + x15))) / 2)) + 1)) x15))) else (none)) else (none)) else (none)) else (none)) else (slices_symMergeCmpFunc_impl_Row.l3 k x0 x14 x2)
def slices_symMergeCmpFunc_impl_Row.l3 : Nat → List (S49) → Int → Int → Option ((List (S49)))
  | 0, _, _, _ => none
  | k + 1, x0, x14, x17 => if x17 > x14 then (if 0 ≤ (wrap64 (x17 - 1)) then (if (wrap64 (x17 - 1)) < (x0.length : Int) then (if 0 ≤ x17 then (if x17 < (x0.length : Int) then (slices_symMergeCmpFunc_impl_Row.l3 k ((x0.set (x17 : Int).toNat (⟨(rd_T49 x0 (wrap64 (x17 - 1))).f0, (rd_T49 x0 (wrap64 (x17 - 1))).f1, (rd_T49 x0 (wrap64 (x17 - 1))).f2, (rd_T49 x0 (wrap64 (x17 - 1))).f3⟩ : S49)).set ((wrap64 (x17 - 1)) : Int).toNat (⟨(rd_T49 x0 x17).f0, (rd_T49 x0 x17).f1, (rd_T49 x0 x17).f2, (rd_T49 x0 x17).f3⟩ : S49)) x14 (wrap64 (x17 - 1))) else (none)) else (none)) else (none)) else (none)) else (some x0)
def slices_symMergeCmpFunc_impl_Row.j4 : Nat → List (S49) → Int → Int → Int → Int → Int → Int → Int → Option ((List (S49)))
  | 0, _, _, _, _, _, _, _, _ => none
  | k + 1, x0, x1, x2, x3, x18, x19, x20, x21 => slices_symMergeCmpFunc_impl_Row.l4 k x0 x1 x2 x3 x18 x19 x20 x21 (wrap64 (x19 - 1))
def slices_symMergeCmpFunc_impl_Row.l4 : Nat → List (S49) → Int → Int → Int → Int → Int → Int → Int → Int → Option ((List (S49)))
  | 0, _, _, _, _, _, _, _, _, _ => none
  | k + 1, x0, x1, x2, x3, x18, x19, x20, x21, x22 => if x20 < x21 then (if 0 ≤ (wrap64 (x22 - (wrap64 ((IntKind.u64.wrap (wrap64 (x20 + x21))) / 2)))) then (if (wrap64 (x22 - (wrap64 ((IntKind.u64.wrap (wrap64 (x20 + x21))) / 2)))) < (x0.length : Int) then (if 0 ≤ (wrap64 ((IntKind.u64.wrap (wrap64 (x20 + x21))) / 2)) then (if (wrap64 ((IntKind.u64.wrap (wrap64 (x20 + x21))) / 2)) < (x0.length : Int) then ((impl_compareRows.f k ((rd_T49 x0 (wrap64 (x22 - (wrap64 ((IntKind.u64.wrap (wrap64 (x20 + x21))) / 2))))).f0) ((rd_T49 x0 (wrap64 (x22 - (wrap64 ((IntKind.u64.wrap (wrap64 (x20 + x21))) / 2))))).f1) ((rd_T49 x0 (wrap64 (x22 - (wrap64 ((IntKind.u64.wrap (wrap64 (x20 + x21))) / 2))))).f2) ((rd_T49 x0 (wrap64 (x22 - (wrap64 ((IntKind.u64.wrap (wrap64 (x20 + x21))) / 2))))).f3) ((rd_T49 x0 (wrap64 ((IntKind.u64.wrap (wrap64 (x20 + x21))) / 2))).f0) ((rd_T49 x0 (wrap64 ((IntKind.u64.wrap (wrap64 (x20 + x21))) / 2))).f1) ((rd_T49 x0 (wrap64 ((IntKind.u64.wrap (wrap64 (x20 + x21))) / 2))).f2) ((rd_T49 x0 (wrap64 ((IntKind.u64.wrap (wrap64 (x20 + x21))) / 2))).f3)).bind fun t312 => (if t312 < 0 then (slices_symMergeCmpFunc_impl_Row.l4 k x0 x1 x2 x3 x18 x19 x20 (wrap64 ((IntKind.u64.wrap (wrap64 (x20 + x21))) / 2)) x22) else (slices_symMergeCmpFunc_impl_Row.l4 k x0 x1 x2 x3 x18 x19 (wrap64 ((wrap64 ((IntKind.u64.wrap (wrap64 (x20 + x21))) / 2)) + 1)) x21 x22))) else (none)) else (none)) else (none)) else (none)) else (if x20 < x2 then (slices_symMergeCmpFunc_impl_Row.j6 k x0 x1 x2 x3 x18 x20 (wrap64 (x19 - x20)) (decide (x2 < (wrap64 (x19 - x20))))) else (slices_symMergeCmpFunc_impl_Row.j6 k x0 x1 x2 x3 x18 x20 (wrap64 (x19 - x20)) false))
def slices_symMergeCmpFunc_impl_Row.j6 : Nat → List (S49) → Int → Int → Int → Int → Int → Int → Bool → Option ((List (S49)))
  | 0, _, _, _, _, _, _, _, _ => none
  | k + 1, x0, x1, x2, x3, x18, x20, x24, x185 => if x185 = true then ((slices_rotateCmpFunc_impl_Row.f k x0 x20 x2 x24).bind fun t313 => (slices_symMergeCmpFunc_impl_Row.j7 k t313 x1 x3 x18 x20 x24)) else (slices_symMergeCmpFunc_impl_Row.j7 k x0 x1 x3 x18 x20 x24)
def slices_symMergeCmpFunc_impl_Row.j7 : Nat → List (S49) → Int → Int → Int → Int → Int → Option ((List (S49)))
  | 0, _, _, _, _, _, _ => none
  | k + 1, x0, x1, x3, x18, x20, x24 => if x1 < x20 then (slices_symMergeCmpFunc_impl_Row.j8 k x0 x1 x3 x18 x20 x24 (decide (x20 < x18))) else (slices_symMergeCmpFunc_impl_Row.j8 k x0 x1 x3 x18 x20 x24 false)
def slices_symMergeCmpFunc_impl_Row.j8 : Nat → List (S49) → Int → Int → Int → Int → Int → Bool → Option ((List (S49)))
  | 0, _, _, _, _, _, _, _ => none
  | k + 1, x0, x1, x3, x18, x20, x24, x199 => if x199 = true then ((slices_symMergeCmpFunc_impl_Row.f k x0 x1 x20 x18).bind fun t314 => (if x18 < x24 then (if x24 < x3 then ((slices_symMergeCmpFunc_impl_Row.f k t314 x18 x24 x3).bind fun t315 => (some t315)) else (some t314)) else (some t314))) else (if x18 < x24 then (if x24 < x3 then ((slices_symMergeCmpFunc_impl_Row.f k x0 x18 x24 x3).bind fun t316 => (some t316)) else (some x0)) else (some x0))
def slices_symMergeCmpFunc_impl_Row.f : Nat → List (S49) → Int → Int → Int → Option ((List (S49)))
  | 0, _, _, _, _ => none
  | k + 1, l0, a1, a2, a3 => if (wrap64 (a2 - a1)) = 1 then (slices_symMergeCmpFunc_impl_Row.l0 k l0 a1 a2 a3) else (if (wrap64 (a3 - a2)) = 1 then (slices_symMergeCmpFunc_impl_Row.l2 k l0 a2 a1 a2) else (if a2 > (wrap64 ((IntKind.u64.wrap (wrap64 (a1 + a3))) / 2)) then (slices_symMergeCmpFunc_impl_Row.j4 k l0 a1 a2 a3 (wrap64 ((IntKind.u64.wrap (wrap64 (a1 + a3))) / 2)) (wrap64 ((wrap64 ((IntKind.u64.wrap (wrap64 (a1 + a3))) / 2)) + a2)) (wrap64 ((wrap64 ((wrap64 ((IntKind.u64.wrap (wrap64 (a1 + a3))) / 2)) + a2)) - a3)) (wrap64 ((IntKind.u64.wrap (wrap64 (a1 + a3))) / 2))) else (slices_symMergeCmpFunc_impl_Row.j4 k l0 a1 a2 a3 (wrap64 ((IntKind.u64.wrap (wrap64 (a1 + a3))) / 2)) (wrap64 ((wrap64 ((IntKind.u64.wrap (wrap64 (a1 + a3))) / 2)) + a2)) a1 a2)))
end
def slices_symMergeCmpFunc_impl_Row.T5 : Bool × List (List Nat × List Nat) := (true, [([], []), ([], []), ([], []), ([1, 2], [1, 2]), ([3], [3]), ([], []), ([], []), ([5, 6], [5, 6]), ([7], [7]), ([0, 4, 8], [0, 4, 8]), ([9], [9])])
def slices_symMergeCmpFunc_impl_Row.B5 : List Nat := [0, 0, 0, 6, 14, 0, 0, 96, 224, 511, 1023]
theorem slices_symMergeCmpFunc_impl_Row.tab5 : rtab .any (opsOf Try.f138 5) = slices_symMergeCmpFunc_impl_Row.T5 := by kernel_rfl
theorem slices_symMergeCmpFunc_impl_Row.bits5 : waitsOk slices_symMergeCmpFunc_impl_Row.T5.2 slices_symMergeCmpFunc_impl_Row.B5 = true := by kernel_rfl
def slices_symMergeCmpFunc_impl_Row.T11 : Bool × List (List Nat × List Nat) := (true, [([], []), ([], []), ([], []), ([], []), ([3], [3]), ([], []), ([], []), ([6], [6]), ([5, 7], [5, 7]), ([8], [8]), ([], []), ([], []), ([10, 11], [10, 11]), ([12], [12]), ([0, 1, 0, 1, 5, 6, 7, 8, 9, 13], [0, 1]), ([14, 9, 0, 1, 5, 6, 7, 8, 9, 13], [9, 14]), ([2, 4, 0, 1, 2, 3, 4, 5, 6, 7, 8, 9, 10, 11, 12, 13, 14, 15], [2, 4]), ([16, 13, 15, 0, 1, 2, 3, 4, 5, 6, 7, 8, 9, 10, 11, 12, 13, 14, 15], [13, 16])])
def slices_symMergeCmpFunc_impl_Row.B11 : List Nat := [0, 0, 0, 0, 8, 0, 0, 64, 224, 480, 0, 0, 3072, 7168, 16355, 32739, 65535, 131071]
theorem slices_symMergeCmpFunc_impl_Row.tab11 : rtab .any (opsOf Try.f138 11) = slices_symMergeCmpFunc_impl_Row.T11 := by kernel_rfl
theorem slices_symMergeCmpFunc_impl_Row.bits11 : waitsOk slices_symMergeCmpFunc_impl_Row.T11.2 slices_symMergeCmpFunc_impl_Row.B11 = true := by kernel_rfl
def slices_symMergeCmpFunc_impl_Row.T17 : Bool × List (List Nat × List Nat) := (true, [([], []), ([], []), ([], []), ([1, 2], [1, 2]), ([3], [3]), ([], []), ([], []), ([5, 6], [5, 6]), ([7], [7]), ([0, 4, 8], [0, 4, 8]), ([9], [9]), ([10], [10])])
def slices_symMergeCmpFunc_impl_Row.B17 : List Nat := [0, 0, 0, 6, 14, 0, 0, 96, 224, 511, 1023, 2047]
theorem slices_symMergeCmpFunc_impl_Row.tab17 : rtab .any (opsOf Try.f138 17) = slices_symMergeCmpFunc_impl_Row.T17 := by kernel_rfl
theorem slices_symMergeCmpFunc_impl_Row.bits17 : waitsOk slices_symMergeCmpFunc_impl_Row.T17.2 slices_symMergeCmpFunc_impl_Row.B17 = true := by kernel_rfl
def slices_symMergeCmpFunc_impl_Row.T23 : Bool × List (List Nat × List Nat) := (true, [([], []), ([], []), ([], []), ([], []), ([3], [3]), ([], []), ([], []), ([6], [6]), ([5, 7], [5, 7]), ([8], [8]), ([], []), ([], []), ([10, 11], [10, 11]), ([12], [12]), ([0, 1, 0, 1, 5, 6, 7, 8, 9, 13], [0, 1]), ([14, 9, 0, 1, 5, 6, 7, 8, 9, 13], [9, 14]), ([2, 4, 0, 1, 2, 3, 4, 5, 6, 7, 8, 9, 10, 11, 12, 13, 14, 15], [2, 4]), ([16, 13, 15, 0, 1, 2, 3, 4, 5, 6, 7, 8, 9, 10, 11, 12, 13, 14, 15], [13, 16])])
def slices_symMergeCmpFunc_impl_Row.B23 : List Nat := [0, 0, 0, 0, 8, 0, 0, 64, 224, 480, 0, 0, 3072, 7168, 16355, 32739, 65535, 131071]
theorem slices_symMergeCmpFunc_impl_Row.tab23 : rtab .any (opsOf Try.f138 23) = slices_symMergeCmpFunc_impl_Row.T23 := by kernel_rfl
theorem slices_symMergeCmpFunc_impl_Row.bits23 : waitsOk slices_symMergeCmpFunc_impl_Row.T23.2 slices_symMergeCmpFunc_impl_Row.B23 = true := by kernel_rfl
def slices_symMergeCmpFunc_impl_Row.T35 : Bool × List (List Nat × List Nat) := (true, [([], []), ([], []), ([], []), ([], []), ([2, 3], [2, 3]), ([1, 4], [1, 4]), ([5], [5]), ([], []), ([], []), ([7, 8], [7, 8]), ([9], [9]), ([0, 6, 10], [0, 6, 10]), ([11], [11]), ([12], [12])])
def slices_symMergeCmpFunc_impl_Row.B35 : List Nat := [0, 0, 0, 0, 12, 30, 62, 0, 0, 384, 896, 2047, 4095, 8191]
theorem slices_symMergeCmpFunc_impl_Row.tab35 : rtab .any (opsOf Try.f138 35) = slices_symMergeCmpFunc_impl_Row.T35 := by kernel_rfl
theorem slices_symMergeCmpFunc_impl_Row.bits35 : waitsOk slices_symMergeCmpFunc_impl_Row.T35.2 slices_symMergeCmpFunc_impl_Row.B35 = true := by kernel_rfl
theorem slices_symMergeCmpFunc_impl_Row.calls (k : Nat) : ∀ (P0_ : Nat → Prop) (u9000_ : Value) (l0 : List (S49)) (a1 : Int) (a2 : Int) (a3 : Int) (r : List (S49)) (w0 w : World) (hB : Below w0.heap.size w0 w) (ho0 : Kd.R k49 49 w w0.heap.size P0_ u9000_ l0) (h : slices_symMergeCmpFunc_impl_Row.f k l0 a1 a2 a3 = some r),
  Calls Try.prog 138 #[u9000_, .int .i64 a1, .int .i64 a2, .int .i64 a3, .func (.func 67) #[] #[]] w fun e w' => e = .returned (.tuple #[]) ∧ Kd.R k49 49 w' w0.heap.size (fun k_ => (P0_ k_ ∨ w.heap.size ≤ k_)) u9000_ r ∧ Below w0.heap.size w0 w' ∧ Kept w w' (fun k_ => P0_ k_) := by
 induction k using Nat.strongRecOn with
 | _ k ih =>
 intro P0_ u9000_ l0 a1 a2 a3 r w0 w hB ho0 h
 cases k with
 | zero => exact absurd h (by simp [slices_symMergeCmpFunc_impl_Row.f])
 | succ k =>
 simp only [slices_symMergeCmpFunc_impl_Row.f] at h
 have hu49 := Try.underlying49
 have HO0 := am (show Kd.R k49 49 w w0.heap.size (fun k_ => (P0_ k_ ∨ w.heap.size ≤ k_)) u9000_ l0 from Kd.R_mono ho0 (fun k_ hk => (.inl hk)))
 have HK := am (Kept.refl w (fun k_ => P0_ k_))
 have HW0 := am hB.size
 have HB := am hB
 clear hB
 have H : (if (wrap64 (a2 - a1)) = 1 then (slices_symMergeCmpFunc_impl_Row.l0 k l0 a1 a2 a3) else (if (wrap64 (a3 - a2)) = 1 then (slices_symMergeCmpFunc_impl_Row.l2 k l0 a2 a1 a2) else (if a2 > (wrap64 ((IntKind.u64.wrap (wrap64 (a1 + a3))) / 2)) then (slices_symMergeCmpFunc_impl_Row.j4 k l0 a1 a2 a3 (wrap64 ((IntKind.u64.wrap (wrap64 (a1 + a3))) / 2)) (wrap64 ((wrap64 ((IntKind.u64.wrap (wrap64 (a1 + a3))) / 2)) + a2)) (wrap64 ((wrap64 ((wrap64 ((IntKind.u64.wrap (wrap64 (a1 + a3))) / 2)) + a2)) - a3)) (wrap64 ((IntKind.u64.wrap (wrap64 (a1 + a3))) / 2))) else (slices_symMergeCmpFunc_impl_Row.j4 k l0 a1 a2 a3 (wrap64 ((IntKind.u64.wrap (wrap64 (a1 + a3))) / 2)) (wrap64 ((wrap64 ((IntKind.u64.wrap (wrap64 (a1 + a3))) / 2)) + a2)) a1 a2)))) = some r := h
 clear h
 by_cases c5 : (wrap64 (a2 - a1)) = 1
 ·rw [if_pos c5] at H
  have c5b0 : ((wrap64 (a2 - a1)) == 1) = true := beq_iff_eq.mpr c5
  have c5b1 : ((wrap64 (a2 - a1)) != 1) = false := bne_eq_false_iff_eq.mpr c5
  clear c5
  have H' := am H
  clear H
  go_enter Try.func138, Try.ntmps138
  go_wp2
  go_loopg [10, 11] k (fun kq v10 v11 w' => ∃ (x10_1 : Int) (x11_1 : Int), v10 = .int .i64 x10_1 ∧ v11 = .int .i64 x11_1 ∧ Aside0 (slices_symMergeCmpFunc_impl_Row.l0 kq l0 a1 x10_1 x11_1 = some r) ∧ Aside0 (kq ≤ k) ∧ Aside0 (Kd.R k49 49 w' w0.heap.size (fun k_ => (P0_ k_ ∨ w.heap.size ≤ k_)) u9000_ l0) ∧ Aside0 (Kept w w' (fun k_ => P0_ k_)) ∧ Aside0 (Below w0.heap.size w0 w'))
  case atStart => exact ⟨(a2), (a3), q_i, q_i, H', ⟨Nat.le_refl _⟩, ⟨q_r (HO0.out)⟩, ⟨q_k⟩, ⟨bq⟩⟩
  case round =>
   clear H'
   (try clear c1); (try clear p2); (try clear c5); (try clear c5b0); (try clear c5b1)
   obtain ⟨x10_1, x11_1, rfl, rfl, HA, HK1, HO_0, HK, HB⟩ := hrel
   cases gk with
   | zero => exact absurd HA.out (by simp [slices_symMergeCmpFunc_impl_Row.l0])
   | succ k1 =>
    have H := HA.out
    clear HA
    simp only [slices_symMergeCmpFunc_impl_Row.l0] at H
    by_cases c6 : x10_1 < x11_1
    ·rw [if_pos c6] at H
     have c6b0 := decide_eq_true c6
     clear c6
     obtain ⟨ji7, hji7⟩ : ∃ j_ : Int, (wrap64 ((IntKind.u64.wrap (wrap64 (x10_1 + x11_1))) / 2)) = j_ := ⟨_, rfl⟩
     replace H : (if 0 ≤ (ji7) then (if (ji7) < (l0.length : Int) then (if 0 ≤ a1 then (if a1 < (l0.length : Int) then ((impl_compareRows.f k1 ((rd_T49 l0 (ji7)).f0) ((rd_T49 l0 (ji7)).f1) ((rd_T49 l0 (ji7)).f2) ((rd_T49 l0 (ji7)).f3) ((rd_T49 l0 a1).f0) ((rd_T49 l0 a1).f1) ((rd_T49 l0 a1).f2) ((rd_T49 l0 a1).f3)).bind fun t298 => (if t298 < 0 then (slices_symMergeCmpFunc_impl_Row.l0 k1 l0 a1 (wrap64 ((ji7) + 1)) x11_1) else (slices_symMergeCmpFunc_impl_Row.l0 k1 l0 a1 x10_1 ji7))) else (none)) else (none)) else (none)) else (none)) = some r := by first | (rw [hji7] at H; exact H) | (simp only [hji7] at H ⊢; exact H)
     have hji7w : (IntKind.i64.wrap ((IntKind.u64.wrap (wrap64 (x10_1 + x11_1))) / 2)) = ji7 := (i64_w _).trans hji7
     by_cases c8 : 0 ≤ (ji7)
     ·rw [if_pos c8] at H
      have c8b0 := decide_eq_true c8
      clear c8
      by_cases c9 : (ji7) < (l0.length : Int)
      ·rw [if_pos c9] at H
       have c9b0 := decide_eq_true c9
       clear c9
       by_cases c10 : 0 ≤ a1
       ·rw [if_pos c10] at H
        have c10b0 := decide_eq_true c10
        clear c10
        by_cases c11 : a1 < (l0.length : Int)
        ·rw [if_pos c11] at H
         have c11b0 := decide_eq_true c11
         clear c11
         replace H := ob H
         obtain ⟨t298, A120, H⟩ := H
         replace H : (if t298 < 0 then (slices_symMergeCmpFunc_impl_Row.l0 k1 l0 a1 (wrap64 ((ji7) + 1)) x11_1) else (slices_symMergeCmpFunc_impl_Row.l0 k1 l0 a1 x10_1 ji7)) = some r := H
         have A12 := am A120
         clear A120
         by_cases c13 : t298 < 0
         ·rw [if_pos c13] at H
          have c13b0 := decide_eq_true c13
          clear c13
          have H' := am H
          clear H
          try go_wp2
          have n0_ := am (Kd.R_drew HO_0.out)
          have n1_ := am (Kept.drew HK.out)
          have n2_ := am (below_drew1 HB.out)
          clear HO_0
          clear HK
          clear HB
          have HO_0 := n0_
          have HK := n1_
          have HB := n2_
          clear n0_ n1_ n2_
          obtain ⟨Ao15, co15, eo15⟩ := Kd.R_slice HO_0.out
          (first | subst eo15 | (injection eo15 with f1_ f2_ f3_; have f4_ := f1_.symm; have f5_ := f3_.symm; clear f1_ f2_ f3_; subst f4_; subst f5_))
          have p296 : 0 ≤ ((ji7) : Int) := q_d
          have q296 : (ji7) < (l0.length : Int) := q_d
          obtain ⟨ad296, e296, hx296_0, hx296_1, hx296_2, hx296_3⟩ := at_T49 (Kd.R_reads' HO_0.out).2.2 (ji7) p296 q296
          cases e296
          replace p296 := eq_true p296
          replace q296 := eq_true q296
          have p297 : 0 ≤ (a1 : Int) := q_d
          have q297 : a1 < (l0.length : Int) := q_d
          obtain ⟨ad297, e297, hx297_0, hx297_1, hx297_2, hx297_3⟩ := at_T49 (Kd.R_reads' HO_0.out).2.2 a1 p297 q297
          obtain rfl : ad296 = ad297 := (by injection e297)
          replace p297 := eq_true p297
          replace q297 := eq_true q297
          refine start_ (n := 11) (S := fun w' => w'.cell? (ad296.add (((ji7)).toNat * 4)) = some (.string ((rd_T49 l0 (ji7)).f0)) ∧ w'.cell? ⟨(ad296.add (((ji7)).toNat * 4)).block, (ad296.add (((ji7)).toNat * 4)).off + 1, none⟩ = some (.int .i64 ((rd_T49 l0 (ji7)).f1)) ∧ w'.cell? ⟨(ad296.add (((ji7)).toNat * 4)).block, (ad296.add (((ji7)).toNat * 4)).off + 2, none⟩ = some (.string ((rd_T49 l0 (ji7)).f2)) ∧ w'.cell? ⟨(ad296.add (((ji7)).toNat * 4)).block, (ad296.add (((ji7)).toNat * 4)).off + 3, none⟩ = some (.bool ((rd_T49 l0 (ji7)).f3)) ∧ w'.cell? (ad296.add ((a1).toNat * 4)) = some (.string ((rd_T49 l0 a1).f0)) ∧ w'.cell? ⟨(ad296.add ((a1).toNat * 4)).block, (ad296.add ((a1).toNat * 4)).off + 1, none⟩ = some (.int .i64 ((rd_T49 l0 a1).f1)) ∧ w'.cell? ⟨(ad296.add ((a1).toNat * 4)).block, (ad296.add ((a1).toNat * 4)).off + 2, none⟩ = some (.string ((rd_T49 l0 a1).f2)) ∧ w'.cell? ⟨(ad296.add ((a1).toNat * 4)).block, (ad296.add ((a1).toNat * 4)).off + 3, none⟩ = some (.bool ((rd_T49 l0 a1).f3))) (ds := []) #[false, false, false, false, false, false, false, false, false, false, false] (by kernel_rfl) rfl rfl ⟨hx296_0, hx296_1, hx296_2, hx296_3, hx297_0, hx297_1, hx297_2, hx297_3⟩ (fun hHeld => ?_); refine with_tabW slices_symMergeCmpFunc_impl_Row.tab5 slices_symMergeCmpFunc_impl_Row.bits5 (fun HT_ HW_ => ?_)
          generalize wr.drew = w14 at HO_0 HK HB hx296_0 hx296_1 hx296_2 hx296_3 hx297_0 hx297_1 hx297_2 hx297_3 hHeld ⊢
          refine q_p 0 (some 40) #[true, false, false, false, false, false, false, false, false, false, false] HT_.out ?_
          refine q_p 1 (some 41) #[true, true, false, false, false, false, false, false, false, false, false] HT_.out ?_
          refine q_p 2 (some 42) #[true, true, true, false, false, false, false, false, false, false, false] HT_.out ?_
          refine q_p 3 (some 43) #[true, true, true, true, false, false, false, false, false, false, false] HT_.out ?_
          refine q_p 5 (some 45) #[true, true, true, true, false, true, false, false, false, false, false] HT_.out ?_
          refine q_p 6 (some 46) #[true, true, true, true, false, true, true, false, false, false, false] HT_.out ?_
          refine q_p 7 (some 47) #[true, true, true, true, false, true, true, true, false, false, false] HT_.out ?_
          refine q_t 4 (some 44) #[true, true, true, true, true, true, true, true, false, false, false] HT_.out HW_.out hHeld ?_
          refine q_t 8 (some 48) #[true, true, true, true, true, true, true, true, true, false, false] HT_.out HW_.out hHeld ?_
          refine one_ (i := 9) (N := some 49) #[true, true, true, true, true, true, true, true, true, true, false] rfl rfl (one_of HT_.out (by kernel_rfl)) (by decide) (fun K hK => ?_)
          refine print_goesR Try.func67 (by kernel_rfl) rfl #[.agg #[.string ((rd_T49 l0 (ji7)).f0), .int .i64 ((rd_T49 l0 (ji7)).f1), .string ((rd_T49 l0 (ji7)).f2), .bool ((rd_T49 l0 (ji7)).f3)], .agg #[.string ((rd_T49 l0 a1).f0), .int .i64 ((rd_T49 l0 a1).f1), .string ((rd_T49 l0 a1).f2), .bool ((rd_T49 l0 a1).f3)]] (by rfl) rfl rfl rfl (by (try simp only [List.map_toArray, List.map_cons, List.map_nil]); first | done | (simp only [hji7]; rfl) | rfl | (simp only [List.length_drop, List.length_take]; rfl)) ?_
          with_reducible refine (impl_compareRows.calls k1 ((rd_T49 l0 (ji7)).f0) ((rd_T49 l0 (ji7)).f1) ((rd_T49 l0 (ji7)).f2) ((rd_T49 l0 (ji7)).f3) ((rd_T49 l0 a1).f0) ((rd_T49 l0 a1).f1) ((rd_T49 l0 a1).f2) ((rd_T49 l0 a1).f3) t298 _ A12.out).mono ?_
          rintro e w16 ⟨rfl, hb⟩
          have HS0_ := (hb.cell (wb (hHeld.1))).trans (hHeld.1)
          have HS1_ := (hb.cell (wb (hHeld.2.1))).trans (hHeld.2.1)
          have HS2_ := (hb.cell (wb (hHeld.2.2.1))).trans (hHeld.2.2.1)
          have HS3_ := (hb.cell (wb (hHeld.2.2.2.1))).trans (hHeld.2.2.2.1)
          have HS4_ := (hb.cell (wb (hHeld.2.2.2.2.1))).trans (hHeld.2.2.2.2.1)
          have HS5_ := (hb.cell (wb (hHeld.2.2.2.2.2.1))).trans (hHeld.2.2.2.2.2.1)
          have HS6_ := (hb.cell (wb (hHeld.2.2.2.2.2.2.1))).trans (hHeld.2.2.2.2.2.2.1)
          have HS7_ := (hb.cell (wb (hHeld.2.2.2.2.2.2.2))).trans (hHeld.2.2.2.2.2.2.2)
          refine ⟨_, rfl, ?_⟩
          have n0_ := am (Kd.R_below (q_r (HO_0.out)) hb)
          have n1_ := am (Kept.below (S := (fun k_ => P0_ k_)) q_k hb)
          have n2_ := am (below_step bq hb)
          clear HO_0
          clear HK
          clear HB
          have HO_0 := n0_
          have HK := n1_
          have HB := n2_
          clear n0_ n1_ n2_
          (try clear hb)
          (try clear hb2)
          (try clear hk)
          (try clear hi)
          refine hK.out _ _ ⟨HS0_, HS1_, HS2_, HS3_, HS4_, HS5_, HS6_, HS7_⟩ (fun hHeld => ?_)
          clear hK K
          refine norm_ (a' := ?_) ?_ ?_
          rotate_left
          ·show Act.put _ (some 49) _ = _
           simp only [Act.put, List.setIfInBounds_toArray, List.set_cons_zero, List.set_cons_succ, i64_w, i32_w]
           rfl
          refine q_p 10 (some 50) #[true, true, true, true, true, true, true, true, true, true, true] HT_.out ?_
          refine done_ (done_of HT_.out (by kernel_rfl)) ?_
          try go_wp2
          go_roundg k1
          case measure => have := HK1.out; omega
          case rel => exact ⟨(wrap64 ((ji7) + 1)), (x11_1), (by first | rfl | (simp; done) | (simp only [← hji7] <;> (first | rfl | simp)) | (simp [*]; done)), q_i, H', ⟨by have := HK1.out; omega⟩, ⟨q_r (HO_0.out)⟩, ⟨q_k⟩, ⟨bq⟩⟩
         ·rw [if_neg c13] at H
          have c13b0 := decide_eq_false c13
          clear c13
          have H' := am H
          clear H
          try go_wp2
          have n0_ := am (Kd.R_drew HO_0.out)
          have n1_ := am (Kept.drew HK.out)
          have n2_ := am (below_drew1 HB.out)
          clear HO_0
          clear HK
          clear HB
          have HO_0 := n0_
          have HK := n1_
          have HB := n2_
          clear n0_ n1_ n2_
          obtain ⟨Ao18, co18, eo18⟩ := Kd.R_slice HO_0.out
          (first | subst eo18 | (injection eo18 with f1_ f2_ f3_; have f4_ := f1_.symm; have f5_ := f3_.symm; clear f1_ f2_ f3_; subst f4_; subst f5_))
          have p296 : 0 ≤ ((ji7) : Int) := q_d
          have q296 : (ji7) < (l0.length : Int) := q_d
          obtain ⟨ad296, e296, hx296_0, hx296_1, hx296_2, hx296_3⟩ := at_T49 (Kd.R_reads' HO_0.out).2.2 (ji7) p296 q296
          cases e296
          replace p296 := eq_true p296
          replace q296 := eq_true q296
          have p297 : 0 ≤ (a1 : Int) := q_d
          have q297 : a1 < (l0.length : Int) := q_d
          obtain ⟨ad297, e297, hx297_0, hx297_1, hx297_2, hx297_3⟩ := at_T49 (Kd.R_reads' HO_0.out).2.2 a1 p297 q297
          obtain rfl : ad296 = ad297 := (by injection e297)
          replace p297 := eq_true p297
          replace q297 := eq_true q297
          refine start_ (n := 11) (S := fun w' => w'.cell? (ad296.add (((ji7)).toNat * 4)) = some (.string ((rd_T49 l0 (ji7)).f0)) ∧ w'.cell? ⟨(ad296.add (((ji7)).toNat * 4)).block, (ad296.add (((ji7)).toNat * 4)).off + 1, none⟩ = some (.int .i64 ((rd_T49 l0 (ji7)).f1)) ∧ w'.cell? ⟨(ad296.add (((ji7)).toNat * 4)).block, (ad296.add (((ji7)).toNat * 4)).off + 2, none⟩ = some (.string ((rd_T49 l0 (ji7)).f2)) ∧ w'.cell? ⟨(ad296.add (((ji7)).toNat * 4)).block, (ad296.add (((ji7)).toNat * 4)).off + 3, none⟩ = some (.bool ((rd_T49 l0 (ji7)).f3)) ∧ w'.cell? (ad296.add ((a1).toNat * 4)) = some (.string ((rd_T49 l0 a1).f0)) ∧ w'.cell? ⟨(ad296.add ((a1).toNat * 4)).block, (ad296.add ((a1).toNat * 4)).off + 1, none⟩ = some (.int .i64 ((rd_T49 l0 a1).f1)) ∧ w'.cell? ⟨(ad296.add ((a1).toNat * 4)).block, (ad296.add ((a1).toNat * 4)).off + 2, none⟩ = some (.string ((rd_T49 l0 a1).f2)) ∧ w'.cell? ⟨(ad296.add ((a1).toNat * 4)).block, (ad296.add ((a1).toNat * 4)).off + 3, none⟩ = some (.bool ((rd_T49 l0 a1).f3))) (ds := []) #[false, false, false, false, false, false, false, false, false, false, false] (by kernel_rfl) rfl rfl ⟨hx296_0, hx296_1, hx296_2, hx296_3, hx297_0, hx297_1, hx297_2, hx297_3⟩ (fun hHeld => ?_); refine with_tabW slices_symMergeCmpFunc_impl_Row.tab5 slices_symMergeCmpFunc_impl_Row.bits5 (fun HT_ HW_ => ?_)
          generalize wr.drew = w17 at HO_0 HK HB hx296_0 hx296_1 hx296_2 hx296_3 hx297_0 hx297_1 hx297_2 hx297_3 hHeld ⊢
          refine q_p 0 (some 40) #[true, false, false, false, false, false, false, false, false, false, false] HT_.out ?_
          refine q_p 1 (some 41) #[true, true, false, false, false, false, false, false, false, false, false] HT_.out ?_
          refine q_p 2 (some 42) #[true, true, true, false, false, false, false, false, false, false, false] HT_.out ?_
          refine q_p 3 (some 43) #[true, true, true, true, false, false, false, false, false, false, false] HT_.out ?_
          refine q_p 5 (some 45) #[true, true, true, true, false, true, false, false, false, false, false] HT_.out ?_
          refine q_p 6 (some 46) #[true, true, true, true, false, true, true, false, false, false, false] HT_.out ?_
          refine q_p 7 (some 47) #[true, true, true, true, false, true, true, true, false, false, false] HT_.out ?_
          refine q_t 4 (some 44) #[true, true, true, true, true, true, true, true, false, false, false] HT_.out HW_.out hHeld ?_
          refine q_t 8 (some 48) #[true, true, true, true, true, true, true, true, true, false, false] HT_.out HW_.out hHeld ?_
          refine one_ (i := 9) (N := some 49) #[true, true, true, true, true, true, true, true, true, true, false] rfl rfl (one_of HT_.out (by kernel_rfl)) (by decide) (fun K hK => ?_)
          refine print_goesR Try.func67 (by kernel_rfl) rfl #[.agg #[.string ((rd_T49 l0 (ji7)).f0), .int .i64 ((rd_T49 l0 (ji7)).f1), .string ((rd_T49 l0 (ji7)).f2), .bool ((rd_T49 l0 (ji7)).f3)], .agg #[.string ((rd_T49 l0 a1).f0), .int .i64 ((rd_T49 l0 a1).f1), .string ((rd_T49 l0 a1).f2), .bool ((rd_T49 l0 a1).f3)]] (by rfl) rfl rfl rfl (by (try simp only [List.map_toArray, List.map_cons, List.map_nil]); first | done | (simp only [hji7]; rfl) | rfl | (simp only [List.length_drop, List.length_take]; rfl)) ?_
          with_reducible refine (impl_compareRows.calls k1 ((rd_T49 l0 (ji7)).f0) ((rd_T49 l0 (ji7)).f1) ((rd_T49 l0 (ji7)).f2) ((rd_T49 l0 (ji7)).f3) ((rd_T49 l0 a1).f0) ((rd_T49 l0 a1).f1) ((rd_T49 l0 a1).f2) ((rd_T49 l0 a1).f3) t298 _ A12.out).mono ?_
          rintro e w19 ⟨rfl, hb⟩
          have HS0_ := (hb.cell (wb (hHeld.1))).trans (hHeld.1)
          have HS1_ := (hb.cell (wb (hHeld.2.1))).trans (hHeld.2.1)
          have HS2_ := (hb.cell (wb (hHeld.2.2.1))).trans (hHeld.2.2.1)
          have HS3_ := (hb.cell (wb (hHeld.2.2.2.1))).trans (hHeld.2.2.2.1)
          have HS4_ := (hb.cell (wb (hHeld.2.2.2.2.1))).trans (hHeld.2.2.2.2.1)
          have HS5_ := (hb.cell (wb (hHeld.2.2.2.2.2.1))).trans (hHeld.2.2.2.2.2.1)
          have HS6_ := (hb.cell (wb (hHeld.2.2.2.2.2.2.1))).trans (hHeld.2.2.2.2.2.2.1)
          have HS7_ := (hb.cell (wb (hHeld.2.2.2.2.2.2.2))).trans (hHeld.2.2.2.2.2.2.2)
          refine ⟨_, rfl, ?_⟩
          have n0_ := am (Kd.R_below (q_r (HO_0.out)) hb)
          have n1_ := am (Kept.below (S := (fun k_ => P0_ k_)) q_k hb)
          have n2_ := am (below_step bq hb)
          clear HO_0
          clear HK
          clear HB
          have HO_0 := n0_
          have HK := n1_
          have HB := n2_
          clear n0_ n1_ n2_
          (try clear hb)
          (try clear hb2)
          (try clear hk)
          (try clear hi)
          refine hK.out _ _ ⟨HS0_, HS1_, HS2_, HS3_, HS4_, HS5_, HS6_, HS7_⟩ (fun hHeld => ?_)
          clear hK K
          refine norm_ (a' := ?_) ?_ ?_
          rotate_left
          ·show Act.put _ (some 49) _ = _
           simp only [Act.put, List.setIfInBounds_toArray, List.set_cons_zero, List.set_cons_succ, i64_w, i32_w]
           rfl
          refine q_p 10 (some 50) #[true, true, true, true, true, true, true, true, true, true, true] HT_.out ?_
          refine done_ (done_of HT_.out (by kernel_rfl)) ?_
          try go_wp2
          go_roundg k1
          case measure => have := HK1.out; omega
          case rel => exact ⟨(x10_1), (ji7), q_i, (by first | rfl | (simp; done) | (simp only [← hji7] <;> (first | rfl | simp)) | (simp [*]; done)), H', ⟨by have := HK1.out; omega⟩, ⟨q_r (HO_0.out)⟩, ⟨q_k⟩, ⟨bq⟩⟩
        ·rw [if_neg c11] at H
         exact absurd H (by simp)
       ·rw [if_neg c10] at H
        exact absurd H (by simp)
      ·rw [if_neg c9] at H
       exact absurd H (by simp)
     ·rw [if_neg c8] at H
      exact absurd H (by simp)
    ·rw [if_neg c6] at H
     have c6b0 := decide_eq_false c6
     clear c6
     have H' := am H
     clear H
     go_wp2
     go_loopg [13] k1 (fun kq v13 w' => ∃ (x0_2 : List (S49)) (x13_2 : Int), v13 = .int .i64 x13_2 ∧ Aside0 (slices_symMergeCmpFunc_impl_Row.l1 kq x0_2 x10_1 x13_2 = some r) ∧ Aside0 (kq ≤ k1) ∧ Aside0 (Kd.R k49 49 w' w0.heap.size (fun k_ => (P0_ k_ ∨ w.heap.size ≤ k_)) u9000_ x0_2) ∧ Aside0 (Kept w w' (fun k_ => P0_ k_)) ∧ Aside0 (Below w0.heap.size w0 w'))
     case atStart => exact ⟨(l0), (a1), q_i, H', ⟨Nat.le_refl _⟩, ⟨q_r (HO_0.out)⟩, ⟨q_k⟩, ⟨bq⟩⟩
     case round =>
      clear H'
      (try clear c1); (try clear p2); (try clear q2); (try clear hx2); (try clear c5); (try clear c5b0); (try clear c5b1); (try clear c6); (try clear c6b0); (try clear p6); (try clear c8); (try clear c8b0)
      (try clear c9); (try clear c9b0); (try clear c10); (try clear c10b0); (try clear c11); (try clear c11b0); (try clear c13); (try clear c13b0); (try clear hx296_0); (try clear hx296_1); (try clear hx296_2)
      (try clear hx296_3); (try clear hx297_0); (try clear hx297_1); (try clear hx297_2); (try clear hx297_3); (try clear p2); (try clear p296); (try clear p297); (try clear q296); (try clear q297)
      obtain ⟨x0_2, x13_2, rfl, HA, HK2, HO_0, HK, HB⟩ := hrel
      cases gk with
      | zero => exact absurd HA.out (by simp [slices_symMergeCmpFunc_impl_Row.l1])
      | succ k2 =>
       have H := HA.out
       clear HA
       simp only [slices_symMergeCmpFunc_impl_Row.l1] at H
       by_cases c20 : x13_2 < (wrap64 (x10_1 - 1))
       ·rw [if_pos c20] at H
        have c20b0 := decide_eq_true c20
        clear c20
        obtain ⟨ji21, hji21⟩ : ∃ j_ : Int, (wrap64 (x13_2 + 1)) = j_ := ⟨_, rfl⟩
        replace H : (if 0 ≤ (ji21) then (if (ji21) < (x0_2.length : Int) then (if 0 ≤ x13_2 then (if x13_2 < (x0_2.length : Int) then (slices_symMergeCmpFunc_impl_Row.l1 k2 ((x0_2.set (x13_2 : Int).toNat (⟨(rd_T49 x0_2 (ji21)).f0, (rd_T49 x0_2 (ji21)).f1, (rd_T49 x0_2 (ji21)).f2, (rd_T49 x0_2 (ji21)).f3⟩ : S49)).set ((ji21) : Int).toNat (⟨(rd_T49 x0_2 x13_2).f0, (rd_T49 x0_2 x13_2).f1, (rd_T49 x0_2 x13_2).f2, (rd_T49 x0_2 x13_2).f3⟩ : S49)) x10_1 ji21) else (none)) else (none)) else (none)) else (none)) = some r := by first | (rw [hji21] at H; exact H) | (simp only [hji21] at H ⊢; exact H)
        have hji21w : (IntKind.i64.wrap (x13_2 + 1)) = ji21 := (i64_w _).trans hji21
        by_cases c22 : 0 ≤ (ji21)
        ·rw [if_pos c22] at H
         have c22b0 := decide_eq_true c22
         clear c22
         by_cases c23 : (ji21) < (x0_2.length : Int)
         ·rw [if_pos c23] at H
          have c23b0 := decide_eq_true c23
          clear c23
          by_cases c24 : 0 ≤ x13_2
          ·rw [if_pos c24] at H
           have c24b0 := decide_eq_true c24
           clear c24
           by_cases c25 : x13_2 < (x0_2.length : Int)
           ·rw [if_pos c25] at H
            have c25b0 := decide_eq_true c25
            clear c25
            obtain ⟨y301, hy301⟩ : ∃ y_ : List (S49), y_ = (x0_2.set (x13_2 : Int).toNat (⟨(rd_T49 x0_2 (ji21)).f0, (rd_T49 x0_2 (ji21)).f1, (rd_T49 x0_2 (ji21)).f2, (rd_T49 x0_2 (ji21)).f3⟩ : S49)) := ⟨_, rfl⟩
            replace H : (slices_symMergeCmpFunc_impl_Row.l1 k2 (y301.set ((ji21) : Int).toNat (⟨(rd_T49 x0_2 x13_2).f0, (rd_T49 x0_2 x13_2).f1, (rd_T49 x0_2 x13_2).f2, (rd_T49 x0_2 x13_2).f3⟩ : S49)) x10_1 ji21) = some r := q_h hy301 H
            have Ny301 := am hy301
            clear hy301
            obtain ⟨y302, hy302⟩ : ∃ y_ : List (S49), y_ = (y301.set ((ji21) : Int).toNat (⟨(rd_T49 x0_2 x13_2).f0, (rd_T49 x0_2 x13_2).f1, (rd_T49 x0_2 x13_2).f2, (rd_T49 x0_2 x13_2).f3⟩ : S49)) := ⟨_, rfl⟩
            replace H : (slices_symMergeCmpFunc_impl_Row.l1 k2 y302 x10_1 ji21) = some r := q_h hy302 H
            have Ny302 := am hy302
            clear hy302
            have H' := am H
            clear H
            try go_wp2
            have n0_ := am (Kd.R_drew HO_0.out)
            have n1_ := am (Kept.drew HK.out)
            have n2_ := am (below_drew1 HB.out)
            clear HO_0
            clear HK
            clear HB
            have HO_0 := n0_
            have HK := n1_
            have HB := n2_
            clear n0_ n1_ n2_
            obtain ⟨Ao29, co29, eo29⟩ := Kd.R_slice HO_0.out
            (first | subst eo29 | (injection eo29 with f1_ f2_ f3_; have f4_ := f1_.symm; have f5_ := f3_.symm; clear f1_ f2_ f3_; subst f4_; subst f5_))
            have p299 : 0 ≤ ((ji21) : Int) := q_d
            have q299 : (ji21) < (x0_2.length : Int) := q_d
            obtain ⟨ad299, e299, hx299_0, hx299_1, hx299_2, hx299_3⟩ := at_T49 (Kd.R_reads' HO_0.out).2.2 (ji21) p299 q299
            cases e299
            replace p299 := eq_true p299
            replace q299 := eq_true q299
            have p300 : 0 ≤ (x13_2 : Int) := q_d
            have q300 : x13_2 < (x0_2.length : Int) := q_d
            obtain ⟨ad300, e300, hx300_0, hx300_1, hx300_2, hx300_3⟩ := at_T49 (Kd.R_reads' HO_0.out).2.2 x13_2 p300 q300
            obtain rfl : ad299 = ad300 := (by injection e300)
            replace p300 := eq_true p300
            replace q300 := eq_true q300
            have p26 : 0 ≤ (x13_2 : Int) := q_d
            have q26 : (x13_2 : Int) < ((x0_2.length : Int) : Int) := q_d
            obtain ⟨go26, co26, eo26, gb26, gl26, cl26, HG26⟩ := Kd.R_form HO_0.out (by omega)
            (first | cases eo26 | (injection eo26 with ea_ en_ ec_; (first | subst ea_ | (injection ea_ with ea_; subst ea_)); subst ec_; clear en_))
            have GB26 := am gb26
            have GG26 := am HG26
            clear gb26 gl26 HG26
            have HMgo26 := am (show (P0_ go26 ∨ w.heap.size ≤ go26) from (HO_0.out.1 _ rfl))
            (first | simp only [add_plain] at hx299_0 | skip)
            (first | simp only [add_plain] at hx299_1 | skip)
            (first | simp only [add_plain] at hx299_2 | skip)
            (first | simp only [add_plain] at hx299_3 | skip)
            (first | simp only [add_plain] at hx300_0 | skip)
            (first | simp only [add_plain] at hx300_1 | skip)
            (first | simp only [add_plain] at hx300_2 | skip)
            (first | simp only [add_plain] at hx300_3 | skip)
            obtain ⟨ce26, hcl26, hM26, hcc26, hfr26⟩ := Kd.R_elem HO_0.out z49 (x13_2 : Int) p26 q26
            obtain rfl := k49_openM hM26
            have hx26_0 : World.cell? _ ⟨go26, (x13_2 : Int).toNat * 4, none⟩ = some (.string ((rd_T49 x0_2 x13_2).f0)) := hcc26 0 _ rfl
            have hx26_1 : World.cell? _ ⟨go26, (x13_2 : Int).toNat * 4 + 1, none⟩ = some (.int .i64 ((rd_T49 x0_2 x13_2).f1)) := hcc26 1 _ rfl
            have hx26_2 : World.cell? _ ⟨go26, (x13_2 : Int).toNat * 4 + 2, none⟩ = some (.string ((rd_T49 x0_2 x13_2).f2)) := hcc26 2 _ rfl
            have hx26_3 : World.cell? _ ⟨go26, (x13_2 : Int).toNat * 4 + 3, none⟩ = some (.bool ((rd_T49 x0_2 x13_2).f3)) := hcc26 3 _ rfl
            have hf26_0 : World.frozen? _ ⟨go26, (x13_2 : Int).toNat * 4, none⟩ = false := hfr26 0
            have hf26_1 : World.frozen? _ ⟨go26, (x13_2 : Int).toNat * 4 + 1, none⟩ = false := hfr26 1
            have hf26_2 : World.frozen? _ ⟨go26, (x13_2 : Int).toNat * 4 + 2, none⟩ = false := hfr26 2
            have hf26_3 : World.frozen? _ ⟨go26, (x13_2 : Int).toNat * 4 + 3, none⟩ = false := hfr26 3
            clear hcl26 hcc26 hfr26; (try clear hM26)
            replace p26 := eq_true p26
            replace q26 := eq_true q26
            obtain ⟨ce30, hcl30, hM30, hcc30, hfr30⟩ := Kd.R_elem HO_0.out z49 (x13_2 : Int) q_d (by have h_ : (x13_2 : Int) < ((x0_2.length : Int) : Int) := q_d; first | exact h_ | (have e_ := (Kd.R_reads' HO_0.out).1; omega) | simpa using h_)
            obtain rfl := k49_openM hM30
            have HP30 := (Kd.R_seg HO_0.out (x13_2 : Int) q_d (by have h_ : (x13_2 : Int) < ((x0_2.length : Int) : Int) := q_d; first | exact h_ | (have e_ := (Kd.R_reads' HO_0.out).1; omega) | simpa using h_) (seg := [.string ((rd_T49 x0_2 (ji21)).f0), .int .i64 ((rd_T49 x0_2 (ji21)).f1), .string ((rd_T49 x0_2 (ji21)).f2), .bool ((rd_T49 x0_2 (ji21)).f3)]) (j := 0) hcl30 hcc30 (show 4 ≤ 4 from by decide) (x' := (⟨(rd_T49 x0_2 (ji21)).f0, (rd_T49 x0_2 (ji21)).f1, (rd_T49 x0_2 (ji21)).f2, (rd_T49 x0_2 (ji21)).f3⟩ : S49)) (k49_mkM _ _ _ (⟨(rd_T49 x0_2 (ji21)).f0, (rd_T49 x0_2 (ji21)).f1, (rd_T49 x0_2 (ji21)).f2, (rd_T49 x0_2 (ji21)).f3⟩ : S49) ) (fun _ hk => hk)).1
            rw [← Ny301.out] at HP30
            have HQ30 := am HP30
            clear hcl30 hcc30 hfr30 HP30; (try clear hM30)
            have p27 : 0 ≤ ((ji21) : Int) := q_d
            have q27 : ((ji21) : Int) < ((x0_2.length : Int) : Int) := q_d
            obtain ⟨ce27, hcl27, hM27, hcc27, hfr27⟩ := Kd.R_elem HQ30.out z49 ((ji21) : Int) p27 q27
            obtain rfl := k49_openM hM27
            have hx27_0 : World.cell? _ ⟨go26, ((ji21) : Int).toNat * 4, none⟩ = some (.string ((rd_T49 y301 (ji21)).f0)) := hcc27 0 _ rfl
            have hx27_1 : World.cell? _ ⟨go26, ((ji21) : Int).toNat * 4 + 1, none⟩ = some (.int .i64 ((rd_T49 y301 (ji21)).f1)) := hcc27 1 _ rfl
            have hx27_2 : World.cell? _ ⟨go26, ((ji21) : Int).toNat * 4 + 2, none⟩ = some (.string ((rd_T49 y301 (ji21)).f2)) := hcc27 2 _ rfl
            have hx27_3 : World.cell? _ ⟨go26, ((ji21) : Int).toNat * 4 + 3, none⟩ = some (.bool ((rd_T49 y301 (ji21)).f3)) := hcc27 3 _ rfl
            have hf27_0 : World.frozen? _ ⟨go26, ((ji21) : Int).toNat * 4, none⟩ = false := hfr27 0
            have hf27_1 : World.frozen? _ ⟨go26, ((ji21) : Int).toNat * 4 + 1, none⟩ = false := hfr27 1
            have hf27_2 : World.frozen? _ ⟨go26, ((ji21) : Int).toNat * 4 + 2, none⟩ = false := hfr27 2
            have hf27_3 : World.frozen? _ ⟨go26, ((ji21) : Int).toNat * 4 + 3, none⟩ = false := hfr27 3
            clear hcl27 hcc27 hfr27; (try clear hM27)
            replace p27 := eq_true p27
            replace q27 := eq_true q27
            obtain ⟨ce31, hcl31, hM31, hcc31, hfr31⟩ := Kd.R_elem HQ30.out z49 ((ji21) : Int) q_d (by have h_ : ((ji21) : Int) < ((x0_2.length : Int) : Int) := q_d; first | exact h_ | (have e_ := (Kd.R_reads' HO_0.out).1; omega) | simpa using h_)
            obtain rfl := k49_openM hM31
            have HP31 := (Kd.R_seg HQ30.out ((ji21) : Int) q_d (by have h_ : ((ji21) : Int) < ((x0_2.length : Int) : Int) := q_d; first | exact h_ | (have e_ := (Kd.R_reads' HO_0.out).1; omega) | simpa using h_) (seg := [.string ((rd_T49 x0_2 x13_2).f0), .int .i64 ((rd_T49 x0_2 x13_2).f1), .string ((rd_T49 x0_2 x13_2).f2), .bool ((rd_T49 x0_2 x13_2).f3)]) (j := 0) hcl31 hcc31 (show 4 ≤ 4 from by decide) (x' := (⟨(rd_T49 x0_2 x13_2).f0, (rd_T49 x0_2 x13_2).f1, (rd_T49 x0_2 x13_2).f2, (rd_T49 x0_2 x13_2).f3⟩ : S49)) (k49_mkM _ _ _ (⟨(rd_T49 x0_2 x13_2).f0, (rd_T49 x0_2 x13_2).f1, (rd_T49 x0_2 x13_2).f2, (rd_T49 x0_2 x13_2).f3⟩ : S49) ) (fun _ hk => hk)).1
            rw [← Ny302.out] at HP31
            have HQ31 := am HP31
            clear hcl31 hcc31 hfr31 HP31; (try clear hM31)
            refine start_ (n := 18) (S := fun w' => w'.cell? ⟨go26, ((ji21)).toNat * 4, none⟩ = some (.string ((rd_T49 x0_2 (ji21)).f0)) ∧ w'.cell? ⟨go26, ((ji21)).toNat * 4 + 1, none⟩ = some (.int .i64 ((rd_T49 x0_2 (ji21)).f1)) ∧ w'.cell? ⟨go26, ((ji21)).toNat * 4 + 2, none⟩ = some (.string ((rd_T49 x0_2 (ji21)).f2)) ∧ w'.cell? ⟨go26, ((ji21)).toNat * 4 + 3, none⟩ = some (.bool ((rd_T49 x0_2 (ji21)).f3)) ∧ w'.cell? ⟨go26, ((x13_2).toNat * 4), none⟩ = some (.string ((rd_T49 x0_2 x13_2).f0)) ∧ w'.cell? ⟨go26, ((x13_2).toNat * 4) + 1, none⟩ = some (.int .i64 ((rd_T49 x0_2 x13_2).f1)) ∧ w'.cell? ⟨go26, ((x13_2).toNat * 4) + 2, none⟩ = some (.string ((rd_T49 x0_2 x13_2).f2)) ∧ w'.cell? ⟨go26, ((x13_2).toNat * 4) + 3, none⟩ = some (.bool ((rd_T49 x0_2 x13_2).f3))) (ds := [15, 17]) #[false, false, false, false, false, false, false, false, false, false, false, false, false, false, false, false, false, false] (by kernel_rfl) rfl rfl ⟨hx299_0, hx299_1, hx299_2, hx299_3, hx300_0, hx300_1, hx300_2, hx300_3⟩ (fun hHeld => ?_); refine with_tabW slices_symMergeCmpFunc_impl_Row.tab11 slices_symMergeCmpFunc_impl_Row.bits11 (fun HT_ HW_ => ?_)
            generalize wr.drew = w28 at HO_0 HK HB GG26 HQ30 HQ31 hf26_0 hf26_1 hf26_2 hf26_3 hf27_0 hf27_1 hf27_2 hf27_3 hx26_0 hx26_1 hx26_2 hx26_3 hx27_0 hx27_1 hx27_2 hx27_3 hx299_0 hx299_1 hx299_2 hx299_3 hx300_0 hx300_1 hx300_2 hx300_3 hHeld ⊢
            refine q_p 0 (some 61) #[true, false, false, false, false, false, false, false, false, false, false, false, false, false, false, false, false, false] HT_.out ?_
            refine q_p 1 (some 62) #[true, true, false, false, false, false, false, false, false, false, false, false, false, false, false, false, false, false] HT_.out ?_
            refine q_p 2 (some 63) #[true, true, true, false, false, false, false, false, false, false, false, false, false, false, false, false, false, false] HT_.out ?_
            refine q_p 3 (some 64) #[true, true, true, true, false, false, false, false, false, false, false, false, false, false, false, false, false, false] HT_.out ?_
            refine q_p 4 (some 65) #[true, true, true, true, true, false, false, false, false, false, false, false, false, false, false, false, false, false] HT_.out ?_
            refine q_p 5 (some 66) #[true, true, true, true, true, true, false, false, false, false, false, false, false, false, false, false, false, false] HT_.out ?_
            refine q_p 6 (some 67) #[true, true, true, true, true, true, true, false, false, false, false, false, false, false, false, false, false, false] HT_.out ?_
            refine q_p 7 (some 68) #[true, true, true, true, true, true, true, true, false, false, false, false, false, false, false, false, false, false] HT_.out ?_
            refine q_p 8 (some 69) #[true, true, true, true, true, true, true, true, true, false, false, false, false, false, false, false, false, false] HT_.out ?_
            refine q_p 10 (some 71) #[true, true, true, true, true, true, true, true, true, false, true, false, false, false, false, false, false, false] HT_.out ?_
            refine q_p 11 (some 72) #[true, true, true, true, true, true, true, true, true, false, true, true, false, false, false, false, false, false] HT_.out ?_
            refine q_p 12 (some 73) #[true, true, true, true, true, true, true, true, true, false, true, true, true, false, false, false, false, false] HT_.out ?_
            refine q_t 9 (some 70) #[true, true, true, true, true, true, true, true, true, true, true, true, true, false, false, false, false, false] HT_.out HW_.out hHeld ?_
            refine q_t 13 (some 74) #[true, true, true, true, true, true, true, true, true, true, true, true, true, true, false, false, false, false] HT_.out HW_.out hHeld ?_
            refine q_p 14 (some 75) #[true, true, true, true, true, true, true, true, true, true, true, true, true, true, true, false, false, false] HT_.out ?_
            refine last_ (i := 15) (N := none) #[true, true, true, true, true, true, true, true, true, true, true, true, true, true, true, true, false, false] rfl rfl (one_of HT_.out (by kernel_rfl)) (by decide) (fun K hK => ?_)
            refine skip_ (w1 := ?_) (by rfl) rfl ?_ ?_
            rotate_left
            ·go_simp
             rfl
            refine hK.out _ _ ?_
            clear hK K
            refine q_p 16 (some 76) #[true, true, true, true, true, true, true, true, true, true, true, true, true, true, true, true, true, false] HT_.out ?_
            refine last_ (i := 17) (N := none) #[true, true, true, true, true, true, true, true, true, true, true, true, true, true, true, true, true, true] rfl rfl (one_of HT_.out (by kernel_rfl)) (by decide) (fun K hK => ?_)
            have hz27_0 := (show ((((w28.setCell ⟨go26, (x13_2 : Int).toNat * 4, none⟩ (.string ((rd_T49 x0_2 (ji21)).f0))).setCell ⟨go26, (x13_2 : Int).toNat * 4 + 1, none⟩ (.int .i64 ((rd_T49 x0_2 (ji21)).f1))).setCell ⟨go26, (x13_2 : Int).toNat * 4 + 2, none⟩ (.string ((rd_T49 x0_2 (ji21)).f2))).setCell ⟨go26, (x13_2 : Int).toNat * 4 + 3, none⟩ (.bool ((rd_T49 x0_2 (ji21)).f3))).cell? ⟨go26, ((ji21) : Int).toNat * 4, none⟩ = _ from hx27_0)
            have hzf27_0 := (show ((((w28.setCell ⟨go26, (x13_2 : Int).toNat * 4, none⟩ (.string ((rd_T49 x0_2 (ji21)).f0))).setCell ⟨go26, (x13_2 : Int).toNat * 4 + 1, none⟩ (.int .i64 ((rd_T49 x0_2 (ji21)).f1))).setCell ⟨go26, (x13_2 : Int).toNat * 4 + 2, none⟩ (.string ((rd_T49 x0_2 (ji21)).f2))).setCell ⟨go26, (x13_2 : Int).toNat * 4 + 3, none⟩ (.bool ((rd_T49 x0_2 (ji21)).f3))).frozen? ⟨go26, ((ji21) : Int).toNat * 4, none⟩ = false from hf27_0)
            have hz27_1 := (show ((((w28.setCell ⟨go26, (x13_2 : Int).toNat * 4, none⟩ (.string ((rd_T49 x0_2 (ji21)).f0))).setCell ⟨go26, (x13_2 : Int).toNat * 4 + 1, none⟩ (.int .i64 ((rd_T49 x0_2 (ji21)).f1))).setCell ⟨go26, (x13_2 : Int).toNat * 4 + 2, none⟩ (.string ((rd_T49 x0_2 (ji21)).f2))).setCell ⟨go26, (x13_2 : Int).toNat * 4 + 3, none⟩ (.bool ((rd_T49 x0_2 (ji21)).f3))).cell? ⟨go26, ((ji21) : Int).toNat * 4 + 1, none⟩ = _ from hx27_1)
            have hzf27_1 := (show ((((w28.setCell ⟨go26, (x13_2 : Int).toNat * 4, none⟩ (.string ((rd_T49 x0_2 (ji21)).f0))).setCell ⟨go26, (x13_2 : Int).toNat * 4 + 1, none⟩ (.int .i64 ((rd_T49 x0_2 (ji21)).f1))).setCell ⟨go26, (x13_2 : Int).toNat * 4 + 2, none⟩ (.string ((rd_T49 x0_2 (ji21)).f2))).setCell ⟨go26, (x13_2 : Int).toNat * 4 + 3, none⟩ (.bool ((rd_T49 x0_2 (ji21)).f3))).frozen? ⟨go26, ((ji21) : Int).toNat * 4 + 1, none⟩ = false from hf27_1)
            have hz27_2 := (show ((((w28.setCell ⟨go26, (x13_2 : Int).toNat * 4, none⟩ (.string ((rd_T49 x0_2 (ji21)).f0))).setCell ⟨go26, (x13_2 : Int).toNat * 4 + 1, none⟩ (.int .i64 ((rd_T49 x0_2 (ji21)).f1))).setCell ⟨go26, (x13_2 : Int).toNat * 4 + 2, none⟩ (.string ((rd_T49 x0_2 (ji21)).f2))).setCell ⟨go26, (x13_2 : Int).toNat * 4 + 3, none⟩ (.bool ((rd_T49 x0_2 (ji21)).f3))).cell? ⟨go26, ((ji21) : Int).toNat * 4 + 2, none⟩ = _ from hx27_2)
            have hzf27_2 := (show ((((w28.setCell ⟨go26, (x13_2 : Int).toNat * 4, none⟩ (.string ((rd_T49 x0_2 (ji21)).f0))).setCell ⟨go26, (x13_2 : Int).toNat * 4 + 1, none⟩ (.int .i64 ((rd_T49 x0_2 (ji21)).f1))).setCell ⟨go26, (x13_2 : Int).toNat * 4 + 2, none⟩ (.string ((rd_T49 x0_2 (ji21)).f2))).setCell ⟨go26, (x13_2 : Int).toNat * 4 + 3, none⟩ (.bool ((rd_T49 x0_2 (ji21)).f3))).frozen? ⟨go26, ((ji21) : Int).toNat * 4 + 2, none⟩ = false from hf27_2)
            have hz27_3 := (show ((((w28.setCell ⟨go26, (x13_2 : Int).toNat * 4, none⟩ (.string ((rd_T49 x0_2 (ji21)).f0))).setCell ⟨go26, (x13_2 : Int).toNat * 4 + 1, none⟩ (.int .i64 ((rd_T49 x0_2 (ji21)).f1))).setCell ⟨go26, (x13_2 : Int).toNat * 4 + 2, none⟩ (.string ((rd_T49 x0_2 (ji21)).f2))).setCell ⟨go26, (x13_2 : Int).toNat * 4 + 3, none⟩ (.bool ((rd_T49 x0_2 (ji21)).f3))).cell? ⟨go26, ((ji21) : Int).toNat * 4 + 3, none⟩ = _ from hx27_3)
            have hzf27_3 := (show ((((w28.setCell ⟨go26, (x13_2 : Int).toNat * 4, none⟩ (.string ((rd_T49 x0_2 (ji21)).f0))).setCell ⟨go26, (x13_2 : Int).toNat * 4 + 1, none⟩ (.int .i64 ((rd_T49 x0_2 (ji21)).f1))).setCell ⟨go26, (x13_2 : Int).toNat * 4 + 2, none⟩ (.string ((rd_T49 x0_2 (ji21)).f2))).setCell ⟨go26, (x13_2 : Int).toNat * 4 + 3, none⟩ (.bool ((rd_T49 x0_2 (ji21)).f3))).frozen? ⟨go26, ((ji21) : Int).toNat * 4 + 3, none⟩ = false from hf27_3)
            refine skip_ (w1 := ?_) (by rfl) rfl ?_ ?_
            rotate_left
            ·go_simp
             rfl
            refine hK.out _ _ ?_
            clear hK K
            refine done_ (done_of HT_.out (by kernel_rfl)) ?_
            try go_wp2
            go_roundg k2
            case measure => have := HK1.out; have := HK2.out; omega
            case rel => exact ⟨(y302), (ji21), (by first | rfl | (simp; done) | (simp only [← hji21] <;> (first | rfl | simp)) | (simp [*]; done)), H', ⟨by have := HK1.out; have := HK2.out; omega⟩, ⟨q_r (HQ31.out)⟩, ⟨by repeat (first | (with_reducible first | exact HK.out | apply Kept.alloc | apply Kept.drewN | apply Kept.drew | refine Kept.setCell ?_ HMgo26.out _ | refine Kept.setCell ?_ HMgo26.out _ | refine Kept.setCell ?_ HMgo26.out _ | refine Kept.setCell ?_ HMgo26.out _ | refine Kept.setCell ?_ HMgo26.out _ | refine Kept.setCell ?_ HMgo26.out _ | refine Kept.setCell ?_ HMgo26.out _ | refine Kept.setCell ?_ HMgo26.out _) | exact HK.out)⟩, ⟨bq⟩⟩
           ·rw [if_neg c25] at H
            exact absurd H (by simp)
          ·rw [if_neg c24] at H
           exact absurd H (by simp)
         ·rw [if_neg c23] at H
          exact absurd H (by simp)
        ·rw [if_neg c22] at H
         exact absurd H (by simp)
       ·rw [if_neg c20] at H
        have c20b0 := decide_eq_false c20
        clear c20
        obtain rfl := Option.some.inj H
        go_wp2
        first | go_end0 | ((try simp only [Exit.inBlock, Exit.then]); refine bodyPost_ret (results_none rfl _ _ _) rfl ?_)
        exact ⟨q_e, q_r (HO_0.out), bq, q_k⟩
 ·rw [if_neg c5] at H
  have c5b0 : ((wrap64 (a2 - a1)) == 1) = false := beq_eq_false_iff_ne.mpr c5
  have c5b1 : ((wrap64 (a2 - a1)) != 1) = true := bne_iff_ne.mpr c5
  by_cases c32 : (wrap64 (a3 - a2)) = 1
  ·rw [if_pos c32] at H
   have c32b0 : ((wrap64 (a3 - a2)) == 1) = true := beq_iff_eq.mpr c32
   have c32b1 : ((wrap64 (a3 - a2)) != 1) = false := bne_eq_false_iff_eq.mpr c32
   clear c32
   have H' := am H
   clear H
   go_enter Try.func138, Try.ntmps138
   go_wp2
   go_loopg [14, 15] k (fun kq v14 v15 w' => ∃ (x14_1 : Int) (x15_1 : Int), v14 = .int .i64 x14_1 ∧ v15 = .int .i64 x15_1 ∧ Aside0 (slices_symMergeCmpFunc_impl_Row.l2 kq l0 a2 x14_1 x15_1 = some r) ∧ Aside0 (kq ≤ k) ∧ Aside0 (Kd.R k49 49 w' w0.heap.size (fun k_ => (P0_ k_ ∨ w.heap.size ≤ k_)) u9000_ l0) ∧ Aside0 (Kept w w' (fun k_ => P0_ k_)) ∧ Aside0 (Below w0.heap.size w0 w'))
   case atStart => exact ⟨(a1), (a2), q_i, q_i, H', ⟨Nat.le_refl _⟩, ⟨q_r (HO0.out)⟩, ⟨q_k⟩, ⟨bq⟩⟩
   case round =>
    clear H'
    (try clear c1); (try clear c2); (try clear p2); (try clear q2); (try clear hx2); (try clear c3); (try clear p3); (try clear q3); (try clear hx3); (try clear c5); (try clear c5b0); (try clear c5b1)
    (try clear c6); (try clear c6b0); (try clear p6); (try clear c8); (try clear c8b0); (try clear c9); (try clear c9b0); (try clear c10); (try clear c10b0); (try clear c11); (try clear c11b0); (try clear c13)
    (try clear c13b0); (try clear c20); (try clear c20b0); (try clear c22); (try clear c22b0); (try clear c23); (try clear c23b0); (try clear c24); (try clear c24b0); (try clear c25); (try clear c25b0)
    (try clear c26); (try clear p26); (try clear q26); (try clear hx26); (try clear hf26); (try clear c27); (try clear p27); (try clear q27); (try clear hx27); (try clear hf27); (try clear p29); (try clear q29)
    (try clear hx29); (try clear c30); (try clear p30); (try clear q30); (try clear hx30); (try clear c31); (try clear c32); (try clear c32b0); (try clear c32b1); (try clear hx26_0); (try clear hx26_1)
    (try clear hx26_2); (try clear hx26_3); (try clear hx27_0); (try clear hx27_1); (try clear hx27_2); (try clear hx27_3); (try clear hx296_0); (try clear hx296_1); (try clear hx296_2); (try clear hx296_3)
    (try clear hx297_0); (try clear hx297_1); (try clear hx297_2); (try clear hx297_3); (try clear hx299_0); (try clear hx299_1); (try clear hx299_2); (try clear hx299_3); (try clear hx300_0); (try clear hx300_1)
    (try clear hx300_2); (try clear hx300_3); (try clear p2); (try clear p26); (try clear p27); (try clear p296); (try clear p297); (try clear p299); (try clear p300); (try clear p6); (try clear q2); (try clear q26)
    (try clear q27); (try clear q296); (try clear q297); (try clear q299); (try clear q300)
    obtain ⟨x14_1, x15_1, rfl, rfl, HA, HK1, HO_0, HK, HB⟩ := hrel
    cases gk with
    | zero => exact absurd HA.out (by simp [slices_symMergeCmpFunc_impl_Row.l2])
    | succ k1 =>
     have H := HA.out
     clear HA
     simp only [slices_symMergeCmpFunc_impl_Row.l2] at H
     by_cases c33 : x14_1 < x15_1
     ·rw [if_pos c33] at H
      have c33b0 := decide_eq_true c33
      clear c33
      by_cases c34 : 0 ≤ a2
      ·rw [if_pos c34] at H
       have c34b0 := decide_eq_true c34
       clear c34
       by_cases c35 : a2 < (l0.length : Int)
       ·rw [if_pos c35] at H
        have c35b0 := decide_eq_true c35
        clear c35
        obtain ⟨ji36, hji36⟩ : ∃ j_ : Int, (wrap64 ((IntKind.u64.wrap (wrap64 (x14_1 + x15_1))) / 2)) = j_ := ⟨_, rfl⟩
        replace H : (if 0 ≤ (ji36) then (if (ji36) < (l0.length : Int) then ((impl_compareRows.f k1 ((rd_T49 l0 a2).f0) ((rd_T49 l0 a2).f1) ((rd_T49 l0 a2).f2) ((rd_T49 l0 a2).f3) ((rd_T49 l0 (ji36)).f0) ((rd_T49 l0 (ji36)).f1) ((rd_T49 l0 (ji36)).f2) ((rd_T49 l0 (ji36)).f3)).bind fun t305 => (if t305 < 0 then (slices_symMergeCmpFunc_impl_Row.l2 k1 l0 a2 x14_1 ji36) else (slices_symMergeCmpFunc_impl_Row.l2 k1 l0 a2 (wrap64 ((ji36) + 1)) x15_1))) else (none)) else (none)) = some r := by first | (rw [hji36] at H; exact H) | (simp only [hji36] at H ⊢; exact H)
        have hji36w : (IntKind.i64.wrap ((IntKind.u64.wrap (wrap64 (x14_1 + x15_1))) / 2)) = ji36 := (i64_w _).trans hji36
        by_cases c37 : 0 ≤ (ji36)
        ·rw [if_pos c37] at H
         have c37b0 := decide_eq_true c37
         clear c37
         by_cases c38 : (ji36) < (l0.length : Int)
         ·rw [if_pos c38] at H
          have c38b0 := decide_eq_true c38
          clear c38
          replace H := ob H
          obtain ⟨t305, A390, H⟩ := H
          replace H : (if t305 < 0 then (slices_symMergeCmpFunc_impl_Row.l2 k1 l0 a2 x14_1 ji36) else (slices_symMergeCmpFunc_impl_Row.l2 k1 l0 a2 (wrap64 ((ji36) + 1)) x15_1)) = some r := H
          have A39 := am A390
          clear A390
          by_cases c40 : t305 < 0
          ·rw [if_pos c40] at H
           have c40b0 := decide_eq_true c40
           clear c40
           have H' := am H
           clear H
           try go_wp2
           have n0_ := am (Kd.R_drew HO_0.out)
           have n1_ := am (Kept.drew HK.out)
           have n2_ := am (below_drew1 HB.out)
           clear HO_0
           clear HK
           clear HB
           have HO_0 := n0_
           have HK := n1_
           have HB := n2_
           clear n0_ n1_ n2_
           obtain ⟨Ao42, co42, eo42⟩ := Kd.R_slice HO_0.out
           (first | subst eo42 | (injection eo42 with f1_ f2_ f3_; have f4_ := f1_.symm; have f5_ := f3_.symm; clear f1_ f2_ f3_; subst f4_; subst f5_))
           have p303 : 0 ≤ (a2 : Int) := q_d
           have q303 : a2 < (l0.length : Int) := q_d
           obtain ⟨ad303, e303, hx303_0, hx303_1, hx303_2, hx303_3⟩ := at_T49 (Kd.R_reads' HO_0.out).2.2 a2 p303 q303
           cases e303
           replace p303 := eq_true p303
           replace q303 := eq_true q303
           have p304 : 0 ≤ ((ji36) : Int) := q_d
           have q304 : (ji36) < (l0.length : Int) := q_d
           obtain ⟨ad304, e304, hx304_0, hx304_1, hx304_2, hx304_3⟩ := at_T49 (Kd.R_reads' HO_0.out).2.2 (ji36) p304 q304
           obtain rfl : ad303 = ad304 := (by injection e304)
           replace p304 := eq_true p304
           replace q304 := eq_true q304
           refine start_ (n := 12) (S := fun w' => w'.cell? (ad303.add ((a2).toNat * 4)) = some (.string ((rd_T49 l0 a2).f0)) ∧ w'.cell? ⟨(ad303.add ((a2).toNat * 4)).block, (ad303.add ((a2).toNat * 4)).off + 1, none⟩ = some (.int .i64 ((rd_T49 l0 a2).f1)) ∧ w'.cell? ⟨(ad303.add ((a2).toNat * 4)).block, (ad303.add ((a2).toNat * 4)).off + 2, none⟩ = some (.string ((rd_T49 l0 a2).f2)) ∧ w'.cell? ⟨(ad303.add ((a2).toNat * 4)).block, (ad303.add ((a2).toNat * 4)).off + 3, none⟩ = some (.bool ((rd_T49 l0 a2).f3)) ∧ w'.cell? (ad303.add (((ji36)).toNat * 4)) = some (.string ((rd_T49 l0 (ji36)).f0)) ∧ w'.cell? ⟨(ad303.add (((ji36)).toNat * 4)).block, (ad303.add (((ji36)).toNat * 4)).off + 1, none⟩ = some (.int .i64 ((rd_T49 l0 (ji36)).f1)) ∧ w'.cell? ⟨(ad303.add (((ji36)).toNat * 4)).block, (ad303.add (((ji36)).toNat * 4)).off + 2, none⟩ = some (.string ((rd_T49 l0 (ji36)).f2)) ∧ w'.cell? ⟨(ad303.add (((ji36)).toNat * 4)).block, (ad303.add (((ji36)).toNat * 4)).off + 3, none⟩ = some (.bool ((rd_T49 l0 (ji36)).f3))) (ds := []) #[false, false, false, false, false, false, false, false, false, false, false, false] (by kernel_rfl) rfl rfl ⟨hx303_0, hx303_1, hx303_2, hx303_3, hx304_0, hx304_1, hx304_2, hx304_3⟩ (fun hHeld => ?_); refine with_tabW slices_symMergeCmpFunc_impl_Row.tab17 slices_symMergeCmpFunc_impl_Row.bits17 (fun HT_ HW_ => ?_)
           generalize wr.drew = w41 at HO_0 HK HB hx303_0 hx303_1 hx303_2 hx303_3 hx304_0 hx304_1 hx304_2 hx304_3 hHeld ⊢
           refine q_p 0 (some 92) #[true, false, false, false, false, false, false, false, false, false, false, false] HT_.out ?_
           refine q_p 1 (some 93) #[true, true, false, false, false, false, false, false, false, false, false, false] HT_.out ?_
           refine q_p 2 (some 94) #[true, true, true, false, false, false, false, false, false, false, false, false] HT_.out ?_
           refine q_p 3 (some 95) #[true, true, true, true, false, false, false, false, false, false, false, false] HT_.out ?_
           refine q_p 5 (some 97) #[true, true, true, true, false, true, false, false, false, false, false, false] HT_.out ?_
           refine q_p 6 (some 98) #[true, true, true, true, false, true, true, false, false, false, false, false] HT_.out ?_
           refine q_p 7 (some 99) #[true, true, true, true, false, true, true, true, false, false, false, false] HT_.out ?_
           refine q_t 4 (some 96) #[true, true, true, true, true, true, true, true, false, false, false, false] HT_.out HW_.out hHeld ?_
           refine q_t 8 (some 100) #[true, true, true, true, true, true, true, true, true, false, false, false] HT_.out HW_.out hHeld ?_
           refine one_ (i := 9) (N := some 101) #[true, true, true, true, true, true, true, true, true, true, false, false] rfl rfl (one_of HT_.out (by kernel_rfl)) (by decide) (fun K hK => ?_)
           refine print_goesR Try.func67 (by kernel_rfl) rfl #[.agg #[.string ((rd_T49 l0 a2).f0), .int .i64 ((rd_T49 l0 a2).f1), .string ((rd_T49 l0 a2).f2), .bool ((rd_T49 l0 a2).f3)], .agg #[.string ((rd_T49 l0 (ji36)).f0), .int .i64 ((rd_T49 l0 (ji36)).f1), .string ((rd_T49 l0 (ji36)).f2), .bool ((rd_T49 l0 (ji36)).f3)]] (by rfl) rfl rfl rfl (by (try simp only [List.map_toArray, List.map_cons, List.map_nil]); first | done | (simp only [hji36]; rfl) | rfl | (simp only [List.length_drop, List.length_take]; rfl)) ?_
           with_reducible refine (impl_compareRows.calls k1 ((rd_T49 l0 a2).f0) ((rd_T49 l0 a2).f1) ((rd_T49 l0 a2).f2) ((rd_T49 l0 a2).f3) ((rd_T49 l0 (ji36)).f0) ((rd_T49 l0 (ji36)).f1) ((rd_T49 l0 (ji36)).f2) ((rd_T49 l0 (ji36)).f3) t305 _ A39.out).mono ?_
           rintro e w43 ⟨rfl, hb⟩
           have HS0_ := (hb.cell (wb (hHeld.1))).trans (hHeld.1)
           have HS1_ := (hb.cell (wb (hHeld.2.1))).trans (hHeld.2.1)
           have HS2_ := (hb.cell (wb (hHeld.2.2.1))).trans (hHeld.2.2.1)
           have HS3_ := (hb.cell (wb (hHeld.2.2.2.1))).trans (hHeld.2.2.2.1)
           have HS4_ := (hb.cell (wb (hHeld.2.2.2.2.1))).trans (hHeld.2.2.2.2.1)
           have HS5_ := (hb.cell (wb (hHeld.2.2.2.2.2.1))).trans (hHeld.2.2.2.2.2.1)
           have HS6_ := (hb.cell (wb (hHeld.2.2.2.2.2.2.1))).trans (hHeld.2.2.2.2.2.2.1)
           have HS7_ := (hb.cell (wb (hHeld.2.2.2.2.2.2.2))).trans (hHeld.2.2.2.2.2.2.2)
           refine ⟨_, rfl, ?_⟩
           have n0_ := am (Kd.R_below (q_r (HO_0.out)) hb)
           have n1_ := am (Kept.below (S := (fun k_ => P0_ k_)) q_k hb)
           have n2_ := am (below_step bq hb)
           clear HO_0
           clear HK
           clear HB
           have HO_0 := n0_
           have HK := n1_
           have HB := n2_
           clear n0_ n1_ n2_
           (try clear hb)
           (try clear hb2)
           (try clear hk)
           (try clear hi)
           refine hK.out _ _ ⟨HS0_, HS1_, HS2_, HS3_, HS4_, HS5_, HS6_, HS7_⟩ (fun hHeld => ?_)
           clear hK K
           refine norm_ (a' := ?_) ?_ ?_
           rotate_left
           ·show Act.put _ (some 101) _ = _
            simp only [Act.put, List.setIfInBounds_toArray, List.set_cons_zero, List.set_cons_succ, i64_w, i32_w]
            rfl
           refine q_p 10 (some 102) #[true, true, true, true, true, true, true, true, true, true, true, false] HT_.out ?_
           refine q_p 11 (some 103) #[true, true, true, true, true, true, true, true, true, true, true, true] HT_.out ?_
           refine done_ (done_of HT_.out (by kernel_rfl)) ?_
           try go_wp2
           go_roundg k1
           case measure => have := HK1.out; omega
           case rel => exact ⟨(x14_1), (ji36), q_i, (by first | rfl | (simp; done) | (simp only [← hji36] <;> (first | rfl | simp)) | (simp [*]; done)), H', ⟨by have := HK1.out; omega⟩, ⟨q_r (HO_0.out)⟩, ⟨q_k⟩, ⟨bq⟩⟩
          ·rw [if_neg c40] at H
           have c40b0 := decide_eq_false c40
           clear c40
           have H' := am H
           clear H
           try go_wp2
           have n0_ := am (Kd.R_drew HO_0.out)
           have n1_ := am (Kept.drew HK.out)
           have n2_ := am (below_drew1 HB.out)
           clear HO_0
           clear HK
           clear HB
           have HO_0 := n0_
           have HK := n1_
           have HB := n2_
           clear n0_ n1_ n2_
           obtain ⟨Ao45, co45, eo45⟩ := Kd.R_slice HO_0.out
           (first | subst eo45 | (injection eo45 with f1_ f2_ f3_; have f4_ := f1_.symm; have f5_ := f3_.symm; clear f1_ f2_ f3_; subst f4_; subst f5_))
           have p303 : 0 ≤ (a2 : Int) := q_d
           have q303 : a2 < (l0.length : Int) := q_d
           obtain ⟨ad303, e303, hx303_0, hx303_1, hx303_2, hx303_3⟩ := at_T49 (Kd.R_reads' HO_0.out).2.2 a2 p303 q303
           cases e303
           replace p303 := eq_true p303
           replace q303 := eq_true q303
           have p304 : 0 ≤ ((ji36) : Int) := q_d
           have q304 : (ji36) < (l0.length : Int) := q_d
           obtain ⟨ad304, e304, hx304_0, hx304_1, hx304_2, hx304_3⟩ := at_T49 (Kd.R_reads' HO_0.out).2.2 (ji36) p304 q304
           obtain rfl : ad303 = ad304 := (by injection e304)
           replace p304 := eq_true p304
           replace q304 := eq_true q304
           refine start_ (n := 12) (S := fun w' => w'.cell? (ad303.add ((a2).toNat * 4)) = some (.string ((rd_T49 l0 a2).f0)) ∧ w'.cell? ⟨(ad303.add ((a2).toNat * 4)).block, (ad303.add ((a2).toNat * 4)).off + 1, none⟩ = some (.int .i64 ((rd_T49 l0 a2).f1)) ∧ w'.cell? ⟨(ad303.add ((a2).toNat * 4)).block, (ad303.add ((a2).toNat * 4)).off + 2, none⟩ = some (.string ((rd_T49 l0 a2).f2)) ∧ w'.cell? ⟨(ad303.add ((a2).toNat * 4)).block, (ad303.add ((a2).toNat * 4)).off + 3, none⟩ = some (.bool ((rd_T49 l0 a2).f3)) ∧ w'.cell? (ad303.add (((ji36)).toNat * 4)) = some (.string ((rd_T49 l0 (ji36)).f0)) ∧ w'.cell? ⟨(ad303.add (((ji36)).toNat * 4)).block, (ad303.add (((ji36)).toNat * 4)).off + 1, none⟩ = some (.int .i64 ((rd_T49 l0 (ji36)).f1)) ∧ w'.cell? ⟨(ad303.add (((ji36)).toNat * 4)).block, (ad303.add (((ji36)).toNat * 4)).off + 2, none⟩ = some (.string ((rd_T49 l0 (ji36)).f2)) ∧ w'.cell? ⟨(ad303.add (((ji36)).toNat * 4)).block, (ad303.add (((ji36)).toNat * 4)).off + 3, none⟩ = some (.bool ((rd_T49 l0 (ji36)).f3))) (ds := []) #[false, false, false, false, false, false, false, false, false, false, false, false] (by kernel_rfl) rfl rfl ⟨hx303_0, hx303_1, hx303_2, hx303_3, hx304_0, hx304_1, hx304_2, hx304_3⟩ (fun hHeld => ?_); refine with_tabW slices_symMergeCmpFunc_impl_Row.tab17 slices_symMergeCmpFunc_impl_Row.bits17 (fun HT_ HW_ => ?_)
           generalize wr.drew = w44 at HO_0 HK HB hx303_0 hx303_1 hx303_2 hx303_3 hx304_0 hx304_1 hx304_2 hx304_3 hHeld ⊢
           refine q_p 0 (some 92) #[true, false, false, false, false, false, false, false, false, false, false, false] HT_.out ?_
           refine q_p 1 (some 93) #[true, true, false, false, false, false, false, false, false, false, false, false] HT_.out ?_
           refine q_p 2 (some 94) #[true, true, true, false, false, false, false, false, false, false, false, false] HT_.out ?_
           refine q_p 3 (some 95) #[true, true, true, true, false, false, false, false, false, false, false, false] HT_.out ?_
           refine q_p 5 (some 97) #[true, true, true, true, false, true, false, false, false, false, false, false] HT_.out ?_
           refine q_p 6 (some 98) #[true, true, true, true, false, true, true, false, false, false, false, false] HT_.out ?_
           refine q_p 7 (some 99) #[true, true, true, true, false, true, true, true, false, false, false, false] HT_.out ?_
           refine q_t 4 (some 96) #[true, true, true, true, true, true, true, true, false, false, false, false] HT_.out HW_.out hHeld ?_
           refine q_t 8 (some 100) #[true, true, true, true, true, true, true, true, true, false, false, false] HT_.out HW_.out hHeld ?_
           refine one_ (i := 9) (N := some 101) #[true, true, true, true, true, true, true, true, true, true, false, false] rfl rfl (one_of HT_.out (by kernel_rfl)) (by decide) (fun K hK => ?_)
           refine print_goesR Try.func67 (by kernel_rfl) rfl #[.agg #[.string ((rd_T49 l0 a2).f0), .int .i64 ((rd_T49 l0 a2).f1), .string ((rd_T49 l0 a2).f2), .bool ((rd_T49 l0 a2).f3)], .agg #[.string ((rd_T49 l0 (ji36)).f0), .int .i64 ((rd_T49 l0 (ji36)).f1), .string ((rd_T49 l0 (ji36)).f2), .bool ((rd_T49 l0 (ji36)).f3)]] (by rfl) rfl rfl rfl (by (try simp only [List.map_toArray, List.map_cons, List.map_nil]); first | done | (simp only [hji36]; rfl) | rfl | (simp only [List.length_drop, List.length_take]; rfl)) ?_
           with_reducible refine (impl_compareRows.calls k1 ((rd_T49 l0 a2).f0) ((rd_T49 l0 a2).f1) ((rd_T49 l0 a2).f2) ((rd_T49 l0 a2).f3) ((rd_T49 l0 (ji36)).f0) ((rd_T49 l0 (ji36)).f1) ((rd_T49 l0 (ji36)).f2) ((rd_T49 l0 (ji36)).f3) t305 _ A39.out).mono ?_
           rintro e w46 ⟨rfl, hb⟩
           have HS0_ := (hb.cell (wb (hHeld.1))).trans (hHeld.1)
           have HS1_ := (hb.cell (wb (hHeld.2.1))).trans (hHeld.2.1)
           have HS2_ := (hb.cell (wb (hHeld.2.2.1))).trans (hHeld.2.2.1)
           have HS3_ := (hb.cell (wb (hHeld.2.2.2.1))).trans (hHeld.2.2.2.1)
           have HS4_ := (hb.cell (wb (hHeld.2.2.2.2.1))).trans (hHeld.2.2.2.2.1)
           have HS5_ := (hb.cell (wb (hHeld.2.2.2.2.2.1))).trans (hHeld.2.2.2.2.2.1)
           have HS6_ := (hb.cell (wb (hHeld.2.2.2.2.2.2.1))).trans (hHeld.2.2.2.2.2.2.1)
           have HS7_ := (hb.cell (wb (hHeld.2.2.2.2.2.2.2))).trans (hHeld.2.2.2.2.2.2.2)
           refine ⟨_, rfl, ?_⟩
           have n0_ := am (Kd.R_below (q_r (HO_0.out)) hb)
           have n1_ := am (Kept.below (S := (fun k_ => P0_ k_)) q_k hb)
           have n2_ := am (below_step bq hb)
           clear HO_0
           clear HK
           clear HB
           have HO_0 := n0_
           have HK := n1_
           have HB := n2_
           clear n0_ n1_ n2_
           (try clear hb)
           (try clear hb2)
           (try clear hk)
           (try clear hi)
           refine hK.out _ _ ⟨HS0_, HS1_, HS2_, HS3_, HS4_, HS5_, HS6_, HS7_⟩ (fun hHeld => ?_)
           clear hK K
           refine norm_ (a' := ?_) ?_ ?_
           rotate_left
           ·show Act.put _ (some 101) _ = _
            simp only [Act.put, List.setIfInBounds_toArray, List.set_cons_zero, List.set_cons_succ, i64_w, i32_w]
            rfl
           refine q_p 10 (some 102) #[true, true, true, true, true, true, true, true, true, true, true, false] HT_.out ?_
           refine q_p 11 (some 103) #[true, true, true, true, true, true, true, true, true, true, true, true] HT_.out ?_
           refine done_ (done_of HT_.out (by kernel_rfl)) ?_
           try go_wp2
           go_roundg k1
           case measure => have := HK1.out; omega
           case rel => exact ⟨(wrap64 ((ji36) + 1)), (x15_1), (by first | rfl | (simp; done) | (simp only [← hji36] <;> (first | rfl | simp)) | (simp [*]; done)), q_i, H', ⟨by have := HK1.out; omega⟩, ⟨q_r (HO_0.out)⟩, ⟨q_k⟩, ⟨bq⟩⟩
         ·rw [if_neg c38] at H
          exact absurd H (by simp)
        ·rw [if_neg c37] at H
         exact absurd H (by simp)
       ·rw [if_neg c35] at H
        exact absurd H (by simp)
      ·rw [if_neg c34] at H
       exact absurd H (by simp)
     ·rw [if_neg c33] at H
      have c33b0 := decide_eq_false c33
      clear c33
      have H' := am H
      clear H
      go_wp2
      go_loopg [17] k1 (fun kq v17 w' => ∃ (x0_2 : List (S49)) (x17_2 : Int), v17 = .int .i64 x17_2 ∧ Aside0 (slices_symMergeCmpFunc_impl_Row.l3 kq x0_2 x14_1 x17_2 = some r) ∧ Aside0 (kq ≤ k1) ∧ Aside0 (Kd.R k49 49 w' w0.heap.size (fun k_ => (P0_ k_ ∨ w.heap.size ≤ k_)) u9000_ x0_2) ∧ Aside0 (Kept w w' (fun k_ => P0_ k_)) ∧ Aside0 (Below w0.heap.size w0 w'))
      case atStart => exact ⟨(l0), (a2), q_i, H', ⟨Nat.le_refl _⟩, ⟨q_r (HO_0.out)⟩, ⟨q_k⟩, ⟨bq⟩⟩
      case round =>
       clear H'
       (try clear c1); (try clear c2); (try clear p2); (try clear q2); (try clear hx2); (try clear c3); (try clear p3); (try clear q3); (try clear hx3); (try clear c4); (try clear c5); (try clear c5b0)
       (try clear c5b1); (try clear c6); (try clear c6b0); (try clear p6); (try clear c8); (try clear c8b0); (try clear c9); (try clear c9b0); (try clear c10); (try clear c10b0); (try clear c11); (try clear c11b0)
       (try clear c13); (try clear c13b0); (try clear c20); (try clear c20b0); (try clear c22); (try clear c22b0); (try clear c23); (try clear c23b0); (try clear c24); (try clear c24b0); (try clear c25)
       (try clear c25b0); (try clear c26); (try clear p26); (try clear q26); (try clear hx26); (try clear hf26); (try clear c27); (try clear p27); (try clear q27); (try clear hx27); (try clear hf27); (try clear p29)
       (try clear q29); (try clear hx29); (try clear c30); (try clear p30); (try clear q30); (try clear hx30); (try clear c31); (try clear c32); (try clear c32b0); (try clear c32b1); (try clear c33); (try clear c33b0)
       (try clear c34); (try clear c34b0); (try clear c35); (try clear c35b0); (try clear c37); (try clear c37b0); (try clear c38); (try clear c38b0); (try clear c40); (try clear c40b0); (try clear hx26_0)
       (try clear hx26_1); (try clear hx26_2); (try clear hx26_3); (try clear hx27_0); (try clear hx27_1); (try clear hx27_2); (try clear hx27_3); (try clear hx296_0); (try clear hx296_1); (try clear hx296_2)
       (try clear hx296_3); (try clear hx297_0); (try clear hx297_1); (try clear hx297_2); (try clear hx297_3); (try clear hx299_0); (try clear hx299_1); (try clear hx299_2); (try clear hx299_3); (try clear hx300_0)
       (try clear hx300_1); (try clear hx300_2); (try clear hx300_3); (try clear hx303_0); (try clear hx303_1); (try clear hx303_2); (try clear hx303_3); (try clear hx304_0); (try clear hx304_1); (try clear hx304_2)
       (try clear hx304_3); (try clear p2); (try clear p26); (try clear p27); (try clear p29); (try clear p296); (try clear p297); (try clear p299); (try clear p3); (try clear p30); (try clear p300); (try clear p303)
       (try clear p304); (try clear p6); (try clear q2); (try clear q26); (try clear q27); (try clear q29); (try clear q296); (try clear q297); (try clear q299); (try clear q3); (try clear q30); (try clear q300)
       (try clear q303); (try clear q304)
       obtain ⟨x0_2, x17_2, rfl, HA, HK2, HO_0, HK, HB⟩ := hrel
       cases gk with
       | zero => exact absurd HA.out (by simp [slices_symMergeCmpFunc_impl_Row.l3])
       | succ k2 =>
        have H := HA.out
        clear HA
        simp only [slices_symMergeCmpFunc_impl_Row.l3] at H
        by_cases c47 : x17_2 > x14_1
        ·rw [if_pos c47] at H
         have c47b0 := decide_eq_true c47
         clear c47
         obtain ⟨ji48, hji48⟩ : ∃ j_ : Int, (wrap64 (x17_2 - 1)) = j_ := ⟨_, rfl⟩
         replace H : (if 0 ≤ (ji48) then (if (ji48) < (x0_2.length : Int) then (if 0 ≤ x17_2 then (if x17_2 < (x0_2.length : Int) then (slices_symMergeCmpFunc_impl_Row.l3 k2 ((x0_2.set (x17_2 : Int).toNat (⟨(rd_T49 x0_2 (ji48)).f0, (rd_T49 x0_2 (ji48)).f1, (rd_T49 x0_2 (ji48)).f2, (rd_T49 x0_2 (ji48)).f3⟩ : S49)).set ((ji48) : Int).toNat (⟨(rd_T49 x0_2 x17_2).f0, (rd_T49 x0_2 x17_2).f1, (rd_T49 x0_2 x17_2).f2, (rd_T49 x0_2 x17_2).f3⟩ : S49)) x14_1 ji48) else (none)) else (none)) else (none)) else (none)) = some r := by first | (rw [hji48] at H; exact H) | (simp only [hji48] at H ⊢; exact H)
         have hji48w : (IntKind.i64.wrap (x17_2 - 1)) = ji48 := (i64_w _).trans hji48
         by_cases c49 : 0 ≤ (ji48)
         ·rw [if_pos c49] at H
          have c49b0 := decide_eq_true c49
          clear c49
          by_cases c50 : (ji48) < (x0_2.length : Int)
          ·rw [if_pos c50] at H
           have c50b0 := decide_eq_true c50
           clear c50
           by_cases c51 : 0 ≤ x17_2
           ·rw [if_pos c51] at H
            have c51b0 := decide_eq_true c51
            clear c51
            by_cases c52 : x17_2 < (x0_2.length : Int)
            ·rw [if_pos c52] at H
             have c52b0 := decide_eq_true c52
             clear c52
             obtain ⟨y308, hy308⟩ : ∃ y_ : List (S49), y_ = (x0_2.set (x17_2 : Int).toNat (⟨(rd_T49 x0_2 (ji48)).f0, (rd_T49 x0_2 (ji48)).f1, (rd_T49 x0_2 (ji48)).f2, (rd_T49 x0_2 (ji48)).f3⟩ : S49)) := ⟨_, rfl⟩
             replace H : (slices_symMergeCmpFunc_impl_Row.l3 k2 (y308.set ((ji48) : Int).toNat (⟨(rd_T49 x0_2 x17_2).f0, (rd_T49 x0_2 x17_2).f1, (rd_T49 x0_2 x17_2).f2, (rd_T49 x0_2 x17_2).f3⟩ : S49)) x14_1 ji48) = some r := q_h hy308 H
             have Ny308 := am hy308
             clear hy308
             obtain ⟨y309, hy309⟩ : ∃ y_ : List (S49), y_ = (y308.set ((ji48) : Int).toNat (⟨(rd_T49 x0_2 x17_2).f0, (rd_T49 x0_2 x17_2).f1, (rd_T49 x0_2 x17_2).f2, (rd_T49 x0_2 x17_2).f3⟩ : S49)) := ⟨_, rfl⟩
             replace H : (slices_symMergeCmpFunc_impl_Row.l3 k2 y309 x14_1 ji48) = some r := q_h hy309 H
             have Ny309 := am hy309
             clear hy309
             have H' := am H
             clear H
             try go_wp2
             have n0_ := am (Kd.R_drew HO_0.out)
             have n1_ := am (Kept.drew HK.out)
             have n2_ := am (below_drew1 HB.out)
             clear HO_0
             clear HK
             clear HB
             have HO_0 := n0_
             have HK := n1_
             have HB := n2_
             clear n0_ n1_ n2_
             obtain ⟨Ao56, co56, eo56⟩ := Kd.R_slice HO_0.out
             (first | subst eo56 | (injection eo56 with f1_ f2_ f3_; have f4_ := f1_.symm; have f5_ := f3_.symm; clear f1_ f2_ f3_; subst f4_; subst f5_))
             have p306 : 0 ≤ ((ji48) : Int) := q_d
             have q306 : (ji48) < (x0_2.length : Int) := q_d
             obtain ⟨ad306, e306, hx306_0, hx306_1, hx306_2, hx306_3⟩ := at_T49 (Kd.R_reads' HO_0.out).2.2 (ji48) p306 q306
             cases e306
             replace p306 := eq_true p306
             replace q306 := eq_true q306
             have p307 : 0 ≤ (x17_2 : Int) := q_d
             have q307 : x17_2 < (x0_2.length : Int) := q_d
             obtain ⟨ad307, e307, hx307_0, hx307_1, hx307_2, hx307_3⟩ := at_T49 (Kd.R_reads' HO_0.out).2.2 x17_2 p307 q307
             obtain rfl : ad306 = ad307 := (by injection e307)
             replace p307 := eq_true p307
             replace q307 := eq_true q307
             have p53 : 0 ≤ (x17_2 : Int) := q_d
             have q53 : (x17_2 : Int) < ((x0_2.length : Int) : Int) := q_d
             obtain ⟨go53, co53, eo53, gb53, gl53, cl53, HG53⟩ := Kd.R_form HO_0.out (by omega)
             (first | cases eo53 | (injection eo53 with ea_ en_ ec_; (first | subst ea_ | (injection ea_ with ea_; subst ea_)); subst ec_; clear en_))
             have GB53 := am gb53
             have GG53 := am HG53
             clear gb53 gl53 HG53
             have HMgo53 := am (show (P0_ go53 ∨ w.heap.size ≤ go53) from (HO_0.out.1 _ rfl))
             (first | simp only [add_plain] at hx306_0 | skip)
             (first | simp only [add_plain] at hx306_1 | skip)
             (first | simp only [add_plain] at hx306_2 | skip)
             (first | simp only [add_plain] at hx306_3 | skip)
             (first | simp only [add_plain] at hx307_0 | skip)
             (first | simp only [add_plain] at hx307_1 | skip)
             (first | simp only [add_plain] at hx307_2 | skip)
             (first | simp only [add_plain] at hx307_3 | skip)
             obtain ⟨ce53, hcl53, hM53, hcc53, hfr53⟩ := Kd.R_elem HO_0.out z49 (x17_2 : Int) p53 q53
             obtain rfl := k49_openM hM53
             have hx53_0 : World.cell? _ ⟨go53, (x17_2 : Int).toNat * 4, none⟩ = some (.string ((rd_T49 x0_2 x17_2).f0)) := hcc53 0 _ rfl
             have hx53_1 : World.cell? _ ⟨go53, (x17_2 : Int).toNat * 4 + 1, none⟩ = some (.int .i64 ((rd_T49 x0_2 x17_2).f1)) := hcc53 1 _ rfl
             have hx53_2 : World.cell? _ ⟨go53, (x17_2 : Int).toNat * 4 + 2, none⟩ = some (.string ((rd_T49 x0_2 x17_2).f2)) := hcc53 2 _ rfl
             have hx53_3 : World.cell? _ ⟨go53, (x17_2 : Int).toNat * 4 + 3, none⟩ = some (.bool ((rd_T49 x0_2 x17_2).f3)) := hcc53 3 _ rfl
             have hf53_0 : World.frozen? _ ⟨go53, (x17_2 : Int).toNat * 4, none⟩ = false := hfr53 0
             have hf53_1 : World.frozen? _ ⟨go53, (x17_2 : Int).toNat * 4 + 1, none⟩ = false := hfr53 1
             have hf53_2 : World.frozen? _ ⟨go53, (x17_2 : Int).toNat * 4 + 2, none⟩ = false := hfr53 2
             have hf53_3 : World.frozen? _ ⟨go53, (x17_2 : Int).toNat * 4 + 3, none⟩ = false := hfr53 3
             clear hcl53 hcc53 hfr53; (try clear hM53)
             replace p53 := eq_true p53
             replace q53 := eq_true q53
             obtain ⟨ce57, hcl57, hM57, hcc57, hfr57⟩ := Kd.R_elem HO_0.out z49 (x17_2 : Int) q_d (by have h_ : (x17_2 : Int) < ((x0_2.length : Int) : Int) := q_d; first | exact h_ | (have e_ := (Kd.R_reads' HO_0.out).1; omega) | simpa using h_)
             obtain rfl := k49_openM hM57
             have HP57 := (Kd.R_seg HO_0.out (x17_2 : Int) q_d (by have h_ : (x17_2 : Int) < ((x0_2.length : Int) : Int) := q_d; first | exact h_ | (have e_ := (Kd.R_reads' HO_0.out).1; omega) | simpa using h_) (seg := [.string ((rd_T49 x0_2 (ji48)).f0), .int .i64 ((rd_T49 x0_2 (ji48)).f1), .string ((rd_T49 x0_2 (ji48)).f2), .bool ((rd_T49 x0_2 (ji48)).f3)]) (j := 0) hcl57 hcc57 (show 4 ≤ 4 from by decide) (x' := (⟨(rd_T49 x0_2 (ji48)).f0, (rd_T49 x0_2 (ji48)).f1, (rd_T49 x0_2 (ji48)).f2, (rd_T49 x0_2 (ji48)).f3⟩ : S49)) (k49_mkM _ _ _ (⟨(rd_T49 x0_2 (ji48)).f0, (rd_T49 x0_2 (ji48)).f1, (rd_T49 x0_2 (ji48)).f2, (rd_T49 x0_2 (ji48)).f3⟩ : S49) ) (fun _ hk => hk)).1
             rw [← Ny308.out] at HP57
             have HQ57 := am HP57
             clear hcl57 hcc57 hfr57 HP57; (try clear hM57)
             have p54 : 0 ≤ ((ji48) : Int) := q_d
             have q54 : ((ji48) : Int) < ((x0_2.length : Int) : Int) := q_d
             obtain ⟨ce54, hcl54, hM54, hcc54, hfr54⟩ := Kd.R_elem HQ57.out z49 ((ji48) : Int) p54 q54
             obtain rfl := k49_openM hM54
             have hx54_0 : World.cell? _ ⟨go53, ((ji48) : Int).toNat * 4, none⟩ = some (.string ((rd_T49 y308 (ji48)).f0)) := hcc54 0 _ rfl
             have hx54_1 : World.cell? _ ⟨go53, ((ji48) : Int).toNat * 4 + 1, none⟩ = some (.int .i64 ((rd_T49 y308 (ji48)).f1)) := hcc54 1 _ rfl
             have hx54_2 : World.cell? _ ⟨go53, ((ji48) : Int).toNat * 4 + 2, none⟩ = some (.string ((rd_T49 y308 (ji48)).f2)) := hcc54 2 _ rfl
             have hx54_3 : World.cell? _ ⟨go53, ((ji48) : Int).toNat * 4 + 3, none⟩ = some (.bool ((rd_T49 y308 (ji48)).f3)) := hcc54 3 _ rfl
             have hf54_0 : World.frozen? _ ⟨go53, ((ji48) : Int).toNat * 4, none⟩ = false := hfr54 0
             have hf54_1 : World.frozen? _ ⟨go53, ((ji48) : Int).toNat * 4 + 1, none⟩ = false := hfr54 1
             have hf54_2 : World.frozen? _ ⟨go53, ((ji48) : Int).toNat * 4 + 2, none⟩ = false := hfr54 2
             have hf54_3 : World.frozen? _ ⟨go53, ((ji48) : Int).toNat * 4 + 3, none⟩ = false := hfr54 3
             clear hcl54 hcc54 hfr54; (try clear hM54)
             replace p54 := eq_true p54
             replace q54 := eq_true q54
             obtain ⟨ce58, hcl58, hM58, hcc58, hfr58⟩ := Kd.R_elem HQ57.out z49 ((ji48) : Int) q_d (by have h_ : ((ji48) : Int) < ((x0_2.length : Int) : Int) := q_d; first | exact h_ | (have e_ := (Kd.R_reads' HO_0.out).1; omega) | simpa using h_)
             obtain rfl := k49_openM hM58
             have HP58 := (Kd.R_seg HQ57.out ((ji48) : Int) q_d (by have h_ : ((ji48) : Int) < ((x0_2.length : Int) : Int) := q_d; first | exact h_ | (have e_ := (Kd.R_reads' HO_0.out).1; omega) | simpa using h_) (seg := [.string ((rd_T49 x0_2 x17_2).f0), .int .i64 ((rd_T49 x0_2 x17_2).f1), .string ((rd_T49 x0_2 x17_2).f2), .bool ((rd_T49 x0_2 x17_2).f3)]) (j := 0) hcl58 hcc58 (show 4 ≤ 4 from by decide) (x' := (⟨(rd_T49 x0_2 x17_2).f0, (rd_T49 x0_2 x17_2).f1, (rd_T49 x0_2 x17_2).f2, (rd_T49 x0_2 x17_2).f3⟩ : S49)) (k49_mkM _ _ _ (⟨(rd_T49 x0_2 x17_2).f0, (rd_T49 x0_2 x17_2).f1, (rd_T49 x0_2 x17_2).f2, (rd_T49 x0_2 x17_2).f3⟩ : S49) ) (fun _ hk => hk)).1
             rw [← Ny309.out] at HP58
             have HQ58 := am HP58
             clear hcl58 hcc58 hfr58 HP58; (try clear hM58)
             refine start_ (n := 18) (S := fun w' => w'.cell? ⟨go53, ((ji48)).toNat * 4, none⟩ = some (.string ((rd_T49 x0_2 (ji48)).f0)) ∧ w'.cell? ⟨go53, ((ji48)).toNat * 4 + 1, none⟩ = some (.int .i64 ((rd_T49 x0_2 (ji48)).f1)) ∧ w'.cell? ⟨go53, ((ji48)).toNat * 4 + 2, none⟩ = some (.string ((rd_T49 x0_2 (ji48)).f2)) ∧ w'.cell? ⟨go53, ((ji48)).toNat * 4 + 3, none⟩ = some (.bool ((rd_T49 x0_2 (ji48)).f3)) ∧ w'.cell? ⟨go53, ((x17_2).toNat * 4), none⟩ = some (.string ((rd_T49 x0_2 x17_2).f0)) ∧ w'.cell? ⟨go53, ((x17_2).toNat * 4) + 1, none⟩ = some (.int .i64 ((rd_T49 x0_2 x17_2).f1)) ∧ w'.cell? ⟨go53, ((x17_2).toNat * 4) + 2, none⟩ = some (.string ((rd_T49 x0_2 x17_2).f2)) ∧ w'.cell? ⟨go53, ((x17_2).toNat * 4) + 3, none⟩ = some (.bool ((rd_T49 x0_2 x17_2).f3))) (ds := [15, 17]) #[false, false, false, false, false, false, false, false, false, false, false, false, false, false, false, false, false, false] (by kernel_rfl) rfl rfl ⟨hx306_0, hx306_1, hx306_2, hx306_3, hx307_0, hx307_1, hx307_2, hx307_3⟩ (fun hHeld => ?_); refine with_tabW slices_symMergeCmpFunc_impl_Row.tab23 slices_symMergeCmpFunc_impl_Row.bits23 (fun HT_ HW_ => ?_)
             generalize wr.drew = w55 at HO_0 HK HB GG53 HQ57 HQ58 hf53_0 hf53_1 hf53_2 hf53_3 hf54_0 hf54_1 hf54_2 hf54_3 hx306_0 hx306_1 hx306_2 hx306_3 hx307_0 hx307_1 hx307_2 hx307_3 hx53_0 hx53_1 hx53_2 hx53_3 hx54_0 hx54_1 hx54_2 hx54_3 hHeld ⊢
             refine q_p 0 (some 113) #[true, false, false, false, false, false, false, false, false, false, false, false, false, false, false, false, false, false] HT_.out ?_
             refine q_p 1 (some 114) #[true, true, false, false, false, false, false, false, false, false, false, false, false, false, false, false, false, false] HT_.out ?_
             refine q_p 2 (some 115) #[true, true, true, false, false, false, false, false, false, false, false, false, false, false, false, false, false, false] HT_.out ?_
             refine q_p 3 (some 116) #[true, true, true, true, false, false, false, false, false, false, false, false, false, false, false, false, false, false] HT_.out ?_
             refine q_p 4 (some 117) #[true, true, true, true, true, false, false, false, false, false, false, false, false, false, false, false, false, false] HT_.out ?_
             refine q_p 5 (some 118) #[true, true, true, true, true, true, false, false, false, false, false, false, false, false, false, false, false, false] HT_.out ?_
             refine q_p 6 (some 119) #[true, true, true, true, true, true, true, false, false, false, false, false, false, false, false, false, false, false] HT_.out ?_
             refine q_p 7 (some 120) #[true, true, true, true, true, true, true, true, false, false, false, false, false, false, false, false, false, false] HT_.out ?_
             refine q_p 8 (some 121) #[true, true, true, true, true, true, true, true, true, false, false, false, false, false, false, false, false, false] HT_.out ?_
             refine q_p 10 (some 123) #[true, true, true, true, true, true, true, true, true, false, true, false, false, false, false, false, false, false] HT_.out ?_
             refine q_p 11 (some 124) #[true, true, true, true, true, true, true, true, true, false, true, true, false, false, false, false, false, false] HT_.out ?_
             refine q_p 12 (some 125) #[true, true, true, true, true, true, true, true, true, false, true, true, true, false, false, false, false, false] HT_.out ?_
             refine q_t 9 (some 122) #[true, true, true, true, true, true, true, true, true, true, true, true, true, false, false, false, false, false] HT_.out HW_.out hHeld ?_
             refine q_t 13 (some 126) #[true, true, true, true, true, true, true, true, true, true, true, true, true, true, false, false, false, false] HT_.out HW_.out hHeld ?_
             refine q_p 14 (some 127) #[true, true, true, true, true, true, true, true, true, true, true, true, true, true, true, false, false, false] HT_.out ?_
             refine last_ (i := 15) (N := none) #[true, true, true, true, true, true, true, true, true, true, true, true, true, true, true, true, false, false] rfl rfl (one_of HT_.out (by kernel_rfl)) (by decide) (fun K hK => ?_)
             refine skip_ (w1 := ?_) (by rfl) rfl ?_ ?_
             rotate_left
             ·go_simp
              rfl
             refine hK.out _ _ ?_
             clear hK K
             refine q_p 16 (some 128) #[true, true, true, true, true, true, true, true, true, true, true, true, true, true, true, true, true, false] HT_.out ?_
             refine last_ (i := 17) (N := none) #[true, true, true, true, true, true, true, true, true, true, true, true, true, true, true, true, true, true] rfl rfl (one_of HT_.out (by kernel_rfl)) (by decide) (fun K hK => ?_)
             have hz54_0 := (show ((((w55.setCell ⟨go53, (x17_2 : Int).toNat * 4, none⟩ (.string ((rd_T49 x0_2 (ji48)).f0))).setCell ⟨go53, (x17_2 : Int).toNat * 4 + 1, none⟩ (.int .i64 ((rd_T49 x0_2 (ji48)).f1))).setCell ⟨go53, (x17_2 : Int).toNat * 4 + 2, none⟩ (.string ((rd_T49 x0_2 (ji48)).f2))).setCell ⟨go53, (x17_2 : Int).toNat * 4 + 3, none⟩ (.bool ((rd_T49 x0_2 (ji48)).f3))).cell? ⟨go53, ((ji48) : Int).toNat * 4, none⟩ = _ from hx54_0)
             have hzf54_0 := (show ((((w55.setCell ⟨go53, (x17_2 : Int).toNat * 4, none⟩ (.string ((rd_T49 x0_2 (ji48)).f0))).setCell ⟨go53, (x17_2 : Int).toNat * 4 + 1, none⟩ (.int .i64 ((rd_T49 x0_2 (ji48)).f1))).setCell ⟨go53, (x17_2 : Int).toNat * 4 + 2, none⟩ (.string ((rd_T49 x0_2 (ji48)).f2))).setCell ⟨go53, (x17_2 : Int).toNat * 4 + 3, none⟩ (.bool ((rd_T49 x0_2 (ji48)).f3))).frozen? ⟨go53, ((ji48) : Int).toNat * 4, none⟩ = false from hf54_0)
             have hz54_1 := (show ((((w55.setCell ⟨go53, (x17_2 : Int).toNat * 4, none⟩ (.string ((rd_T49 x0_2 (ji48)).f0))).setCell ⟨go53, (x17_2 : Int).toNat * 4 + 1, none⟩ (.int .i64 ((rd_T49 x0_2 (ji48)).f1))).setCell ⟨go53, (x17_2 : Int).toNat * 4 + 2, none⟩ (.string ((rd_T49 x0_2 (ji48)).f2))).setCell ⟨go53, (x17_2 : Int).toNat * 4 + 3, none⟩ (.bool ((rd_T49 x0_2 (ji48)).f3))).cell? ⟨go53, ((ji48) : Int).toNat * 4 + 1, none⟩ = _ from hx54_1)
             have hzf54_1 := (show ((((w55.setCell ⟨go53, (x17_2 : Int).toNat * 4, none⟩ (.string ((rd_T49 x0_2 (ji48)).f0))).setCell ⟨go53, (x17_2 : Int).toNat * 4 + 1, none⟩ (.int .i64 ((rd_T49 x0_2 (ji48)).f1))).setCell ⟨go53, (x17_2 : Int).toNat * 4 + 2, none⟩ (.string ((rd_T49 x0_2 (ji48)).f2))).setCell ⟨go53, (x17_2 : Int).toNat * 4 + 3, none⟩ (.bool ((rd_T49 x0_2 (ji48)).f3))).frozen? ⟨go53, ((ji48) : Int).toNat * 4 + 1, none⟩ = false from hf54_1)
             have hz54_2 := (show ((((w55.setCell ⟨go53, (x17_2 : Int).toNat * 4, none⟩ (.string ((rd_T49 x0_2 (ji48)).f0))).setCell ⟨go53, (x17_2 : Int).toNat * 4 + 1, none⟩ (.int .i64 ((rd_T49 x0_2 (ji48)).f1))).setCell ⟨go53, (x17_2 : Int).toNat * 4 + 2, none⟩ (.string ((rd_T49 x0_2 (ji48)).f2))).setCell ⟨go53, (x17_2 : Int).toNat * 4 + 3, none⟩ (.bool ((rd_T49 x0_2 (ji48)).f3))).cell? ⟨go53, ((ji48) : Int).toNat * 4 + 2, none⟩ = _ from hx54_2)
             have hzf54_2 := (show ((((w55.setCell ⟨go53, (x17_2 : Int).toNat * 4, none⟩ (.string ((rd_T49 x0_2 (ji48)).f0))).setCell ⟨go53, (x17_2 : Int).toNat * 4 + 1, none⟩ (.int .i64 ((rd_T49 x0_2 (ji48)).f1))).setCell ⟨go53, (x17_2 : Int).toNat * 4 + 2, none⟩ (.string ((rd_T49 x0_2 (ji48)).f2))).setCell ⟨go53, (x17_2 : Int).toNat * 4 + 3, none⟩ (.bool ((rd_T49 x0_2 (ji48)).f3))).frozen? ⟨go53, ((ji48) : Int).toNat * 4 + 2, none⟩ = false from hf54_2)
             have hz54_3 := (show ((((w55.setCell ⟨go53, (x17_2 : Int).toNat * 4, none⟩ (.string ((rd_T49 x0_2 (ji48)).f0))).setCell ⟨go53, (x17_2 : Int).toNat * 4 + 1, none⟩ (.int .i64 ((rd_T49 x0_2 (ji48)).f1))).setCell ⟨go53, (x17_2 : Int).toNat * 4 + 2, none⟩ (.string ((rd_T49 x0_2 (ji48)).f2))).setCell ⟨go53, (x17_2 : Int).toNat * 4 + 3, none⟩ (.bool ((rd_T49 x0_2 (ji48)).f3))).cell? ⟨go53, ((ji48) : Int).toNat * 4 + 3, none⟩ = _ from hx54_3)
             have hzf54_3 := (show ((((w55.setCell ⟨go53, (x17_2 : Int).toNat * 4, none⟩ (.string ((rd_T49 x0_2 (ji48)).f0))).setCell ⟨go53, (x17_2 : Int).toNat * 4 + 1, none⟩ (.int .i64 ((rd_T49 x0_2 (ji48)).f1))).setCell ⟨go53, (x17_2 : Int).toNat * 4 + 2, none⟩ (.string ((rd_T49 x0_2 (ji48)).f2))).setCell ⟨go53, (x17_2 : Int).toNat * 4 + 3, none⟩ (.bool ((rd_T49 x0_2 (ji48)).f3))).frozen? ⟨go53, ((ji48) : Int).toNat * 4 + 3, none⟩ = false from hf54_3)
             refine skip_ (w1 := ?_) (by rfl) rfl ?_ ?_
             rotate_left
             ·go_simp
              rfl
             refine hK.out _ _ ?_
             clear hK K
             refine done_ (done_of HT_.out (by kernel_rfl)) ?_
             try go_wp2
             go_roundg k2
             case measure => have := HK1.out; have := HK2.out; omega
             case rel => exact ⟨(y309), (ji48), (by first | rfl | (simp; done) | (simp only [← hji48] <;> (first | rfl | simp)) | (simp [*]; done)), H', ⟨by have := HK1.out; have := HK2.out; omega⟩, ⟨q_r (HQ58.out)⟩, ⟨by repeat (first | (with_reducible first | exact HK.out | apply Kept.alloc | apply Kept.drewN | apply Kept.drew | refine Kept.setCell ?_ HMgo53.out _ | refine Kept.setCell ?_ HMgo53.out _ | refine Kept.setCell ?_ HMgo53.out _ | refine Kept.setCell ?_ HMgo53.out _ | refine Kept.setCell ?_ HMgo53.out _ | refine Kept.setCell ?_ HMgo53.out _ | refine Kept.setCell ?_ HMgo53.out _ | refine Kept.setCell ?_ HMgo53.out _) | exact HK.out)⟩, ⟨bq⟩⟩
            ·rw [if_neg c52] at H
             exact absurd H (by simp)
           ·rw [if_neg c51] at H
            exact absurd H (by simp)
          ·rw [if_neg c50] at H
           exact absurd H (by simp)
         ·rw [if_neg c49] at H
          exact absurd H (by simp)
        ·rw [if_neg c47] at H
         have c47b0 := decide_eq_false c47
         clear c47
         obtain rfl := Option.some.inj H
         go_wp2
         first | go_end0 | ((try simp only [Exit.inBlock, Exit.then]); refine bodyPost_ret (results_none rfl _ _ _) rfl ?_)
         exact ⟨q_e, q_r (HO_0.out), bq, q_k⟩
  ·rw [if_neg c32] at H
   have c32b0 : ((wrap64 (a3 - a2)) == 1) = false := beq_eq_false_iff_ne.mpr c32
   have c32b1 : ((wrap64 (a3 - a2)) != 1) = true := bne_iff_ne.mpr c32
   have HC59 := am H
   clear H
   go_enter Try.func138, Try.ntmps138
   go_upto_if 140 with (fail)
   go_cut [18, 19, 20, 21] (fun v18 v19 v20 v21 wc => ∃ (kq : Nat) (x18_58 : Int) (x19_58 : Int) (x20_58 : Int) (x21_58 : Int), v18 = .int .i64 x18_58 ∧ v19 = .int .i64 x19_58 ∧ v20 = .int .i64 x20_58 ∧ v21 = .int .i64 x21_58 ∧ Aside0 (slices_symMergeCmpFunc_impl_Row.j4 kq l0 a1 a2 a3 x18_58 x19_58 x20_58 x21_58 = some r) ∧ Aside0 (kq ≤ k) ∧ Aside0 (Kd.R k49 49 wc w0.heap.size (fun k_ => (P0_ k_ ∨ w.heap.size ≤ k_)) u9000_ l0) ∧ Aside0 (Kept w wc (fun k_ => P0_ k_)) ∧ Aside0 (Below w0.heap.size w0 wc))
   case first => as_aux_lemma =>
    have H := HC59.out
    clear HC59
    by_cases c60 : a2 > (wrap64 ((IntKind.u64.wrap (wrap64 (a1 + a3))) / 2))
    ·rw [if_pos c60] at H
     have c60b0 := decide_eq_true c60
     clear c60
     (first | rw [c60b0] | (simp only [i64_w, i32_w]; rw [c60b0]) | skip)
     have H' := am H
     clear H
     go_wp2
     go_meet
     case rel => exact ⟨_, (wrap64 ((IntKind.u64.wrap (wrap64 (a1 + a3))) / 2)), (wrap64 ((wrap64 ((IntKind.u64.wrap (wrap64 (a1 + a3))) / 2)) + a2)), (wrap64 ((wrap64 ((wrap64 ((IntKind.u64.wrap (wrap64 (a1 + a3))) / 2)) + a2)) - a3)), (wrap64 ((IntKind.u64.wrap (wrap64 (a1 + a3))) / 2)), q_i, q_i, q_i, q_i, H', ⟨by first | omega | exact Nat.le_refl _⟩, ⟨q_r (HO0.out)⟩, ⟨q_k⟩, ⟨bq⟩⟩
    ·rw [if_neg c60] at H
     have c60b0 := decide_eq_false c60
     clear c60
     (first | rw [c60b0] | (simp only [i64_w, i32_w]; rw [c60b0]) | skip)
     have H' := am H
     clear H
     go_wp2
     go_meet
     case rel => exact ⟨_, (wrap64 ((IntKind.u64.wrap (wrap64 (a1 + a3))) / 2)), (wrap64 ((wrap64 ((IntKind.u64.wrap (wrap64 (a1 + a3))) / 2)) + a2)), (a1), (a2), q_i, q_i, q_i, q_i, H', ⟨by first | omega | exact Nat.le_refl _⟩, ⟨q_r (HO0.out)⟩, ⟨q_k⟩, ⟨bq⟩⟩
   case rest =>
    clear HC59
    (try clear c1); (try clear c2); (try clear p2); (try clear q2); (try clear hx2); (try clear c3); (try clear p3); (try clear q3); (try clear hx3); (try clear c4); (try clear c5); (try clear c5b0); (try clear c5b1)
    (try clear p5); (try clear q5); (try clear hx5); (try clear hf5); (try clear c6); (try clear c6b0); (try clear p6); (try clear c8); (try clear c8b0); (try clear c9); (try clear c9b0); (try clear c10)
    (try clear c10b0); (try clear c11); (try clear c11b0); (try clear c13); (try clear c13b0); (try clear c20); (try clear c20b0); (try clear c22); (try clear c22b0); (try clear c23); (try clear c23b0)
    (try clear c24); (try clear c24b0); (try clear c25); (try clear c25b0); (try clear c26); (try clear p26); (try clear q26); (try clear hx26); (try clear hf26); (try clear c27); (try clear p27); (try clear q27)
    (try clear hx27); (try clear hf27); (try clear p29); (try clear q29); (try clear hx29); (try clear c30); (try clear p30); (try clear q30); (try clear hx30); (try clear c31); (try clear c32); (try clear c32b0)
    (try clear c32b1); (try clear c33); (try clear c33b0); (try clear c34); (try clear c34b0); (try clear c35); (try clear c35b0); (try clear c37); (try clear c37b0); (try clear c38); (try clear c38b0)
    (try clear c40); (try clear c40b0); (try clear c47); (try clear c47b0); (try clear c49); (try clear c49b0); (try clear c50); (try clear c50b0); (try clear c51); (try clear c51b0); (try clear c52); (try clear c52b0)
    (try clear c53); (try clear p53); (try clear q53); (try clear hx53); (try clear hf53); (try clear c54); (try clear p54); (try clear q54); (try clear hx54); (try clear hf54); (try clear c57); (try clear c58)
    (try clear c60); (try clear c60b0); (try clear hx26_0); (try clear hx26_1); (try clear hx26_2); (try clear hx26_3); (try clear hx27_0); (try clear hx27_1); (try clear hx27_2); (try clear hx27_3); (try clear hx296_0)
    (try clear hx296_1); (try clear hx296_2); (try clear hx296_3); (try clear hx297_0); (try clear hx297_1); (try clear hx297_2); (try clear hx297_3); (try clear hx299_0); (try clear hx299_1); (try clear hx299_2)
    (try clear hx299_3); (try clear hx300_0); (try clear hx300_1); (try clear hx300_2); (try clear hx300_3); (try clear hx303_0); (try clear hx303_1); (try clear hx303_2); (try clear hx303_3); (try clear hx304_0)
    (try clear hx304_1); (try clear hx304_2); (try clear hx304_3); (try clear hx306_0); (try clear hx306_1); (try clear hx306_2); (try clear hx306_3); (try clear hx307_0); (try clear hx307_1); (try clear hx307_2)
    (try clear hx307_3); (try clear hx53_0); (try clear hx53_1); (try clear hx53_2); (try clear hx53_3); (try clear hx54_0); (try clear hx54_1); (try clear hx54_2); (try clear hx54_3); (try clear p2); (try clear p26)
    (try clear p27); (try clear p29); (try clear p296); (try clear p297); (try clear p299); (try clear p3); (try clear p30); (try clear p300); (try clear p303); (try clear p304); (try clear p306); (try clear p307)
    (try clear p53); (try clear p54); (try clear p6); (try clear q2); (try clear q26); (try clear q27); (try clear q29); (try clear q296); (try clear q297); (try clear q299); (try clear q3); (try clear q30)
    (try clear q300); (try clear q303); (try clear q304); (try clear q306); (try clear q307); (try clear q53); (try clear q54)
    obtain ⟨kq, x18_58, x19_58, x20_58, x21_58, rfl, rfl, rfl, rfl, HA, HJ58, HO_0, HK, HB⟩ := hcut
    cases kq with
    | zero => exact absurd HA.out (by simp [slices_symMergeCmpFunc_impl_Row.j4])
    | succ kj58 =>
     have H := HA.out
     clear HA
     simp only [slices_symMergeCmpFunc_impl_Row.j4] at H
     have H' := am H
     clear H
     go_wp2
     go_loopg [20, 21] kj58 (fun kq v20 v21 w' => ∃ (x20_2 : Int) (x21_2 : Int), v20 = .int .i64 x20_2 ∧ v21 = .int .i64 x21_2 ∧ Aside0 (slices_symMergeCmpFunc_impl_Row.l4 kq l0 a1 a2 a3 x18_58 x19_58 x20_2 x21_2 (wrap64 (x19_58 - 1)) = some r) ∧ Aside0 (kq ≤ kj58) ∧ Aside0 (Kd.R k49 49 w' w0.heap.size (fun k_ => (P0_ k_ ∨ w.heap.size ≤ k_)) u9000_ l0) ∧ Aside0 (Kept w w' (fun k_ => P0_ k_)) ∧ Aside0 (Below w0.heap.size w0 w'))
     case atStart => exact ⟨(x20_58), (x21_58), q_i, q_i, H', ⟨Nat.le_refl _⟩, ⟨q_r (HO_0.out)⟩, ⟨q_k⟩, ⟨bq⟩⟩
     case round =>
      clear H'
      (try clear c1); (try clear c2); (try clear p2); (try clear q2); (try clear hx2); (try clear c3); (try clear p3); (try clear q3); (try clear hx3); (try clear c4); (try clear c5); (try clear c5b0)
      (try clear c5b1); (try clear p5); (try clear q5); (try clear hx5); (try clear hf5); (try clear c6); (try clear c6b0); (try clear p6); (try clear c8); (try clear c8b0); (try clear c9); (try clear c9b0)
      (try clear c10); (try clear c10b0); (try clear c11); (try clear c11b0); (try clear c13); (try clear c13b0); (try clear c20); (try clear c20b0); (try clear c22); (try clear c22b0); (try clear c23)
      (try clear c23b0); (try clear c24); (try clear c24b0); (try clear c25); (try clear c25b0); (try clear c26); (try clear p26); (try clear q26); (try clear hx26); (try clear hf26); (try clear c27); (try clear p27)
      (try clear q27); (try clear hx27); (try clear hf27); (try clear p29); (try clear q29); (try clear hx29); (try clear c30); (try clear p30); (try clear q30); (try clear hx30); (try clear c31); (try clear c32)
      (try clear c32b0); (try clear c32b1); (try clear c33); (try clear c33b0); (try clear c34); (try clear c34b0); (try clear c35); (try clear c35b0); (try clear c37); (try clear c37b0); (try clear c38)
      (try clear c38b0); (try clear c40); (try clear c40b0); (try clear c47); (try clear c47b0); (try clear c49); (try clear c49b0); (try clear c50); (try clear c50b0); (try clear c51); (try clear c51b0)
      (try clear c52); (try clear c52b0); (try clear c53); (try clear p53); (try clear q53); (try clear hx53); (try clear hf53); (try clear c54); (try clear p54); (try clear q54); (try clear hx54); (try clear hf54)
      (try clear c57); (try clear c58); (try clear c60); (try clear c60b0); (try clear hx26_0); (try clear hx26_1); (try clear hx26_2); (try clear hx26_3); (try clear hx27_0); (try clear hx27_1); (try clear hx27_2)
      (try clear hx27_3); (try clear hx296_0); (try clear hx296_1); (try clear hx296_2); (try clear hx296_3); (try clear hx297_0); (try clear hx297_1); (try clear hx297_2); (try clear hx297_3); (try clear hx299_0)
      (try clear hx299_1); (try clear hx299_2); (try clear hx299_3); (try clear hx300_0); (try clear hx300_1); (try clear hx300_2); (try clear hx300_3); (try clear hx303_0); (try clear hx303_1); (try clear hx303_2)
      (try clear hx303_3); (try clear hx304_0); (try clear hx304_1); (try clear hx304_2); (try clear hx304_3); (try clear hx306_0); (try clear hx306_1); (try clear hx306_2); (try clear hx306_3); (try clear hx307_0)
      (try clear hx307_1); (try clear hx307_2); (try clear hx307_3); (try clear hx53_0); (try clear hx53_1); (try clear hx53_2); (try clear hx53_3); (try clear hx54_0); (try clear hx54_1); (try clear hx54_2)
      (try clear hx54_3); (try clear p2); (try clear p26); (try clear p27); (try clear p29); (try clear p296); (try clear p297); (try clear p299); (try clear p3); (try clear p30); (try clear p300); (try clear p303)
      (try clear p304); (try clear p306); (try clear p307); (try clear p5); (try clear p53); (try clear p54); (try clear p6); (try clear q2); (try clear q26); (try clear q27); (try clear q29); (try clear q296)
      (try clear q297); (try clear q299); (try clear q3); (try clear q30); (try clear q300); (try clear q303); (try clear q304); (try clear q306); (try clear q307); (try clear q5); (try clear q53); (try clear q54)
      obtain ⟨x20_2, x21_2, rfl, rfl, HA, HK2, HO_0, HK, HB⟩ := hrel
      cases gk with
      | zero => exact absurd HA.out (by simp [slices_symMergeCmpFunc_impl_Row.l4])
      | succ k2 =>
       have H := HA.out
       clear HA
       simp only [slices_symMergeCmpFunc_impl_Row.l4] at H
       by_cases c61 : x20_2 < x21_2
       ·rw [if_pos c61] at H
        have c61b0 := decide_eq_true c61
        clear c61
        obtain ⟨ji62, hji62⟩ : ∃ j_ : Int, (wrap64 ((wrap64 (x19_58 - 1)) - (wrap64 ((IntKind.u64.wrap (wrap64 (x20_2 + x21_2))) / 2)))) = j_ := ⟨_, rfl⟩
        replace H : (if 0 ≤ (ji62) then (if (ji62) < (l0.length : Int) then (if 0 ≤ (wrap64 ((IntKind.u64.wrap (wrap64 (x20_2 + x21_2))) / 2)) then (if (wrap64 ((IntKind.u64.wrap (wrap64 (x20_2 + x21_2))) / 2)) < (l0.length : Int) then ((impl_compareRows.f k2 ((rd_T49 l0 (ji62)).f0) ((rd_T49 l0 (ji62)).f1) ((rd_T49 l0 (ji62)).f2) ((rd_T49 l0 (ji62)).f3) ((rd_T49 l0 (wrap64 ((IntKind.u64.wrap (wrap64 (x20_2 + x21_2))) / 2))).f0) ((rd_T49 l0 (wrap64 ((IntKind.u64.wrap (wrap64 (x20_2 + x21_2))) / 2))).f1) ((rd_T49 l0 (wrap64 ((IntKind.u64.wrap (wrap64 (x20_2 + x21_2))) / 2))).f2) ((rd_T49 l0 (wrap64 ((IntKind.u64.wrap (wrap64 (x20_2 + x21_2))) / 2))).f3)).bind fun t312 => (if t312 < 0 then (slices_symMergeCmpFunc_impl_Row.l4 k2 l0 a1 a2 a3 x18_58 x19_58 x20_2 (wrap64 ((IntKind.u64.wrap (wrap64 (x20_2 + x21_2))) / 2)) (wrap64 (x19_58 - 1))) else (slices_symMergeCmpFunc_impl_Row.l4 k2 l0 a1 a2 a3 x18_58 x19_58 (wrap64 ((wrap64 ((IntKind.u64.wrap (wrap64 (x20_2 + x21_2))) / 2)) + 1)) x21_2 (wrap64 (x19_58 - 1))))) else (none)) else (none)) else (none)) else (none)) = some r := by first | (rw [hji62] at H; exact H) | (simp only [hji62] at H ⊢; exact H)
        have hji62w : (IntKind.i64.wrap ((wrap64 (x19_58 - 1)) - (wrap64 ((IntKind.u64.wrap (wrap64 (x20_2 + x21_2))) / 2)))) = ji62 := (i64_w _).trans hji62
        by_cases c63 : 0 ≤ (ji62)
        ·rw [if_pos c63] at H
         have c63b0 := decide_eq_true c63
         clear c63
         by_cases c64 : (ji62) < (l0.length : Int)
         ·rw [if_pos c64] at H
          have c64b0 := decide_eq_true c64
          clear c64
          obtain ⟨ji65, hji65⟩ : ∃ j_ : Int, (wrap64 ((IntKind.u64.wrap (wrap64 (x20_2 + x21_2))) / 2)) = j_ := ⟨_, rfl⟩
          replace H : (if 0 ≤ (ji65) then (if (ji65) < (l0.length : Int) then ((impl_compareRows.f k2 ((rd_T49 l0 (ji62)).f0) ((rd_T49 l0 (ji62)).f1) ((rd_T49 l0 (ji62)).f2) ((rd_T49 l0 (ji62)).f3) ((rd_T49 l0 (ji65)).f0) ((rd_T49 l0 (ji65)).f1) ((rd_T49 l0 (ji65)).f2) ((rd_T49 l0 (ji65)).f3)).bind fun t312 => (if t312 < 0 then (slices_symMergeCmpFunc_impl_Row.l4 k2 l0 a1 a2 a3 x18_58 x19_58 x20_2 ji65 (wrap64 (x19_58 - 1))) else (slices_symMergeCmpFunc_impl_Row.l4 k2 l0 a1 a2 a3 x18_58 x19_58 (wrap64 ((ji65) + 1)) x21_2 (wrap64 (x19_58 - 1))))) else (none)) else (none)) = some r := by first | (rw [hji65] at H; exact H) | (simp only [hji65] at H ⊢; exact H)
          have hji65w : (IntKind.i64.wrap ((IntKind.u64.wrap (wrap64 (x20_2 + x21_2))) / 2)) = ji65 := (i64_w _).trans hji65
          have hji62x_ji65 := hji62
          (try rw [hji65] at hji62x_ji65)
          have hji62y_ji65 := hji62w
          (try rw [hji65] at hji62y_ji65)
          by_cases c66 : 0 ≤ (ji65)
          ·rw [if_pos c66] at H
           have c66b0 := decide_eq_true c66
           clear c66
           by_cases c67 : (ji65) < (l0.length : Int)
           ·rw [if_pos c67] at H
            have c67b0 := decide_eq_true c67
            clear c67
            replace H := ob H
            obtain ⟨t312, A680, H⟩ := H
            replace H : (if t312 < 0 then (slices_symMergeCmpFunc_impl_Row.l4 k2 l0 a1 a2 a3 x18_58 x19_58 x20_2 ji65 (wrap64 (x19_58 - 1))) else (slices_symMergeCmpFunc_impl_Row.l4 k2 l0 a1 a2 a3 x18_58 x19_58 (wrap64 ((ji65) + 1)) x21_2 (wrap64 (x19_58 - 1)))) = some r := H
            have A68 := am A680
            clear A680
            by_cases c69 : t312 < 0
            ·rw [if_pos c69] at H
             have c69b0 := decide_eq_true c69
             clear c69
             have H' := am H
             clear H
             try go_wp2
             have n0_ := am (Kd.R_drew HO_0.out)
             have n1_ := am (Kept.drew HK.out)
             have n2_ := am (below_drew1 HB.out)
             clear HO_0
             clear HK
             clear HB
             have HO_0 := n0_
             have HK := n1_
             have HB := n2_
             clear n0_ n1_ n2_
             obtain ⟨Ao71, co71, eo71⟩ := Kd.R_slice HO_0.out
             (first | subst eo71 | (injection eo71 with f1_ f2_ f3_; have f4_ := f1_.symm; have f5_ := f3_.symm; clear f1_ f2_ f3_; subst f4_; subst f5_))
             have p310 : 0 ≤ ((ji62) : Int) := q_d
             have q310 : (ji62) < (l0.length : Int) := q_d
             obtain ⟨ad310, e310, hx310_0, hx310_1, hx310_2, hx310_3⟩ := at_T49 (Kd.R_reads' HO_0.out).2.2 (ji62) p310 q310
             cases e310
             replace p310 := eq_true p310
             replace q310 := eq_true q310
             have p311 : 0 ≤ ((ji65) : Int) := q_d
             have q311 : (ji65) < (l0.length : Int) := q_d
             obtain ⟨ad311, e311, hx311_0, hx311_1, hx311_2, hx311_3⟩ := at_T49 (Kd.R_reads' HO_0.out).2.2 (ji65) p311 q311
             obtain rfl : ad310 = ad311 := (by injection e311)
             replace p311 := eq_true p311
             replace q311 := eq_true q311
             refine start_ (n := 14) (S := fun w' => w'.cell? (ad310.add (((ji62)).toNat * 4)) = some (.string ((rd_T49 l0 (ji62)).f0)) ∧ w'.cell? ⟨(ad310.add (((ji62)).toNat * 4)).block, (ad310.add (((ji62)).toNat * 4)).off + 1, none⟩ = some (.int .i64 ((rd_T49 l0 (ji62)).f1)) ∧ w'.cell? ⟨(ad310.add (((ji62)).toNat * 4)).block, (ad310.add (((ji62)).toNat * 4)).off + 2, none⟩ = some (.string ((rd_T49 l0 (ji62)).f2)) ∧ w'.cell? ⟨(ad310.add (((ji62)).toNat * 4)).block, (ad310.add (((ji62)).toNat * 4)).off + 3, none⟩ = some (.bool ((rd_T49 l0 (ji62)).f3)) ∧ w'.cell? (ad310.add (((ji65)).toNat * 4)) = some (.string ((rd_T49 l0 (ji65)).f0)) ∧ w'.cell? ⟨(ad310.add (((ji65)).toNat * 4)).block, (ad310.add (((ji65)).toNat * 4)).off + 1, none⟩ = some (.int .i64 ((rd_T49 l0 (ji65)).f1)) ∧ w'.cell? ⟨(ad310.add (((ji65)).toNat * 4)).block, (ad310.add (((ji65)).toNat * 4)).off + 2, none⟩ = some (.string ((rd_T49 l0 (ji65)).f2)) ∧ w'.cell? ⟨(ad310.add (((ji65)).toNat * 4)).block, (ad310.add (((ji65)).toNat * 4)).off + 3, none⟩ = some (.bool ((rd_T49 l0 (ji65)).f3))) (ds := []) #[false, false, false, false, false, false, false, false, false, false, false, false, false, false] (by kernel_rfl) rfl rfl ⟨hx310_0, hx310_1, hx310_2, hx310_3, hx311_0, hx311_1, hx311_2, hx311_3⟩ (fun hHeld => ?_); refine with_tabW slices_symMergeCmpFunc_impl_Row.tab35 slices_symMergeCmpFunc_impl_Row.bits35 (fun HT_ HW_ => ?_)
             generalize wr.drew = w70 at HO_0 HK HB hx310_0 hx310_1 hx310_2 hx310_3 hx311_0 hx311_1 hx311_2 hx311_3 hHeld ⊢
             refine q_p 0 (some 158) #[true, false, false, false, false, false, false, false, false, false, false, false, false, false] HT_.out ?_
             refine q_p 1 (some 159) #[true, true, false, false, false, false, false, false, false, false, false, false, false, false] HT_.out ?_
             refine q_p 2 (some 160) #[true, true, true, false, false, false, false, false, false, false, false, false, false, false] HT_.out ?_
             refine q_p 3 (some 161) #[true, true, true, true, false, false, false, false, false, false, false, false, false, false] HT_.out ?_
             refine q_p 4 (some 162) #[true, true, true, true, true, false, false, false, false, false, false, false, false, false] HT_.out ?_
             refine q_p 5 (some 163) #[true, true, true, true, true, true, false, false, false, false, false, false, false, false] HT_.out ?_
             refine q_p 7 (some 165) #[true, true, true, true, true, true, false, true, false, false, false, false, false, false] HT_.out ?_
             refine q_p 8 (some 166) #[true, true, true, true, true, true, false, true, true, false, false, false, false, false] HT_.out ?_
             refine q_p 9 (some 167) #[true, true, true, true, true, true, false, true, true, true, false, false, false, false] HT_.out ?_
             refine q_t 6 (some 164) #[true, true, true, true, true, true, true, true, true, true, false, false, false, false] HT_.out HW_.out hHeld ?_
             refine q_t 10 (some 168) #[true, true, true, true, true, true, true, true, true, true, true, false, false, false] HT_.out HW_.out hHeld ?_
             refine one_ (i := 11) (N := some 169) #[true, true, true, true, true, true, true, true, true, true, true, true, false, false] rfl rfl (one_of HT_.out (by kernel_rfl)) (by decide) (fun K hK => ?_)
             refine print_goesR Try.func67 (by kernel_rfl) rfl #[.agg #[.string ((rd_T49 l0 (ji62)).f0), .int .i64 ((rd_T49 l0 (ji62)).f1), .string ((rd_T49 l0 (ji62)).f2), .bool ((rd_T49 l0 (ji62)).f3)], .agg #[.string ((rd_T49 l0 (ji65)).f0), .int .i64 ((rd_T49 l0 (ji65)).f1), .string ((rd_T49 l0 (ji65)).f2), .bool ((rd_T49 l0 (ji65)).f3)]] (by rfl) rfl rfl rfl (by (try simp only [List.map_toArray, List.map_cons, List.map_nil]); first | done | (simp only [hji62, hji65]; rfl) | rfl | (simp only [List.length_drop, List.length_take]; rfl)) ?_
             with_reducible refine (impl_compareRows.calls k2 ((rd_T49 l0 (ji62)).f0) ((rd_T49 l0 (ji62)).f1) ((rd_T49 l0 (ji62)).f2) ((rd_T49 l0 (ji62)).f3) ((rd_T49 l0 (ji65)).f0) ((rd_T49 l0 (ji65)).f1) ((rd_T49 l0 (ji65)).f2) ((rd_T49 l0 (ji65)).f3) t312 _ A68.out).mono ?_
             rintro e w72 ⟨rfl, hb⟩
             have HS0_ := (hb.cell (wb (hHeld.1))).trans (hHeld.1)
             have HS1_ := (hb.cell (wb (hHeld.2.1))).trans (hHeld.2.1)
             have HS2_ := (hb.cell (wb (hHeld.2.2.1))).trans (hHeld.2.2.1)
             have HS3_ := (hb.cell (wb (hHeld.2.2.2.1))).trans (hHeld.2.2.2.1)
             have HS4_ := (hb.cell (wb (hHeld.2.2.2.2.1))).trans (hHeld.2.2.2.2.1)
             have HS5_ := (hb.cell (wb (hHeld.2.2.2.2.2.1))).trans (hHeld.2.2.2.2.2.1)
             have HS6_ := (hb.cell (wb (hHeld.2.2.2.2.2.2.1))).trans (hHeld.2.2.2.2.2.2.1)
             have HS7_ := (hb.cell (wb (hHeld.2.2.2.2.2.2.2))).trans (hHeld.2.2.2.2.2.2.2)
             refine ⟨_, rfl, ?_⟩
             have n0_ := am (Kd.R_below (q_r (HO_0.out)) hb)
             have n1_ := am (Kept.below (S := (fun k_ => P0_ k_)) q_k hb)
             have n2_ := am (below_step bq hb)
             clear HO_0
             clear HK
             clear HB
             have HO_0 := n0_
             have HK := n1_
             have HB := n2_
             clear n0_ n1_ n2_
             (try clear hb)
             (try clear hb2)
             (try clear hk)
             (try clear hi)
             refine hK.out _ _ ⟨HS0_, HS1_, HS2_, HS3_, HS4_, HS5_, HS6_, HS7_⟩ (fun hHeld => ?_)
             clear hK K
             refine norm_ (a' := ?_) ?_ ?_
             rotate_left
             ·show Act.put _ (some 169) _ = _
              simp only [Act.put, List.setIfInBounds_toArray, List.set_cons_zero, List.set_cons_succ, i64_w, i32_w]
              rfl
             refine q_p 12 (some 170) #[true, true, true, true, true, true, true, true, true, true, true, true, true, false] HT_.out ?_
             refine q_p 13 (some 171) #[true, true, true, true, true, true, true, true, true, true, true, true, true, true] HT_.out ?_
             refine done_ (done_of HT_.out (by kernel_rfl)) ?_
             try go_wp2
             go_roundg k2
             case measure => have := HJ58.out; have := HK2.out; omega
             case rel => exact ⟨(x20_2), (ji65), q_i, (by first | rfl | (simp; done) | (simp only [← hji65] <;> (first | rfl | simp)) | (simp [*]; done)), H', ⟨by have := HJ58.out; have := HK2.out; omega⟩, ⟨q_r (HO_0.out)⟩, ⟨q_k⟩, ⟨bq⟩⟩
            ·rw [if_neg c69] at H
             have c69b0 := decide_eq_false c69
             clear c69
             have H' := am H
             clear H
             try go_wp2
             have n0_ := am (Kd.R_drew HO_0.out)
             have n1_ := am (Kept.drew HK.out)
             have n2_ := am (below_drew1 HB.out)
             clear HO_0
             clear HK
             clear HB
             have HO_0 := n0_
             have HK := n1_
             have HB := n2_
             clear n0_ n1_ n2_
             obtain ⟨Ao74, co74, eo74⟩ := Kd.R_slice HO_0.out
             (first | subst eo74 | (injection eo74 with f1_ f2_ f3_; have f4_ := f1_.symm; have f5_ := f3_.symm; clear f1_ f2_ f3_; subst f4_; subst f5_))
             have p310 : 0 ≤ ((ji62) : Int) := q_d
             have q310 : (ji62) < (l0.length : Int) := q_d
             obtain ⟨ad310, e310, hx310_0, hx310_1, hx310_2, hx310_3⟩ := at_T49 (Kd.R_reads' HO_0.out).2.2 (ji62) p310 q310
             cases e310
             replace p310 := eq_true p310
             replace q310 := eq_true q310
             have p311 : 0 ≤ ((ji65) : Int) := q_d
             have q311 : (ji65) < (l0.length : Int) := q_d
             obtain ⟨ad311, e311, hx311_0, hx311_1, hx311_2, hx311_3⟩ := at_T49 (Kd.R_reads' HO_0.out).2.2 (ji65) p311 q311
             obtain rfl : ad310 = ad311 := (by injection e311)
             replace p311 := eq_true p311
             replace q311 := eq_true q311
             refine start_ (n := 14) (S := fun w' => w'.cell? (ad310.add (((ji62)).toNat * 4)) = some (.string ((rd_T49 l0 (ji62)).f0)) ∧ w'.cell? ⟨(ad310.add (((ji62)).toNat * 4)).block, (ad310.add (((ji62)).toNat * 4)).off + 1, none⟩ = some (.int .i64 ((rd_T49 l0 (ji62)).f1)) ∧ w'.cell? ⟨(ad310.add (((ji62)).toNat * 4)).block, (ad310.add (((ji62)).toNat * 4)).off + 2, none⟩ = some (.string ((rd_T49 l0 (ji62)).f2)) ∧ w'.cell? ⟨(ad310.add (((ji62)).toNat * 4)).block, (ad310.add (((ji62)).toNat * 4)).off + 3, none⟩ = some (.bool ((rd_T49 l0 (ji62)).f3)) ∧ w'.cell? (ad310.add (((ji65)).toNat * 4)) = some (.string ((rd_T49 l0 (ji65)).f0)) ∧ w'.cell? ⟨(ad310.add (((ji65)).toNat * 4)).block, (ad310.add (((ji65)).toNat * 4)).off + 1, none⟩ = some (.int .i64 ((rd_T49 l0 (ji65)).f1)) ∧ w'.cell? ⟨(ad310.add (((ji65)).toNat * 4)).block, (ad310.add (((ji65)).toNat * 4)).off + 2, none⟩ = some (.string ((rd_T49 l0 (ji65)).f2)) ∧ w'.cell? ⟨(ad310.add (((ji65)).toNat * 4)).block, (ad310.add (((ji65)).toNat * 4)).off + 3, none⟩ = some (.bool ((rd_T49 l0 (ji65)).f3))) (ds := []) #[false, false, false, false, false, false, false, false, false, false, false, false, false, false] (by kernel_rfl) rfl rfl ⟨hx310_0, hx310_1, hx310_2, hx310_3, hx311_0, hx311_1, hx311_2, hx311_3⟩ (fun hHeld => ?_); refine with_tabW slices_symMergeCmpFunc_impl_Row.tab35 slices_symMergeCmpFunc_impl_Row.bits35 (fun HT_ HW_ => ?_)
             generalize wr.drew = w73 at HO_0 HK HB hx310_0 hx310_1 hx310_2 hx310_3 hx311_0 hx311_1 hx311_2 hx311_3 hHeld ⊢
             refine q_p 0 (some 158) #[true, false, false, false, false, false, false, false, false, false, false, false, false, false] HT_.out ?_
             refine q_p 1 (some 159) #[true, true, false, false, false, false, false, false, false, false, false, false, false, false] HT_.out ?_
             refine q_p 2 (some 160) #[true, true, true, false, false, false, false, false, false, false, false, false, false, false] HT_.out ?_
             refine q_p 3 (some 161) #[true, true, true, true, false, false, false, false, false, false, false, false, false, false] HT_.out ?_
             refine q_p 4 (some 162) #[true, true, true, true, true, false, false, false, false, false, false, false, false, false] HT_.out ?_
             refine q_p 5 (some 163) #[true, true, true, true, true, true, false, false, false, false, false, false, false, false] HT_.out ?_
             refine q_p 7 (some 165) #[true, true, true, true, true, true, false, true, false, false, false, false, false, false] HT_.out ?_
             refine q_p 8 (some 166) #[true, true, true, true, true, true, false, true, true, false, false, false, false, false] HT_.out ?_
             refine q_p 9 (some 167) #[true, true, true, true, true, true, false, true, true, true, false, false, false, false] HT_.out ?_
             refine q_t 6 (some 164) #[true, true, true, true, true, true, true, true, true, true, false, false, false, false] HT_.out HW_.out hHeld ?_
             refine q_t 10 (some 168) #[true, true, true, true, true, true, true, true, true, true, true, false, false, false] HT_.out HW_.out hHeld ?_
             refine one_ (i := 11) (N := some 169) #[true, true, true, true, true, true, true, true, true, true, true, true, false, false] rfl rfl (one_of HT_.out (by kernel_rfl)) (by decide) (fun K hK => ?_)
             refine print_goesR Try.func67 (by kernel_rfl) rfl #[.agg #[.string ((rd_T49 l0 (ji62)).f0), .int .i64 ((rd_T49 l0 (ji62)).f1), .string ((rd_T49 l0 (ji62)).f2), .bool ((rd_T49 l0 (ji62)).f3)], .agg #[.string ((rd_T49 l0 (ji65)).f0), .int .i64 ((rd_T49 l0 (ji65)).f1), .string ((rd_T49 l0 (ji65)).f2), .bool ((rd_T49 l0 (ji65)).f3)]] (by rfl) rfl rfl rfl (by (try simp only [List.map_toArray, List.map_cons, List.map_nil]); first | done | (simp only [hji62, hji65]; rfl) | rfl | (simp only [List.length_drop, List.length_take]; rfl)) ?_
             with_reducible refine (impl_compareRows.calls k2 ((rd_T49 l0 (ji62)).f0) ((rd_T49 l0 (ji62)).f1) ((rd_T49 l0 (ji62)).f2) ((rd_T49 l0 (ji62)).f3) ((rd_T49 l0 (ji65)).f0) ((rd_T49 l0 (ji65)).f1) ((rd_T49 l0 (ji65)).f2) ((rd_T49 l0 (ji65)).f3) t312 _ A68.out).mono ?_
             rintro e w75 ⟨rfl, hb⟩
             have HS0_ := (hb.cell (wb (hHeld.1))).trans (hHeld.1)
             have HS1_ := (hb.cell (wb (hHeld.2.1))).trans (hHeld.2.1)
             have HS2_ := (hb.cell (wb (hHeld.2.2.1))).trans (hHeld.2.2.1)
             have HS3_ := (hb.cell (wb (hHeld.2.2.2.1))).trans (hHeld.2.2.2.1)
             have HS4_ := (hb.cell (wb (hHeld.2.2.2.2.1))).trans (hHeld.2.2.2.2.1)
             have HS5_ := (hb.cell (wb (hHeld.2.2.2.2.2.1))).trans (hHeld.2.2.2.2.2.1)
             have HS6_ := (hb.cell (wb (hHeld.2.2.2.2.2.2.1))).trans (hHeld.2.2.2.2.2.2.1)
             have HS7_ := (hb.cell (wb (hHeld.2.2.2.2.2.2.2))).trans (hHeld.2.2.2.2.2.2.2)
             refine ⟨_, rfl, ?_⟩
             have n0_ := am (Kd.R_below (q_r (HO_0.out)) hb)
             have n1_ := am (Kept.below (S := (fun k_ => P0_ k_)) q_k hb)
             have n2_ := am (below_step bq hb)
             clear HO_0
             clear HK
             clear HB
             have HO_0 := n0_
             have HK := n1_
             have HB := n2_
             clear n0_ n1_ n2_
             (try clear hb)
             (try clear hb2)
             (try clear hk)
             (try clear hi)
             refine hK.out _ _ ⟨HS0_, HS1_, HS2_, HS3_, HS4_, HS5_, HS6_, HS7_⟩ (fun hHeld => ?_)
             clear hK K
             refine norm_ (a' := ?_) ?_ ?_
             rotate_left
             ·show Act.put _ (some 169) _ = _
              simp only [Act.put, List.setIfInBounds_toArray, List.set_cons_zero, List.set_cons_succ, i64_w, i32_w]
              rfl
             refine q_p 12 (some 170) #[true, true, true, true, true, true, true, true, true, true, true, true, true, false] HT_.out ?_
             refine q_p 13 (some 171) #[true, true, true, true, true, true, true, true, true, true, true, true, true, true] HT_.out ?_
             refine done_ (done_of HT_.out (by kernel_rfl)) ?_
             try go_wp2
             go_roundg k2
             case measure => have := HJ58.out; have := HK2.out; omega
             case rel => exact ⟨(wrap64 ((ji65) + 1)), (x21_2), (by first | rfl | (simp; done) | (simp only [← hji65] <;> (first | rfl | simp)) | (simp [*]; done)), q_i, H', ⟨by have := HJ58.out; have := HK2.out; omega⟩, ⟨q_r (HO_0.out)⟩, ⟨q_k⟩, ⟨bq⟩⟩
           ·rw [if_neg c67] at H
            exact absurd H (by simp)
          ·rw [if_neg c66] at H
           exact absurd H (by simp)
         ·rw [if_neg c64] at H
          exact absurd H (by simp)
        ·rw [if_neg c63] at H
         exact absurd H (by simp)
       ·rw [if_neg c61] at H
        have c61b0 := decide_eq_false c61
        clear c61
        have HC76 := am H
        clear H
        go_upto_region 39 with (fail)
        go_cut [18, 185] (fun v18 v185 wc => ∃ (kq : Nat) (x18_75 : Int) (x185_75 : Bool), v18 = .int .i64 x18_75 ∧ v185 = .bool x185_75 ∧ Aside0 (slices_symMergeCmpFunc_impl_Row.j6 kq l0 a1 a2 a3 x18_75 x20_2 (wrap64 (x19_58 - x20_2)) x185_75 = some r) ∧ Aside0 (kq ≤ k2) ∧ Aside0 (Kd.R k49 49 wc w0.heap.size (fun k_ => (P0_ k_ ∨ w.heap.size ≤ k_)) u9000_ l0) ∧ Aside0 (Kept w wc (fun k_ => P0_ k_)) ∧ Aside0 (Below w0.heap.size w0 wc))
        case first => as_aux_lemma =>
         have H := HC76.out
         clear HC76
         by_cases c77 : x20_2 < a2
         ·rw [if_pos c77] at H
          have c77b0 := decide_eq_true c77
          clear c77
          (first | rw [c77b0] | (simp only [i64_w, i32_w]; rw [c77b0]) | skip)
          have H' := am H
          clear H
          go_wp2
          go_meet
          case rel => exact ⟨_, (x18_58), (decide (a2 < (wrap64 (x19_58 - x20_2)))), q_i, q_i, H', ⟨by have := HJ58.out; have := HK2.out; first | omega | exact Nat.le_refl _⟩, ⟨q_r (HO_0.out)⟩, ⟨q_k⟩, ⟨bq⟩⟩
         ·rw [if_neg c77] at H
          have c77b0 := decide_eq_false c77
          clear c77
          (first | rw [c77b0] | (simp only [i64_w, i32_w]; rw [c77b0]) | skip)
          have H' := am H
          clear H
          go_wp2
          go_meet
          case rel => exact ⟨_, (x18_58), (false), q_i, q_i, H', ⟨by have := HJ58.out; have := HK2.out; first | omega | exact Nat.le_refl _⟩, ⟨q_r (HO_0.out)⟩, ⟨q_k⟩, ⟨bq⟩⟩
        case rest =>
         clear HC76
         (try clear c1); (try clear c2); (try clear p2); (try clear q2); (try clear hx2); (try clear c3); (try clear p3); (try clear q3); (try clear hx3); (try clear c4); (try clear c5); (try clear c5b0)
         (try clear c5b1); (try clear p5); (try clear q5); (try clear hx5); (try clear hf5); (try clear c6); (try clear c6b0); (try clear p6); (try clear c7); (try clear c8); (try clear c8b0); (try clear c9)
         (try clear c9b0); (try clear c10); (try clear c10b0); (try clear c11); (try clear c11b0); (try clear c13); (try clear c13b0); (try clear c20); (try clear c20b0); (try clear c22); (try clear c22b0)
         (try clear c23); (try clear c23b0); (try clear c24); (try clear c24b0); (try clear c25); (try clear c25b0); (try clear c26); (try clear p26); (try clear q26); (try clear hx26); (try clear hf26)
         (try clear c27); (try clear p27); (try clear q27); (try clear hx27); (try clear hf27); (try clear p29); (try clear q29); (try clear hx29); (try clear c30); (try clear p30); (try clear q30); (try clear hx30)
         (try clear c31); (try clear p31); (try clear q31); (try clear hx31); (try clear c32); (try clear c32b0); (try clear c32b1); (try clear c33); (try clear c33b0); (try clear c34); (try clear c34b0)
         (try clear c35); (try clear c35b0); (try clear c37); (try clear c37b0); (try clear c38); (try clear c38b0); (try clear c40); (try clear c40b0); (try clear c47); (try clear c47b0); (try clear c49)
         (try clear c49b0); (try clear c50); (try clear c50b0); (try clear c51); (try clear c51b0); (try clear c52); (try clear c52b0); (try clear c53); (try clear p53); (try clear q53); (try clear hx53)
         (try clear hf53); (try clear c54); (try clear p54); (try clear q54); (try clear hx54); (try clear hf54); (try clear c57); (try clear c58); (try clear c60); (try clear c60b0); (try clear c61); (try clear c61b0)
         (try clear c63); (try clear c63b0); (try clear c64); (try clear c64b0); (try clear p64); (try clear c66); (try clear c66b0); (try clear c67); (try clear c67b0); (try clear c69); (try clear c69b0)
         (try clear c77); (try clear c77b0); (try clear hx26_0); (try clear hx26_1); (try clear hx26_2); (try clear hx26_3); (try clear hx27_0); (try clear hx27_1); (try clear hx27_2); (try clear hx27_3)
         (try clear hx296_0); (try clear hx296_1); (try clear hx296_2); (try clear hx296_3); (try clear hx297_0); (try clear hx297_1); (try clear hx297_2); (try clear hx297_3); (try clear hx299_0); (try clear hx299_1)
         (try clear hx299_2); (try clear hx299_3); (try clear hx300_0); (try clear hx300_1); (try clear hx300_2); (try clear hx300_3); (try clear hx303_0); (try clear hx303_1); (try clear hx303_2); (try clear hx303_3)
         (try clear hx304_0); (try clear hx304_1); (try clear hx304_2); (try clear hx304_3); (try clear hx306_0); (try clear hx306_1); (try clear hx306_2); (try clear hx306_3); (try clear hx307_0); (try clear hx307_1)
         (try clear hx307_2); (try clear hx307_3); (try clear hx310_0); (try clear hx310_1); (try clear hx310_2); (try clear hx310_3); (try clear hx311_0); (try clear hx311_1); (try clear hx311_2); (try clear hx311_3)
         (try clear hx53_0); (try clear hx53_1); (try clear hx53_2); (try clear hx53_3); (try clear hx54_0); (try clear hx54_1); (try clear hx54_2); (try clear hx54_3); (try clear p2); (try clear p26)
         (try clear p27); (try clear p29); (try clear p296); (try clear p297); (try clear p299); (try clear p3); (try clear p30); (try clear p300); (try clear p303); (try clear p304); (try clear p306)
         (try clear p307); (try clear p310); (try clear p311); (try clear p5); (try clear p53); (try clear p54); (try clear p6); (try clear q2); (try clear q26); (try clear q27); (try clear q29); (try clear q296)
         (try clear q297); (try clear q299); (try clear q3); (try clear q30); (try clear q300); (try clear q303); (try clear q304); (try clear q306); (try clear q307); (try clear q310); (try clear q311)
         (try clear q5); (try clear q53); (try clear q54)
         obtain ⟨kq, x18_75, x185_75, rfl, rfl, HA, HJ75, HO_0, HK, HB⟩ := hcut
         cases kq with
         | zero => exact absurd HA.out (by simp [slices_symMergeCmpFunc_impl_Row.j6])
         | succ kj75 =>
          have H := HA.out
          clear HA
          simp only [slices_symMergeCmpFunc_impl_Row.j6] at H
          have HC78 := am H
          clear H
          go_upto_if 185 with (fail)
          go_cut [18] (fun v18 wc => ∃ (kq : Nat) (x0_77 : List (S49)) (x18_77 : Int), v18 = .int .i64 x18_77 ∧ Aside0 (slices_symMergeCmpFunc_impl_Row.j7 kq x0_77 a1 a3 x18_77 x20_2 (wrap64 (x19_58 - x20_2)) = some r) ∧ Aside0 (kq ≤ kj75) ∧ Aside0 (Kd.R k49 49 wc w0.heap.size (fun k_ => (P0_ k_ ∨ w.heap.size ≤ k_)) u9000_ x0_77) ∧ Aside0 (Kept w wc (fun k_ => P0_ k_)) ∧ Aside0 (Below w0.heap.size w0 wc))
          case first => as_aux_lemma =>
           have H := HC78.out
           clear HC78
           by_cases c79 : x185_75 = true
           ·subst c79
            have H1 : ((slices_rotateCmpFunc_impl_Row.f kj75 l0 x20_2 a2 (wrap64 (x19_58 - x20_2))).bind fun t313 => (slices_symMergeCmpFunc_impl_Row.j7 kj75 t313 a1 a3 x18_75 x20_2 (wrap64 (x19_58 - x20_2)))) = some r := by rw [if_pos rfl] at H; exact H
            clear H
            have H := H1
            clear H1
            replace H := ob H
            obtain ⟨t313, A800, H⟩ := H
            replace H : (slices_symMergeCmpFunc_impl_Row.j7 kj75 t313 a1 a3 x18_75 x20_2 (wrap64 (x19_58 - x20_2))) = some r := H
            have A80 := am A800
            clear A800
            have H' := am H
            clear H
            obtain ⟨Ao81, co81, eo81⟩ := Kd.R_slice HO_0.out
            subst eo81
            go_wp2_with (first | ((with_reducible refine gate_callee (f := 139) rfl ?_); refine goesLq (some 191) rfl rfl Try.func139 (by kernel_rfl) rfl #[.slice Ao81 l0.length co81, .int .i64 x20_2, .int .i64 a2, .int .i64 (wrap64 (x19_58 - x20_2)), .func (.func 67) #[] #[]] rfl ?_; (with_reducible refine (slices_rotateCmpFunc_impl_Row.calls kj75 (fun k_ => some k_ = (.slice Ao81 l0.length co81 : Value).ownBlock) (.slice Ao81 l0.length co81) l0 x20_2 a2 (wrap64 (x19_58 - x20_2)) t313 w0 _ ?side1 ?side2 A80.out).mono ?_); (case side1 => repeat (first | (with_reducible first | exact HB.out | apply below_alloc | apply pw_below_drewN | apply below_drew1) | exact HB.out)); (case side2 => exact Kd.R_tight rfl HO_0.out); rintro e w82 ⟨rfl, hy0, hb, hkp⟩; refine ⟨_, rfl, ?_⟩; have n0_ := am (Kd.R_reok rfl hy0 (fun k_ e_ => HO_0.out.1 k_ e_)); have n1_ := am (Kept.then_ (S := (fun k_ => P0_ k_)) q_k hkp (fun k_ hs_ => (fun e_ => (HO_0.out.1 k_ e_.symm)) hs_)); have n2_ := am (hb); revert n0_ n1_ n2_; clear HO_0 HK HB; intro HO_0 HK HB; (try clear hb); (try clear hkp); (try clear hy0)))
            go_meet
            case rel => exact ⟨_, (t313), (x18_75), q_i, H', ⟨by have := HJ58.out; have := HK2.out; have := HJ75.out; first | omega | exact Nat.le_refl _⟩, ⟨q_r (HO_0.out)⟩, ⟨q_k⟩, ⟨bq⟩⟩
           ·replace c79 := Bool.eq_false_iff.mpr c79
            subst c79
            have H1 : (slices_symMergeCmpFunc_impl_Row.j7 kj75 l0 a1 a3 x18_75 x20_2 (wrap64 (x19_58 - x20_2))) = some r := by rw [if_neg (show ¬ (false = true) by decide)] at H; exact H
            clear H
            have H := H1
            clear H1
            have H' := am H
            clear H
            go_wp2
            go_meet
            case rel => exact ⟨_, (l0), (x18_75), q_i, H', ⟨by have := HJ58.out; have := HK2.out; have := HJ75.out; first | omega | exact Nat.le_refl _⟩, ⟨q_r (HO_0.out)⟩, ⟨q_k⟩, ⟨bq⟩⟩
          case rest =>
           clear HC78
           (try clear c1); (try clear c2); (try clear p2); (try clear q2); (try clear hx2); (try clear c3); (try clear p3); (try clear q3); (try clear hx3); (try clear c4); (try clear c5); (try clear c5b0)
           (try clear c5b1); (try clear p5); (try clear q5); (try clear hx5); (try clear hf5); (try clear c6); (try clear c6b0); (try clear p6); (try clear c7); (try clear c8); (try clear c8b0); (try clear c9)
           (try clear c9b0); (try clear c10); (try clear c10b0); (try clear c11); (try clear c11b0); (try clear c13); (try clear c13b0); (try clear c20); (try clear c20b0); (try clear c22); (try clear c22b0)
           (try clear c23); (try clear c23b0); (try clear c24); (try clear c24b0); (try clear c25); (try clear c25b0); (try clear c26); (try clear p26); (try clear q26); (try clear hx26); (try clear hf26)
           (try clear c27); (try clear p27); (try clear q27); (try clear hx27); (try clear hf27); (try clear p29); (try clear q29); (try clear hx29); (try clear c30); (try clear p30); (try clear q30); (try clear hx30)
           (try clear c31); (try clear p31); (try clear q31); (try clear hx31); (try clear c32); (try clear c32b0); (try clear c32b1); (try clear c33); (try clear c33b0); (try clear c34); (try clear c34b0)
           (try clear c35); (try clear c35b0); (try clear c37); (try clear c37b0); (try clear c38); (try clear c38b0); (try clear c40); (try clear c40b0); (try clear c47); (try clear c47b0); (try clear c49)
           (try clear c49b0); (try clear c50); (try clear c50b0); (try clear c51); (try clear c51b0); (try clear c52); (try clear c52b0); (try clear c53); (try clear p53); (try clear q53); (try clear hx53)
           (try clear hf53); (try clear c54); (try clear p54); (try clear q54); (try clear hx54); (try clear hf54); (try clear c57); (try clear c58); (try clear c60); (try clear c60b0); (try clear c61)
           (try clear c61b0); (try clear c63); (try clear c63b0); (try clear c64); (try clear c64b0); (try clear p64); (try clear c66); (try clear c66b0); (try clear c67); (try clear c67b0); (try clear c69)
           (try clear c69b0); (try clear c77); (try clear c77b0); (try clear c79); (try clear hx26_0); (try clear hx26_1); (try clear hx26_2); (try clear hx26_3); (try clear hx27_0); (try clear hx27_1)
           (try clear hx27_2); (try clear hx27_3); (try clear hx296_0); (try clear hx296_1); (try clear hx296_2); (try clear hx296_3); (try clear hx297_0); (try clear hx297_1); (try clear hx297_2); (try clear hx297_3)
           (try clear hx299_0); (try clear hx299_1); (try clear hx299_2); (try clear hx299_3); (try clear hx300_0); (try clear hx300_1); (try clear hx300_2); (try clear hx300_3); (try clear hx303_0); (try clear hx303_1)
           (try clear hx303_2); (try clear hx303_3); (try clear hx304_0); (try clear hx304_1); (try clear hx304_2); (try clear hx304_3); (try clear hx306_0); (try clear hx306_1); (try clear hx306_2); (try clear hx306_3)
           (try clear hx307_0); (try clear hx307_1); (try clear hx307_2); (try clear hx307_3); (try clear hx310_0); (try clear hx310_1); (try clear hx310_2); (try clear hx310_3); (try clear hx311_0); (try clear hx311_1)
           (try clear hx311_2); (try clear hx311_3); (try clear hx53_0); (try clear hx53_1); (try clear hx53_2); (try clear hx53_3); (try clear hx54_0); (try clear hx54_1); (try clear hx54_2); (try clear hx54_3)
           (try clear p2); (try clear p26); (try clear p27); (try clear p29); (try clear p296); (try clear p297); (try clear p299); (try clear p3); (try clear p30); (try clear p300); (try clear p303); (try clear p304)
           (try clear p306); (try clear p307); (try clear p31); (try clear p310); (try clear p311); (try clear p5); (try clear p53); (try clear p54); (try clear p6); (try clear p64); (try clear q2); (try clear q26)
           (try clear q27); (try clear q29); (try clear q296); (try clear q297); (try clear q299); (try clear q3); (try clear q30); (try clear q300); (try clear q303); (try clear q304); (try clear q306)
           (try clear q307); (try clear q31); (try clear q310); (try clear q311); (try clear q5); (try clear q53); (try clear q54)
           obtain ⟨kq, x0_77, x18_77, rfl, HA, HJ77, HO_0, HK, HB⟩ := hcut
           cases kq with
           | zero => exact absurd HA.out (by simp [slices_symMergeCmpFunc_impl_Row.j7])
           | succ kj77 =>
            have H := HA.out
            clear HA
            simp only [slices_symMergeCmpFunc_impl_Row.j7] at H
            have HC83 := am H
            clear H
            go_upto_region 41 with (fail)
            go_cut [18, 199] (fun v18 v199 wc => ∃ (kq : Nat) (x18_82 : Int) (x199_82 : Bool), v18 = .int .i64 x18_82 ∧ v199 = .bool x199_82 ∧ Aside0 (slices_symMergeCmpFunc_impl_Row.j8 kq x0_77 a1 a3 x18_82 x20_2 (wrap64 (x19_58 - x20_2)) x199_82 = some r) ∧ Aside0 (kq ≤ kj77) ∧ Aside0 (Kd.R k49 49 wc w0.heap.size (fun k_ => (P0_ k_ ∨ w.heap.size ≤ k_)) u9000_ x0_77) ∧ Aside0 (Kept w wc (fun k_ => P0_ k_)) ∧ Aside0 (Below w0.heap.size w0 wc))
            case first => as_aux_lemma =>
             have H := HC83.out
             clear HC83
             by_cases c84 : a1 < x20_2
             ·rw [if_pos c84] at H
              have c84b0 := decide_eq_true c84
              clear c84
              (first | rw [c84b0] | (simp only [i64_w, i32_w]; rw [c84b0]) | skip)
              have H' := am H
              clear H
              go_wp2
              go_meet
              case rel => exact ⟨_, (x18_77), (decide (x20_2 < x18_77)), q_i, q_i, H', ⟨by have := HJ58.out; have := HK2.out; have := HJ75.out; have := HJ77.out; first | omega | exact Nat.le_refl _⟩, ⟨q_r (HO_0.out)⟩, ⟨q_k⟩, ⟨bq⟩⟩
             ·rw [if_neg c84] at H
              have c84b0 := decide_eq_false c84
              clear c84
              (first | rw [c84b0] | (simp only [i64_w, i32_w]; rw [c84b0]) | skip)
              have H' := am H
              clear H
              go_wp2
              go_meet
              case rel => exact ⟨_, (x18_77), (false), q_i, q_i, H', ⟨by have := HJ58.out; have := HK2.out; have := HJ75.out; have := HJ77.out; first | omega | exact Nat.le_refl _⟩, ⟨q_r (HO_0.out)⟩, ⟨q_k⟩, ⟨bq⟩⟩
            case rest =>
             clear HC83
             (try clear c1); (try clear c2); (try clear p2); (try clear q2); (try clear hx2); (try clear c3); (try clear p3); (try clear q3); (try clear hx3); (try clear c4); (try clear c5); (try clear c5b0)
             (try clear c5b1); (try clear p5); (try clear q5); (try clear hx5); (try clear hf5); (try clear c6); (try clear c6b0); (try clear p6); (try clear c7); (try clear c8); (try clear c8b0); (try clear c9)
             (try clear c9b0); (try clear c10); (try clear c10b0); (try clear c11); (try clear c11b0); (try clear c13); (try clear c13b0); (try clear c20); (try clear c20b0); (try clear c22); (try clear c22b0)
             (try clear c23); (try clear c23b0); (try clear c24); (try clear c24b0); (try clear c25); (try clear c25b0); (try clear c26); (try clear p26); (try clear q26); (try clear hx26); (try clear hf26)
             (try clear c27); (try clear p27); (try clear q27); (try clear hx27); (try clear hf27); (try clear p29); (try clear q29); (try clear hx29); (try clear c30); (try clear p30); (try clear q30)
             (try clear hx30); (try clear c31); (try clear p31); (try clear q31); (try clear hx31); (try clear c32); (try clear c32b0); (try clear c32b1); (try clear c33); (try clear c33b0); (try clear c34)
             (try clear c34b0); (try clear c35); (try clear c35b0); (try clear c37); (try clear c37b0); (try clear c38); (try clear c38b0); (try clear c40); (try clear c40b0); (try clear c47); (try clear c47b0)
             (try clear c49); (try clear c49b0); (try clear c50); (try clear c50b0); (try clear c51); (try clear c51b0); (try clear c52); (try clear c52b0); (try clear c53); (try clear p53); (try clear q53)
             (try clear hx53); (try clear hf53); (try clear c54); (try clear p54); (try clear q54); (try clear hx54); (try clear hf54); (try clear c57); (try clear c58); (try clear c60); (try clear c60b0)
             (try clear c61); (try clear c61b0); (try clear c63); (try clear c63b0); (try clear c64); (try clear c64b0); (try clear p64); (try clear c66); (try clear c66b0); (try clear c67); (try clear c67b0)
             (try clear c69); (try clear c69b0); (try clear c77); (try clear c77b0); (try clear c79); (try clear c84); (try clear c84b0); (try clear hx26_0); (try clear hx26_1); (try clear hx26_2); (try clear hx26_3)
             (try clear hx27_0); (try clear hx27_1); (try clear hx27_2); (try clear hx27_3); (try clear hx296_0); (try clear hx296_1); (try clear hx296_2); (try clear hx296_3); (try clear hx297_0); (try clear hx297_1)
             (try clear hx297_2); (try clear hx297_3); (try clear hx299_0); (try clear hx299_1); (try clear hx299_2); (try clear hx299_3); (try clear hx300_0); (try clear hx300_1); (try clear hx300_2)
             (try clear hx300_3); (try clear hx303_0); (try clear hx303_1); (try clear hx303_2); (try clear hx303_3); (try clear hx304_0); (try clear hx304_1); (try clear hx304_2); (try clear hx304_3)
             (try clear hx306_0); (try clear hx306_1); (try clear hx306_2); (try clear hx306_3); (try clear hx307_0); (try clear hx307_1); (try clear hx307_2); (try clear hx307_3); (try clear hx310_0)
             (try clear hx310_1); (try clear hx310_2); (try clear hx310_3); (try clear hx311_0); (try clear hx311_1); (try clear hx311_2); (try clear hx311_3); (try clear hx53_0); (try clear hx53_1); (try clear hx53_2)
             (try clear hx53_3); (try clear hx54_0); (try clear hx54_1); (try clear hx54_2); (try clear hx54_3); (try clear p2); (try clear p26); (try clear p27); (try clear p29); (try clear p296); (try clear p297)
             (try clear p299); (try clear p3); (try clear p30); (try clear p300); (try clear p303); (try clear p304); (try clear p306); (try clear p307); (try clear p31); (try clear p310); (try clear p311)
             (try clear p5); (try clear p53); (try clear p54); (try clear p6); (try clear p64); (try clear q2); (try clear q26); (try clear q27); (try clear q29); (try clear q296); (try clear q297); (try clear q299)
             (try clear q3); (try clear q30); (try clear q300); (try clear q303); (try clear q304); (try clear q306); (try clear q307); (try clear q31); (try clear q310); (try clear q311); (try clear q5)
             (try clear q53); (try clear q54)
             obtain ⟨kq, x18_82, x199_82, rfl, rfl, HA, HJ82, HO_0, HK, HB⟩ := hcut
             cases kq with
             | zero => exact absurd HA.out (by simp [slices_symMergeCmpFunc_impl_Row.j8])
             | succ kj82 =>
              have H := HA.out
              clear HA
              simp only [slices_symMergeCmpFunc_impl_Row.j8] at H
              by_cases c85 : x199_82 = true
              ·subst c85
               have H1 : ((slices_symMergeCmpFunc_impl_Row.f kj82 x0_77 a1 x20_2 x18_82).bind fun t314 => (if x18_82 < (wrap64 (x19_58 - x20_2)) then (if (wrap64 (x19_58 - x20_2)) < a3 then ((slices_symMergeCmpFunc_impl_Row.f kj82 t314 x18_82 (wrap64 (x19_58 - x20_2)) a3).bind fun t315 => (some t315)) else (some t314)) else (some t314))) = some r := by rw [if_pos rfl] at H; exact H
               clear H
               have H := H1
               clear H1
               replace H := ob H
               obtain ⟨t314, A860, H⟩ := H
               replace H : (if x18_82 < (wrap64 (x19_58 - x20_2)) then (if (wrap64 (x19_58 - x20_2)) < a3 then ((slices_symMergeCmpFunc_impl_Row.f kj82 t314 x18_82 (wrap64 (x19_58 - x20_2)) a3).bind fun t315 => (some t315)) else (some t314)) else (some t314)) = some r := H
               have A86 := am A860
               clear A860
               by_cases c87 : x18_82 < (wrap64 (x19_58 - x20_2))
               ·rw [if_pos c87] at H
                have c87b0 := decide_eq_true c87
                clear c87
                by_cases c88 : (wrap64 (x19_58 - x20_2)) < a3
                ·rw [if_pos c88] at H
                 have c88b0 := decide_eq_true c88
                 clear c88
                 replace H := ob H
                 obtain ⟨t315, A890, H⟩ := H
                 replace H : (some t315) = some r := H
                 have A89 := am A890
                 clear A890
                 obtain rfl := Option.some.inj H
                 obtain ⟨Ao90, co90, eo90⟩ := Kd.R_slice HO_0.out
                 subst eo90
                 go_wp2_with (first | ((with_reducible refine gate_callee (f := 138) rfl ?_); refine goesLq (some 205) rfl rfl Try.func138 (by kernel_rfl) rfl #[.slice Ao90 x0_77.length co90, .int .i64 a1, .int .i64 x20_2, .int .i64 x18_82, .func (.func 67) #[] #[]] rfl ?_; (with_reducible refine (ih kj82 (by have := HJ58.out; have := HK2.out; have := HJ75.out; have := HJ77.out; have := HJ82.out; omega) (fun k_ => some k_ = (.slice Ao90 x0_77.length co90 : Value).ownBlock) (.slice Ao90 x0_77.length co90) x0_77 a1 x20_2 x18_82 t314 w0 _ ?side1 ?side2 A86.out).mono ?_); (case side1 => repeat (first | (with_reducible first | exact HB.out | apply below_alloc | apply pw_below_drewN | apply below_drew1) | exact HB.out)); (case side2 => exact Kd.R_tight rfl HO_0.out); rintro e w91 ⟨rfl, hy0, hb, hkp⟩; refine ⟨_, rfl, ?_⟩; have n0_ := am (Kd.R_reok rfl hy0 (fun k_ e_ => HO_0.out.1 k_ e_)); have n1_ := am (Kept.then_ (S := (fun k_ => P0_ k_)) q_k hkp (fun k_ hs_ => (fun e_ => (HO_0.out.1 k_ e_.symm)) hs_)); have n2_ := am (hb); revert n0_ n1_ n2_; clear HO_0 HK HB; intro HO_0 HK HB; (try clear hb); (try clear hkp); (try clear hy0)) | ((with_reducible refine gate_callee (f := 138) rfl ?_); refine goesLq (some 219) rfl rfl Try.func138 (by kernel_rfl) rfl #[.slice Ao90 x0_77.length co90, .int .i64 x18_82, .int .i64 (wrap64 (x19_58 - x20_2)), .int .i64 a3, .func (.func 67) #[] #[]] rfl ?_; (with_reducible refine (ih kj82 (by have := HJ58.out; have := HK2.out; have := HJ75.out; have := HJ77.out; have := HJ82.out; omega) (fun k_ => some k_ = (.slice Ao90 x0_77.length co90 : Value).ownBlock) (.slice Ao90 x0_77.length co90) t314 x18_82 (wrap64 (x19_58 - x20_2)) a3 t315 w0 _ ?side1 ?side2 A89.out).mono ?_); (case side1 => repeat (first | (with_reducible first | exact HB.out | apply below_alloc | apply pw_below_drewN | apply below_drew1) | exact HB.out)); (case side2 => exact Kd.R_tight rfl HO_0.out); rintro e w92 ⟨rfl, hy0, hb, hkp⟩; refine ⟨_, rfl, ?_⟩; have n0_ := am (Kd.R_reok rfl hy0 (fun k_ e_ => HO_0.out.1 k_ e_)); have n1_ := am (Kept.then_ (S := (fun k_ => P0_ k_)) q_k hkp (fun k_ hs_ => (fun e_ => (HO_0.out.1 k_ e_.symm)) hs_)); have n2_ := am (hb); revert n0_ n1_ n2_; clear HO_0 HK HB; intro HO_0 HK HB; (try clear hb); (try clear hkp); (try clear hy0)))
                 first | go_end0 | ((try simp only [Exit.inBlock, Exit.then]); refine bodyPost_ret (results_none rfl _ _ _) rfl ?_)
                 exact ⟨q_e, q_r (HO_0.out), bq, q_k⟩
                ·rw [if_neg c88] at H
                 have c88b0 := decide_eq_false c88
                 clear c88
                 obtain rfl := Option.some.inj H
                 obtain ⟨Ao93, co93, eo93⟩ := Kd.R_slice HO_0.out
                 subst eo93
                 go_wp2_with (first | ((with_reducible refine gate_callee (f := 138) rfl ?_); refine goesLq (some 205) rfl rfl Try.func138 (by kernel_rfl) rfl #[.slice Ao93 x0_77.length co93, .int .i64 a1, .int .i64 x20_2, .int .i64 x18_82, .func (.func 67) #[] #[]] rfl ?_; (with_reducible refine (ih kj82 (by have := HJ58.out; have := HK2.out; have := HJ75.out; have := HJ77.out; have := HJ82.out; omega) (fun k_ => some k_ = (.slice Ao93 x0_77.length co93 : Value).ownBlock) (.slice Ao93 x0_77.length co93) x0_77 a1 x20_2 x18_82 t314 w0 _ ?side1 ?side2 A86.out).mono ?_); (case side1 => repeat (first | (with_reducible first | exact HB.out | apply below_alloc | apply pw_below_drewN | apply below_drew1) | exact HB.out)); (case side2 => exact Kd.R_tight rfl HO_0.out); rintro e w94 ⟨rfl, hy0, hb, hkp⟩; refine ⟨_, rfl, ?_⟩; have n0_ := am (Kd.R_reok rfl hy0 (fun k_ e_ => HO_0.out.1 k_ e_)); have n1_ := am (Kept.then_ (S := (fun k_ => P0_ k_)) q_k hkp (fun k_ hs_ => (fun e_ => (HO_0.out.1 k_ e_.symm)) hs_)); have n2_ := am (hb); revert n0_ n1_ n2_; clear HO_0 HK HB; intro HO_0 HK HB; (try clear hb); (try clear hkp); (try clear hy0)))
                 first | go_end0 | ((try simp only [Exit.inBlock, Exit.then]); refine bodyPost_ret (results_none rfl _ _ _) rfl ?_)
                 exact ⟨q_e, q_r (HO_0.out), bq, q_k⟩
               ·rw [if_neg c87] at H
                have c87b0 := decide_eq_false c87
                clear c87
                obtain rfl := Option.some.inj H
                obtain ⟨Ao95, co95, eo95⟩ := Kd.R_slice HO_0.out
                subst eo95
                go_wp2_with (first | ((with_reducible refine gate_callee (f := 138) rfl ?_); refine goesLq (some 205) rfl rfl Try.func138 (by kernel_rfl) rfl #[.slice Ao95 x0_77.length co95, .int .i64 a1, .int .i64 x20_2, .int .i64 x18_82, .func (.func 67) #[] #[]] rfl ?_; (with_reducible refine (ih kj82 (by have := HJ58.out; have := HK2.out; have := HJ75.out; have := HJ77.out; have := HJ82.out; omega) (fun k_ => some k_ = (.slice Ao95 x0_77.length co95 : Value).ownBlock) (.slice Ao95 x0_77.length co95) x0_77 a1 x20_2 x18_82 t314 w0 _ ?side1 ?side2 A86.out).mono ?_); (case side1 => repeat (first | (with_reducible first | exact HB.out | apply below_alloc | apply pw_below_drewN | apply below_drew1) | exact HB.out)); (case side2 => exact Kd.R_tight rfl HO_0.out); rintro e w96 ⟨rfl, hy0, hb, hkp⟩; refine ⟨_, rfl, ?_⟩; have n0_ := am (Kd.R_reok rfl hy0 (fun k_ e_ => HO_0.out.1 k_ e_)); have n1_ := am (Kept.then_ (S := (fun k_ => P0_ k_)) q_k hkp (fun k_ hs_ => (fun e_ => (HO_0.out.1 k_ e_.symm)) hs_)); have n2_ := am (hb); revert n0_ n1_ n2_; clear HO_0 HK HB; intro HO_0 HK HB; (try clear hb); (try clear hkp); (try clear hy0)))
                first | go_end0 | ((try simp only [Exit.inBlock, Exit.then]); refine bodyPost_ret (results_none rfl _ _ _) rfl ?_)
                exact ⟨q_e, q_r (HO_0.out), bq, q_k⟩
              ·replace c85 := Bool.eq_false_iff.mpr c85
               subst c85
               have H1 : (if x18_82 < (wrap64 (x19_58 - x20_2)) then (if (wrap64 (x19_58 - x20_2)) < a3 then ((slices_symMergeCmpFunc_impl_Row.f kj82 x0_77 x18_82 (wrap64 (x19_58 - x20_2)) a3).bind fun t316 => (some t316)) else (some x0_77)) else (some x0_77)) = some r := by rw [if_neg (show ¬ (false = true) by decide)] at H; exact H
               clear H
               have H := H1
               clear H1
               by_cases c97 : x18_82 < (wrap64 (x19_58 - x20_2))
               ·rw [if_pos c97] at H
                have c97b0 := decide_eq_true c97
                clear c97
                by_cases c98 : (wrap64 (x19_58 - x20_2)) < a3
                ·rw [if_pos c98] at H
                 have c98b0 := decide_eq_true c98
                 clear c98
                 replace H := ob H
                 obtain ⟨t316, A990, H⟩ := H
                 replace H : (some t316) = some r := H
                 have A99 := am A990
                 clear A990
                 obtain rfl := Option.some.inj H
                 obtain ⟨Ao100, co100, eo100⟩ := Kd.R_slice HO_0.out
                 subst eo100
                 go_wp2_with (first | ((with_reducible refine gate_callee (f := 138) rfl ?_); refine goesLq (some 219) rfl rfl Try.func138 (by kernel_rfl) rfl #[.slice Ao100 x0_77.length co100, .int .i64 x18_82, .int .i64 (wrap64 (x19_58 - x20_2)), .int .i64 a3, .func (.func 67) #[] #[]] rfl ?_; (with_reducible refine (ih kj82 (by have := HJ58.out; have := HK2.out; have := HJ75.out; have := HJ77.out; have := HJ82.out; omega) (fun k_ => some k_ = (.slice Ao100 x0_77.length co100 : Value).ownBlock) (.slice Ao100 x0_77.length co100) x0_77 x18_82 (wrap64 (x19_58 - x20_2)) a3 t316 w0 _ ?side1 ?side2 A99.out).mono ?_); (case side1 => repeat (first | (with_reducible first | exact HB.out | apply below_alloc | apply pw_below_drewN | apply below_drew1) | exact HB.out)); (case side2 => exact Kd.R_tight rfl HO_0.out); rintro e w101 ⟨rfl, hy0, hb, hkp⟩; refine ⟨_, rfl, ?_⟩; have n0_ := am (Kd.R_reok rfl hy0 (fun k_ e_ => HO_0.out.1 k_ e_)); have n1_ := am (Kept.then_ (S := (fun k_ => P0_ k_)) q_k hkp (fun k_ hs_ => (fun e_ => (HO_0.out.1 k_ e_.symm)) hs_)); have n2_ := am (hb); revert n0_ n1_ n2_; clear HO_0 HK HB; intro HO_0 HK HB; (try clear hb); (try clear hkp); (try clear hy0)))
                 first | go_end0 | ((try simp only [Exit.inBlock, Exit.then]); refine bodyPost_ret (results_none rfl _ _ _) rfl ?_)
                 exact ⟨q_e, q_r (HO_0.out), bq, q_k⟩
                ·rw [if_neg c98] at H
                 have c98b0 := decide_eq_false c98
                 clear c98
                 obtain rfl := Option.some.inj H
                 go_wp2
                 first | go_end0 | ((try simp only [Exit.inBlock, Exit.then]); refine bodyPost_ret (results_none rfl _ _ _) rfl ?_)
                 exact ⟨q_e, q_r (HO_0.out), bq, q_k⟩
               ·rw [if_neg c97] at H
                have c97b0 := decide_eq_false c97
                clear c97
                obtain rfl := Option.some.inj H
                go_wp2
                first | go_end0 | ((try simp only [Exit.inBlock, Exit.then]); refine bodyPost_ret (results_none rfl _ _ _) rfl ?_)
                exact ⟨q_e, q_r (HO_0.out), bq, q_k⟩

end Go.Proofs.Ytdhlcnlcpjlliaa.PFnTables
