/- Functions that a law reaches, as plain Lean functions, with the proof that the machine comes to their answers. No conditions. -/
import Derived.Test.YtdhlcnlcpjlliaaPFnTablesx0
import Derived.Test.YtdhlcnlcpjlliaaPFnTablesx2
namespace Go.Proofs.Ytdhlcnlcpjlliaa.PFnTables
open Go.RowKit Go.Proofs.YtdhlcnlcpjlliaaW.PrintWords Go.Proofs.YtdhlcnlcpjlliaaW.PrintLast Go.Proofs.YtdhlcnlcpjlliaaW.PrintMore
attribute [local go_sem] max2_int min2_int max_two min_two max_three min_three max_four min_four   -- for this text's walks alone
set_option linter.unusedVariables false
set_option linter.unusedSimpArgs false
set_option maxHeartbeats 8000000
set_option maxRecDepth 100000

/-! ### slices_insertionSortCmpFunc_impl_Row: function 137 -/

theorem print_gateT {P : Program} {ops : Array Oper} {rest : List Oper} {o : Oper} {a : Act} {Q : Exit → Act → World → Prop} {W : World} {co : Operand} (f : FuncId) {ars : Array Operand} {ts : Array TypeId} (_ho : o.op = .call { callee := .value co, args := ars, argTypes := ts }) (_hT : a.eval co = .func (.func f) #[] #[]) (h : wpList P ops Q (o :: rest) a W) : wpList P ops Q (o :: rest) a W := h
theorem print_goesT {P : Program} {ops : Array Oper} {Q : Exit → Act → World → Prop} {rest : List Oper} {oi : Oper} {a : Act} {w : World} {co : Operand} (N : Option Tmp) (hd : oi.dst = N) (hg : oi.guard = none) {f : FuncId} {fn : Func} {ars : Array Operand} {ts : Array TypeId} (hf : P.funcs[f]? = some fn) (hname : (fn.name == "runtime.NumGoroutine") = false) (hb : fn.body.isSome = true) (args : Array Value)
    (hop : oi.op = .call { callee := .value co, args := ars, argTypes := ts }) (hT : a.eval co = .func (.func f) #[] #[]) (hargs : ars.map a.eval = args)
    (h : Calls P f args w fun e w' => ∃ v, e = .returned v ∧ wpList P ops Q rest (a.put N v) w') : wpList P ops Q (oi :: rest) a w := by
  refine wpList_plain hg fun K hK => ?_
  have he := enters_ hf hname hb args w
  have hrun : (execOp a.eval oi).run P w = .ok (.enter f args) w := by
    unfold execOp
    simp [hop, resolve, Deferred.ofValue, invoke, hT, hargs, he]
  unfold Oper.wp
  rw [hrun, Oper.upon_enter]
  refine h.mono fun e w'' hh => ?_
  obtain ⟨v, rfl, hk⟩ := hh
  subst hd
  exact hK _ _ hk
theorem print_goesR {P : Program} {ops : Array Oper} {Q : Exit → Act → World → Prop} {oi : Oper} {N : Option Tmp} {a : Act} {w : World} {K : Act → World → Prop} {co : Operand} {f : FuncId} {fn : Func} {ars : Array Operand} {ts : Array TypeId} (hf : P.funcs[f]? = some fn) (hname : (fn.name == "runtime.NumGoroutine") = false) (hb : fn.body.isSome = true) (args : Array Value)
    (hw : Region.wanted oi (yielded ops a.tmps) = true) (hN : oi.dst = N) (hop : oi.op = .call { callee := .value co, args := ars, argTypes := ts }) (hT : a.eval co = .func (.func f) #[] #[]) (hargs : ars.map a.eval = args)
    (h : Calls P f args w fun e w' => ∃ v, e = .returned v ∧ K (a.put N v) w') : if Region.wanted oi (yielded ops a.tmps) = true then Oper.wp P oi a w K Q else K (a.put N undef) w := by
  refine call_ f args hw hN ?_ h
  have he := enters_ hf hname hb args w
  unfold execOp
  simp [hop, resolve, Deferred.ofValue, invoke, hT, hargs, he]
mutual
def slices_insertionSortCmpFunc_impl_Row.l0 : Nat → List (S49) → Int → Int → Int → Option ((List (S49)))
  | 0, _, _, _, _ => none
  | k + 1, x0, x1, x2, x8 => if x8 < x2 then (slices_insertionSortCmpFunc_impl_Row.l1 k x0 x1 x2 x8 x8) else (some x0)
def slices_insertionSortCmpFunc_impl_Row.l1 : Nat → List (S49) → Int → Int → Int → Int → Option ((List (S49)))
  | 0, _, _, _, _, _ => none
  | k + 1, x0, x1, x2, x8, x9 => if x9 > x1 then (if 0 ≤ x9 then (if x9 < (x0.length : Int) then (if 0 ≤ (wrap64 (x9 - 1)) then (if (wrap64 (x9 - 1)) < (x0.length : Int) then ((impl_compareRows.f k ((rd_T49 x0 x9).f0) ((rd_T49 x0 x9).f1) ((rd_T49 x0 x9).f2) ((rd_T49 x0 x9).f3) ((rd_T49 x0 (wrap64 (x9 - 1))).f0) ((rd_T49 x0 (wrap64 (x9 - 1))).f1) ((rd_T49 x0 (wrap64 (x9 - 1))).f2) ((rd_T49 x0 (wrap64 (x9 - 1))).f3)).bind fun t284 => (if t284 < 0 then (slices_insertionSortCmpFunc_impl_Row.l1 k ((x0.set (x9 : Int).toNat (⟨(rd_T49 x0 (wrap64 (x9 - 1))).f0, (rd_T49 x0 (wrap64 (x9 - 1))).f1, (rd_T49 x0 (wrap64 (x9 - 1))).f2, (rd_T49 x0 (wrap64 (x9 - 1))).f3⟩ : S49)).set ((wrap64 (x9 - 1)) : Int).toNat (⟨(rd_T49 x0 x9).f0, (rd_T49 x0 x9).f1, (rd_T49 x0 x9).f2, (rd_T49 x0 x9).f3⟩ : S49)) x1 x2 x8 (wrap64 (x9 - 1))) else (slices_insertionSortCmpFunc_impl_Row.l0 k x0 x1 x2 (wrap64 (x8 + 1))))) else (none)) else (none)) else (none)) else (none)) else (slices_insertionSortCmpFunc_impl_Row.l0 k x0 x1 x2 (wrap64 (x8 + 1)))
end
def slices_insertionSortCmpFunc_impl_Row.f (k : Nat) (l0 : List (S49)) (a1 : Int) (a2 : Int) : Option ((List (S49))) := slices_insertionSortCmpFunc_impl_Row.l0 k l0 a1 a2 (wrap64 (a1 + 1))
def slices_insertionSortCmpFunc_impl_Row.T4 : Bool × List (List Nat × List Nat) := (true, [([], []), ([], []), ([0, 1], [0, 1]), ([2], [2]), ([3], [3]), ([3], [3]), ([3], [3]), ([5, 6, 3], [3, 5, 6]), ([7, 3], [3, 7]), ([3], [3]), ([3], [3]), ([10, 3], [3, 10]), ([9, 11, 3], [3, 9, 11]), ([12, 3], [3, 12]), ([4, 8, 13, 3, 3], [3, 4, 8, 13]), ([14, 3], [3, 14]), ([3, 15], [3, 15])])
def slices_insertionSortCmpFunc_impl_Row.B4 : List Nat := [0, 0, 3, 7, 15, 15, 15, 111, 239, 15, 15, 1039, 3599, 7695, 16383, 32767, 65535]
theorem slices_insertionSortCmpFunc_impl_Row.tab4 : rtab .any (opsOf Try.f137 4) = slices_insertionSortCmpFunc_impl_Row.T4 := by kernel_rfl
theorem slices_insertionSortCmpFunc_impl_Row.bits4 : waitsOk slices_insertionSortCmpFunc_impl_Row.T4.2 slices_insertionSortCmpFunc_impl_Row.B4 = true := by kernel_rfl
def slices_insertionSortCmpFunc_impl_Row.T6 : Bool × List (List Nat × List Nat) := (true, [([], []), ([], []), ([], []), ([], []), ([3], [3]), ([], []), ([], []), ([6], [6]), ([5, 7], [5, 7]), ([8], [8]), ([], []), ([], []), ([10, 11], [10, 11]), ([12], [12]), ([0, 1, 0, 1, 5, 6, 7, 8, 9, 13], [0, 1]), ([14, 9, 0, 1, 5, 6, 7, 8, 9, 13], [9, 14]), ([2, 4, 0, 1, 2, 3, 4, 5, 6, 7, 8, 9, 10, 11, 12, 13, 14, 15], [2, 4]), ([16, 13, 15, 0, 1, 2, 3, 4, 5, 6, 7, 8, 9, 10, 11, 12, 13, 14, 15], [13, 16])])
def slices_insertionSortCmpFunc_impl_Row.B6 : List Nat := [0, 0, 0, 0, 8, 0, 0, 64, 224, 480, 0, 0, 3072, 7168, 16355, 32739, 65535, 131071]
theorem slices_insertionSortCmpFunc_impl_Row.tab6 : rtab .any (opsOf Try.f137 6) = slices_insertionSortCmpFunc_impl_Row.T6 := by kernel_rfl
theorem slices_insertionSortCmpFunc_impl_Row.bits6 : waitsOk slices_insertionSortCmpFunc_impl_Row.T6.2 slices_insertionSortCmpFunc_impl_Row.B6 = true := by kernel_rfl
theorem slices_insertionSortCmpFunc_impl_Row.calls (k : Nat) (P0_ : Nat → Prop) (u9000_ : Value) (l0 : List (S49)) (a1 : Int) (a2 : Int) (r : List (S49)) (w0 w : World) (hB : Below w0.heap.size w0 w) (ho0 : Kd.R k49 49 w w0.heap.size P0_ u9000_ l0) (h : slices_insertionSortCmpFunc_impl_Row.f k l0 a1 a2 = some r) :
  Calls Try.prog 137 #[u9000_, .int .i64 a1, .int .i64 a2, .func (.func 67) #[] #[]] w fun e w' => e = .returned (.tuple #[]) ∧ Kd.R k49 49 w' w0.heap.size (fun k_ => (P0_ k_ ∨ w.heap.size ≤ k_)) u9000_ r ∧ Below w0.heap.size w0 w' ∧ Kept w w' (fun k_ => P0_ k_) := by
 have hu49 := Try.underlying49
 have HO0 := am (show Kd.R k49 49 w w0.heap.size (fun k_ => (P0_ k_ ∨ w.heap.size ≤ k_)) u9000_ l0 from Kd.R_mono ho0 (fun k_ hk => (.inl hk)))
 have HK := am (Kept.refl w (fun k_ => P0_ k_))
 have HW0 := am hB.size
 have HB := am hB
 clear hB
 have H : (slices_insertionSortCmpFunc_impl_Row.l0 k l0 a1 a2 (wrap64 (a1 + 1))) = some r := h
 clear h
 have H' := am H
 clear H
 go_enter Try.func137, Try.ntmps137
 go_wp2
 go_loopg [8] k (fun kq v8 w' => ∃ (x0_1 : List (S49)) (x8_1 : Int), v8 = .int .i64 x8_1 ∧ Aside0 (slices_insertionSortCmpFunc_impl_Row.l0 kq x0_1 a1 a2 x8_1 = some r) ∧ Aside0 (kq ≤ k) ∧ Aside0 (Kd.R k49 49 w' w0.heap.size (fun k_ => (P0_ k_ ∨ w.heap.size ≤ k_)) u9000_ x0_1) ∧ Aside0 (Kept w w' (fun k_ => P0_ k_)) ∧ Aside0 (Below w0.heap.size w0 w'))
 case atStart => exact ⟨(l0), (wrap64 (a1 + 1)), q_i, H', ⟨Nat.le_refl _⟩, ⟨q_r (HO0.out)⟩, ⟨q_k⟩, ⟨bq⟩⟩
 case round =>
  clear H'
  (try clear c1); (try clear p2)
  obtain ⟨x0_1, x8_1, rfl, HA, HK1, HO_0, HK, HB⟩ := hrel
  cases gk with
  | zero => exact absurd HA.out (by simp [slices_insertionSortCmpFunc_impl_Row.l0])
  | succ k1 =>
   have H := HA.out
   clear HA
   simp only [slices_insertionSortCmpFunc_impl_Row.l0] at H
   by_cases c4 : x8_1 < a2
   ·rw [if_pos c4] at H
    have c4b0 := decide_eq_true c4
    clear c4
    have H' := am H
    clear H
    go_wp2
    go_loopg [9] k1 (fun kq v9 w' => ∃ (x0_2 : List (S49)) (x9_2 : Int), v9 = .int .i64 x9_2 ∧ Aside0 (slices_insertionSortCmpFunc_impl_Row.l1 kq x0_2 a1 a2 x8_1 x9_2 = some r) ∧ Aside0 (kq ≤ k1) ∧ Aside0 (Kd.R k49 49 w' w0.heap.size (fun k_ => (P0_ k_ ∨ w.heap.size ≤ k_)) u9000_ x0_2) ∧ Aside0 (Kept w w' (fun k_ => P0_ k_)) ∧ Aside0 (Below w0.heap.size w0 w'))
    case atStart => exact ⟨(x0_1), (x8_1), q_i, H', ⟨Nat.le_refl _⟩, ⟨q_r (HO_0.out)⟩, ⟨q_k⟩, ⟨bq⟩⟩
    case round =>
     clear H'
     (try clear c1); (try clear p2); (try clear c4); (try clear c4b0); (try clear p2)
     obtain ⟨x0_2, x9_2, rfl, HA, HK2, HO_0, HK, HB⟩ := hrel
     cases gk with
     | zero => exact absurd HA.out (by simp [slices_insertionSortCmpFunc_impl_Row.l1])
     | succ k2 =>
      have H := HA.out
      clear HA
      simp only [slices_insertionSortCmpFunc_impl_Row.l1] at H
      by_cases c5 : x9_2 > a1
      ·rw [if_pos c5] at H
       have c5b0 := decide_eq_true c5
       clear c5
       by_cases c6 : 0 ≤ x9_2
       ·rw [if_pos c6] at H
        have c6b0 := decide_eq_true c6
        clear c6
        by_cases c7 : x9_2 < (x0_2.length : Int)
        ·rw [if_pos c7] at H
         have c7b0 := decide_eq_true c7
         clear c7
         obtain ⟨ji8, hji8⟩ : ∃ j_ : Int, (wrap64 (x9_2 - 1)) = j_ := ⟨_, rfl⟩
         replace H : (if 0 ≤ (ji8) then (if (ji8) < (x0_2.length : Int) then ((impl_compareRows.f k2 ((rd_T49 x0_2 x9_2).f0) ((rd_T49 x0_2 x9_2).f1) ((rd_T49 x0_2 x9_2).f2) ((rd_T49 x0_2 x9_2).f3) ((rd_T49 x0_2 (ji8)).f0) ((rd_T49 x0_2 (ji8)).f1) ((rd_T49 x0_2 (ji8)).f2) ((rd_T49 x0_2 (ji8)).f3)).bind fun t284 => (if t284 < 0 then (slices_insertionSortCmpFunc_impl_Row.l1 k2 ((x0_2.set (x9_2 : Int).toNat (⟨(rd_T49 x0_2 (ji8)).f0, (rd_T49 x0_2 (ji8)).f1, (rd_T49 x0_2 (ji8)).f2, (rd_T49 x0_2 (ji8)).f3⟩ : S49)).set ((ji8) : Int).toNat (⟨(rd_T49 x0_2 x9_2).f0, (rd_T49 x0_2 x9_2).f1, (rd_T49 x0_2 x9_2).f2, (rd_T49 x0_2 x9_2).f3⟩ : S49)) a1 a2 x8_1 ji8) else (slices_insertionSortCmpFunc_impl_Row.l0 k2 x0_2 a1 a2 (wrap64 (x8_1 + 1))))) else (none)) else (none)) = some r := by first | (rw [hji8] at H; exact H) | (simp only [hji8] at H ⊢; exact H)
         have hji8w : (IntKind.i64.wrap (x9_2 - 1)) = ji8 := (i64_w _).trans hji8
         by_cases c9 : 0 ≤ (ji8)
         ·rw [if_pos c9] at H
          have c9b0 := decide_eq_true c9
          clear c9
          by_cases c10 : (ji8) < (x0_2.length : Int)
          ·rw [if_pos c10] at H
           have c10b0 := decide_eq_true c10
           clear c10
           replace H := ob H
           obtain ⟨t284, A110, H⟩ := H
           replace H : (if t284 < 0 then (slices_insertionSortCmpFunc_impl_Row.l1 k2 ((x0_2.set (x9_2 : Int).toNat (⟨(rd_T49 x0_2 (ji8)).f0, (rd_T49 x0_2 (ji8)).f1, (rd_T49 x0_2 (ji8)).f2, (rd_T49 x0_2 (ji8)).f3⟩ : S49)).set ((ji8) : Int).toNat (⟨(rd_T49 x0_2 x9_2).f0, (rd_T49 x0_2 x9_2).f1, (rd_T49 x0_2 x9_2).f2, (rd_T49 x0_2 x9_2).f3⟩ : S49)) a1 a2 x8_1 ji8) else (slices_insertionSortCmpFunc_impl_Row.l0 k2 x0_2 a1 a2 (wrap64 (x8_1 + 1)))) = some r := H
           have A11 := am A110
           clear A110
           by_cases c12 : t284 < 0
           ·rw [if_pos c12] at H
            have c12b0 := decide_eq_true c12
            clear c12
            obtain ⟨y287, hy287⟩ : ∃ y_ : List (S49), y_ = (x0_2.set (x9_2 : Int).toNat (⟨(rd_T49 x0_2 (ji8)).f0, (rd_T49 x0_2 (ji8)).f1, (rd_T49 x0_2 (ji8)).f2, (rd_T49 x0_2 (ji8)).f3⟩ : S49)) := ⟨_, rfl⟩
            replace H : (slices_insertionSortCmpFunc_impl_Row.l1 k2 (y287.set ((ji8) : Int).toNat (⟨(rd_T49 x0_2 x9_2).f0, (rd_T49 x0_2 x9_2).f1, (rd_T49 x0_2 x9_2).f2, (rd_T49 x0_2 x9_2).f3⟩ : S49)) a1 a2 x8_1 ji8) = some r := q_h hy287 H
            have Ny287 := am hy287
            clear hy287
            obtain ⟨y288, hy288⟩ : ∃ y_ : List (S49), y_ = (y287.set ((ji8) : Int).toNat (⟨(rd_T49 x0_2 x9_2).f0, (rd_T49 x0_2 x9_2).f1, (rd_T49 x0_2 x9_2).f2, (rd_T49 x0_2 x9_2).f3⟩ : S49)) := ⟨_, rfl⟩
            replace H : (slices_insertionSortCmpFunc_impl_Row.l1 k2 y288 a1 a2 x8_1 ji8) = some r := q_h hy288 H
            have Ny288 := am hy288
            clear hy288
            have H' := am H
            clear H
            try go_wp2
            have n0_ := am (Kd.R_drew HO_0.out)
            have n1_ := am (Kept.drew HK.out)
            have n2_ := am (below_drew1 HB.out)
            clear HO_0
            clear HK
            clear HB
            have HO_0 := n0_
            have HK := n1_
            have HB := n2_
            clear n0_ n1_ n2_
            obtain ⟨Ao16, co16, eo16⟩ := Kd.R_slice HO_0.out
            (first | subst eo16 | (injection eo16 with f1_ f2_ f3_; have f4_ := f1_.symm; have f5_ := f3_.symm; clear f1_ f2_ f3_; subst f4_; subst f5_))
            have p282 : 0 ≤ (x9_2 : Int) := q_d
            have q282 : x9_2 < (x0_2.length : Int) := q_d
            obtain ⟨ad282, e282, hx282_0, hx282_1, hx282_2, hx282_3⟩ := at_T49 (Kd.R_reads' HO_0.out).2.2 x9_2 p282 q282
            cases e282
            replace p282 := eq_true p282
            replace q282 := eq_true q282
            have p283 : 0 ≤ ((ji8) : Int) := q_d
            have q283 : (ji8) < (x0_2.length : Int) := q_d
            obtain ⟨ad283, e283, hx283_0, hx283_1, hx283_2, hx283_3⟩ := at_T49 (Kd.R_reads' HO_0.out).2.2 (ji8) p283 q283
            obtain rfl : ad282 = ad283 := (by injection e283)
            replace p283 := eq_true p283
            replace q283 := eq_true q283
            refine start_ (n := 17) (S := fun w' => w'.cell? (ad282.add ((x9_2).toNat * 4)) = some (.string ((rd_T49 x0_2 x9_2).f0)) ∧ w'.cell? ⟨(ad282.add ((x9_2).toNat * 4)).block, (ad282.add ((x9_2).toNat * 4)).off + 1, none⟩ = some (.int .i64 ((rd_T49 x0_2 x9_2).f1)) ∧ w'.cell? ⟨(ad282.add ((x9_2).toNat * 4)).block, (ad282.add ((x9_2).toNat * 4)).off + 2, none⟩ = some (.string ((rd_T49 x0_2 x9_2).f2)) ∧ w'.cell? ⟨(ad282.add ((x9_2).toNat * 4)).block, (ad282.add ((x9_2).toNat * 4)).off + 3, none⟩ = some (.bool ((rd_T49 x0_2 x9_2).f3)) ∧ w'.cell? (ad282.add (((ji8)).toNat * 4)) = some (.string ((rd_T49 x0_2 (ji8)).f0)) ∧ w'.cell? ⟨(ad282.add (((ji8)).toNat * 4)).block, (ad282.add (((ji8)).toNat * 4)).off + 1, none⟩ = some (.int .i64 ((rd_T49 x0_2 (ji8)).f1)) ∧ w'.cell? ⟨(ad282.add (((ji8)).toNat * 4)).block, (ad282.add (((ji8)).toNat * 4)).off + 2, none⟩ = some (.string ((rd_T49 x0_2 (ji8)).f2)) ∧ w'.cell? ⟨(ad282.add (((ji8)).toNat * 4)).block, (ad282.add (((ji8)).toNat * 4)).off + 3, none⟩ = some (.bool ((rd_T49 x0_2 (ji8)).f3))) (ds := []) #[false, false, false, false, false, false, false, false, false, false, false, false, false, false, false, false, false] (by kernel_rfl) rfl rfl ⟨hx282_0, hx282_1, hx282_2, hx282_3, hx283_0, hx283_1, hx283_2, hx283_3⟩ (fun hHeld => ?_); refine with_tabW slices_insertionSortCmpFunc_impl_Row.tab4 slices_insertionSortCmpFunc_impl_Row.bits4 (fun HT_ HW_ => ?_)
            generalize wr.drew = w15 at HO_0 HK HB hx282_0 hx282_1 hx282_2 hx282_3 hx283_0 hx283_1 hx283_2 hx283_3 hHeld ⊢
            refine q_p 0 (some 18) #[true, false, false, false, false, false, false, false, false, false, false, false, false, false, false, false, false] HT_.out ?_
            refine q_p 1 (some 19) #[true, true, false, false, false, false, false, false, false, false, false, false, false, false, false, false, false] HT_.out ?_
            refine q_p 2 (some 20) #[true, true, true, false, false, false, false, false, false, false, false, false, false, false, false, false, false] HT_.out ?_
            refine q_p 3 (some 21) #[true, true, true, true, false, false, false, false, false, false, false, false, false, false, false, false, false] HT_.out ?_
            refine q_p 4 (some 22) #[true, true, true, true, true, false, false, false, false, false, false, false, false, false, false, false, false] HT_.out ?_
            refine q_p 5 (some 23) #[true, true, true, true, true, true, false, false, false, false, false, false, false, false, false, false, false] HT_.out ?_
            refine q_p 6 (some 24) #[true, true, true, true, true, true, true, false, false, false, false, false, false, false, false, false, false] HT_.out ?_
            refine q_p 7 (some 25) #[true, true, true, true, true, true, true, true, false, false, false, false, false, false, false, false, false] HT_.out ?_
            refine q_p 9 (some 27) #[true, true, true, true, true, true, true, true, false, true, false, false, false, false, false, false, false] HT_.out ?_
            refine q_p 10 (some 28) #[true, true, true, true, true, true, true, true, false, true, true, false, false, false, false, false, false] HT_.out ?_
            refine q_p 11 (some 29) #[true, true, true, true, true, true, true, true, false, true, true, true, false, false, false, false, false] HT_.out ?_
            refine q_p 12 (some 30) #[true, true, true, true, true, true, true, true, false, true, true, true, true, false, false, false, false] HT_.out ?_
            refine q_t 8 (some 26) #[true, true, true, true, true, true, true, true, true, true, true, true, true, false, false, false, false] HT_.out HW_.out hHeld ?_
            refine q_t 13 (some 31) #[true, true, true, true, true, true, true, true, true, true, true, true, true, true, false, false, false] HT_.out HW_.out hHeld ?_
            refine one_ (i := 14) (N := some 32) #[true, true, true, true, true, true, true, true, true, true, true, true, true, true, true, false, false] rfl rfl (one_of HT_.out (by kernel_rfl)) (by decide) (fun K hK => ?_)
            refine print_goesR Try.func67 (by kernel_rfl) rfl #[.agg #[.string ((rd_T49 x0_2 x9_2).f0), .int .i64 ((rd_T49 x0_2 x9_2).f1), .string ((rd_T49 x0_2 x9_2).f2), .bool ((rd_T49 x0_2 x9_2).f3)], .agg #[.string ((rd_T49 x0_2 (ji8)).f0), .int .i64 ((rd_T49 x0_2 (ji8)).f1), .string ((rd_T49 x0_2 (ji8)).f2), .bool ((rd_T49 x0_2 (ji8)).f3)]] (by rfl) rfl rfl rfl (by (try simp only [List.map_toArray, List.map_cons, List.map_nil]); first | done | (simp only [hji8]; rfl) | rfl | (simp only [List.length_drop, List.length_take]; rfl)) ?_
            with_reducible refine (impl_compareRows.calls k2 ((rd_T49 x0_2 x9_2).f0) ((rd_T49 x0_2 x9_2).f1) ((rd_T49 x0_2 x9_2).f2) ((rd_T49 x0_2 x9_2).f3) ((rd_T49 x0_2 (ji8)).f0) ((rd_T49 x0_2 (ji8)).f1) ((rd_T49 x0_2 (ji8)).f2) ((rd_T49 x0_2 (ji8)).f3) t284 _ A11.out).mono ?_
            rintro e w17 ⟨rfl, hb⟩
            have HS0_ := (hb.cell (wb (hHeld.1))).trans (hHeld.1)
            have HS1_ := (hb.cell (wb (hHeld.2.1))).trans (hHeld.2.1)
            have HS2_ := (hb.cell (wb (hHeld.2.2.1))).trans (hHeld.2.2.1)
            have HS3_ := (hb.cell (wb (hHeld.2.2.2.1))).trans (hHeld.2.2.2.1)
            have HS4_ := (hb.cell (wb (hHeld.2.2.2.2.1))).trans (hHeld.2.2.2.2.1)
            have HS5_ := (hb.cell (wb (hHeld.2.2.2.2.2.1))).trans (hHeld.2.2.2.2.2.1)
            have HS6_ := (hb.cell (wb (hHeld.2.2.2.2.2.2.1))).trans (hHeld.2.2.2.2.2.2.1)
            have HS7_ := (hb.cell (wb (hHeld.2.2.2.2.2.2.2))).trans (hHeld.2.2.2.2.2.2.2)
            refine ⟨_, rfl, ?_⟩
            have n0_ := am (Kd.R_below (q_r (HO_0.out)) hb)
            have n1_ := am (Kept.below (S := (fun k_ => P0_ k_)) q_k hb)
            have n2_ := am (below_step bq hb)
            clear HO_0
            clear HK
            clear HB
            have HO_0 := n0_
            have HK := n1_
            have HB := n2_
            clear n0_ n1_ n2_
            (try clear hb)
            (try clear hb2)
            (try clear hk)
            (try clear hi)
            refine hK.out _ _ ⟨HS0_, HS1_, HS2_, HS3_, HS4_, HS5_, HS6_, HS7_⟩ (fun hHeld => ?_)
            clear hK K
            refine norm_ (a' := ?_) ?_ ?_
            rotate_left
            ·show Act.put _ (some 32) _ = _
             simp only [Act.put, List.setIfInBounds_toArray, List.set_cons_zero, List.set_cons_succ, i64_w, i32_w]
             rfl
            refine q_p 15 (some 33) #[true, true, true, true, true, true, true, true, true, true, true, true, true, true, true, true, false] HT_.out ?_
            refine q_p 16 (some 34) #[true, true, true, true, true, true, true, true, true, true, true, true, true, true, true, true, true] HT_.out ?_
            refine done_ (done_of HT_.out (by kernel_rfl)) ?_
            try go_wp2
            have n0_ := am (Kd.R_drew HO_0.out)
            have n1_ := am (Kept.drew HK.out)
            have n2_ := am (below_drew1 HB.out)
            clear HO_0
            clear HK
            clear HB
            have HO_0 := n0_
            have HK := n1_
            have HB := n2_
            clear n0_ n1_ n2_
            have p285 : 0 ≤ ((ji8) : Int) := q_d
            have q285 : (ji8) < (x0_2.length : Int) := q_d
            obtain ⟨ad285, e285, hx285_0, hx285_1, hx285_2, hx285_3⟩ := at_T49 (Kd.R_reads' HO_0.out).2.2 (ji8) p285 q285
            obtain rfl : ad282 = ad285 := (by injection e285)
            replace p285 := eq_true p285
            replace q285 := eq_true q285
            have p286 : 0 ≤ (x9_2 : Int) := q_d
            have q286 : x9_2 < (x0_2.length : Int) := q_d
            obtain ⟨ad286, e286, hx286_0, hx286_1, hx286_2, hx286_3⟩ := at_T49 (Kd.R_reads' HO_0.out).2.2 x9_2 p286 q286
            obtain rfl : ad282 = ad286 := (by injection e286)
            replace p286 := eq_true p286
            replace q286 := eq_true q286
            have p13 : 0 ≤ (x9_2 : Int) := q_d
            have q13 : (x9_2 : Int) < ((x0_2.length : Int) : Int) := q_d
            obtain ⟨go13, co13, eo13, gb13, gl13, cl13, HG13⟩ := Kd.R_form HO_0.out (by omega)
            (first | cases eo13 | (injection eo13 with ea_ en_ ec_; (first | subst ea_ | (injection ea_ with ea_; subst ea_)); subst ec_; clear en_))
            have GB13 := am gb13
            have GG13 := am HG13
            clear gb13 gl13 HG13
            have HMgo13 := am (show (P0_ go13 ∨ w.heap.size ≤ go13) from (HO_0.out.1 _ rfl))
            (first | simp only [add_plain] at hx282_0 | skip)
            (first | simp only [add_plain] at hx282_1 | skip)
            (first | simp only [add_plain] at hx282_2 | skip)
            (first | simp only [add_plain] at hx282_3 | skip)
            (first | simp only [add_plain] at hx283_0 | skip)
            (first | simp only [add_plain] at hx283_1 | skip)
            (first | simp only [add_plain] at hx283_2 | skip)
            (first | simp only [add_plain] at hx283_3 | skip)
            (first | simp only [add_plain] at hx285_0 | skip)
            (first | simp only [add_plain] at hx285_1 | skip)
            (first | simp only [add_plain] at hx285_2 | skip)
            (first | simp only [add_plain] at hx285_3 | skip)
            (first | simp only [add_plain] at hx286_0 | skip)
            (first | simp only [add_plain] at hx286_1 | skip)
            (first | simp only [add_plain] at hx286_2 | skip)
            (first | simp only [add_plain] at hx286_3 | skip)
            obtain ⟨ce13, hcl13, hM13, hcc13, hfr13⟩ := Kd.R_elem HO_0.out z49 (x9_2 : Int) p13 q13
            obtain rfl := k49_openM hM13
            have hx13_0 : World.cell? _ ⟨go13, (x9_2 : Int).toNat * 4, none⟩ = some (.string ((rd_T49 x0_2 x9_2).f0)) := hcc13 0 _ rfl
            have hx13_1 : World.cell? _ ⟨go13, (x9_2 : Int).toNat * 4 + 1, none⟩ = some (.int .i64 ((rd_T49 x0_2 x9_2).f1)) := hcc13 1 _ rfl
            have hx13_2 : World.cell? _ ⟨go13, (x9_2 : Int).toNat * 4 + 2, none⟩ = some (.string ((rd_T49 x0_2 x9_2).f2)) := hcc13 2 _ rfl
            have hx13_3 : World.cell? _ ⟨go13, (x9_2 : Int).toNat * 4 + 3, none⟩ = some (.bool ((rd_T49 x0_2 x9_2).f3)) := hcc13 3 _ rfl
            have hf13_0 : World.frozen? _ ⟨go13, (x9_2 : Int).toNat * 4, none⟩ = false := hfr13 0
            have hf13_1 : World.frozen? _ ⟨go13, (x9_2 : Int).toNat * 4 + 1, none⟩ = false := hfr13 1
            have hf13_2 : World.frozen? _ ⟨go13, (x9_2 : Int).toNat * 4 + 2, none⟩ = false := hfr13 2
            have hf13_3 : World.frozen? _ ⟨go13, (x9_2 : Int).toNat * 4 + 3, none⟩ = false := hfr13 3
            clear hcl13 hcc13 hfr13; (try clear hM13)
            replace p13 := eq_true p13
            replace q13 := eq_true q13
            obtain ⟨ce19, hcl19, hM19, hcc19, hfr19⟩ := Kd.R_elem HO_0.out z49 (x9_2 : Int) q_d (by have h_ : (x9_2 : Int) < ((x0_2.length : Int) : Int) := q_d; first | exact h_ | (have e_ := (Kd.R_reads' HO_0.out).1; omega) | simpa using h_)
            obtain rfl := k49_openM hM19
            have HP19 := (Kd.R_seg HO_0.out (x9_2 : Int) q_d (by have h_ : (x9_2 : Int) < ((x0_2.length : Int) : Int) := q_d; first | exact h_ | (have e_ := (Kd.R_reads' HO_0.out).1; omega) | simpa using h_) (seg := [.string ((rd_T49 x0_2 (ji8)).f0), .int .i64 ((rd_T49 x0_2 (ji8)).f1), .string ((rd_T49 x0_2 (ji8)).f2), .bool ((rd_T49 x0_2 (ji8)).f3)]) (j := 0) hcl19 hcc19 (show 4 ≤ 4 from by decide) (x' := (⟨(rd_T49 x0_2 (ji8)).f0, (rd_T49 x0_2 (ji8)).f1, (rd_T49 x0_2 (ji8)).f2, (rd_T49 x0_2 (ji8)).f3⟩ : S49)) (k49_mkM _ _ _ (⟨(rd_T49 x0_2 (ji8)).f0, (rd_T49 x0_2 (ji8)).f1, (rd_T49 x0_2 (ji8)).f2, (rd_T49 x0_2 (ji8)).f3⟩ : S49) ) (fun _ hk => hk)).1
            rw [← Ny287.out] at HP19
            have HQ19 := am HP19
            clear hcl19 hcc19 hfr19 HP19; (try clear hM19)
            have p14 : 0 ≤ ((ji8) : Int) := q_d
            have q14 : ((ji8) : Int) < ((x0_2.length : Int) : Int) := q_d
            obtain ⟨ce14, hcl14, hM14, hcc14, hfr14⟩ := Kd.R_elem HQ19.out z49 ((ji8) : Int) p14 q14
            obtain rfl := k49_openM hM14
            have hx14_0 : World.cell? _ ⟨go13, ((ji8) : Int).toNat * 4, none⟩ = some (.string ((rd_T49 y287 (ji8)).f0)) := hcc14 0 _ rfl
            have hx14_1 : World.cell? _ ⟨go13, ((ji8) : Int).toNat * 4 + 1, none⟩ = some (.int .i64 ((rd_T49 y287 (ji8)).f1)) := hcc14 1 _ rfl
            have hx14_2 : World.cell? _ ⟨go13, ((ji8) : Int).toNat * 4 + 2, none⟩ = some (.string ((rd_T49 y287 (ji8)).f2)) := hcc14 2 _ rfl
            have hx14_3 : World.cell? _ ⟨go13, ((ji8) : Int).toNat * 4 + 3, none⟩ = some (.bool ((rd_T49 y287 (ji8)).f3)) := hcc14 3 _ rfl
            have hf14_0 : World.frozen? _ ⟨go13, ((ji8) : Int).toNat * 4, none⟩ = false := hfr14 0
            have hf14_1 : World.frozen? _ ⟨go13, ((ji8) : Int).toNat * 4 + 1, none⟩ = false := hfr14 1
            have hf14_2 : World.frozen? _ ⟨go13, ((ji8) : Int).toNat * 4 + 2, none⟩ = false := hfr14 2
            have hf14_3 : World.frozen? _ ⟨go13, ((ji8) : Int).toNat * 4 + 3, none⟩ = false := hfr14 3
            clear hcl14 hcc14 hfr14; (try clear hM14)
            replace p14 := eq_true p14
            replace q14 := eq_true q14
            obtain ⟨ce20, hcl20, hM20, hcc20, hfr20⟩ := Kd.R_elem HQ19.out z49 ((ji8) : Int) q_d (by have h_ : ((ji8) : Int) < ((x0_2.length : Int) : Int) := q_d; first | exact h_ | (have e_ := (Kd.R_reads' HO_0.out).1; omega) | simpa using h_)
            obtain rfl := k49_openM hM20
            have HP20 := (Kd.R_seg HQ19.out ((ji8) : Int) q_d (by have h_ : ((ji8) : Int) < ((x0_2.length : Int) : Int) := q_d; first | exact h_ | (have e_ := (Kd.R_reads' HO_0.out).1; omega) | simpa using h_) (seg := [.string ((rd_T49 x0_2 x9_2).f0), .int .i64 ((rd_T49 x0_2 x9_2).f1), .string ((rd_T49 x0_2 x9_2).f2), .bool ((rd_T49 x0_2 x9_2).f3)]) (j := 0) hcl20 hcc20 (show 4 ≤ 4 from by decide) (x' := (⟨(rd_T49 x0_2 x9_2).f0, (rd_T49 x0_2 x9_2).f1, (rd_T49 x0_2 x9_2).f2, (rd_T49 x0_2 x9_2).f3⟩ : S49)) (k49_mkM _ _ _ (⟨(rd_T49 x0_2 x9_2).f0, (rd_T49 x0_2 x9_2).f1, (rd_T49 x0_2 x9_2).f2, (rd_T49 x0_2 x9_2).f3⟩ : S49) ) (fun _ hk => hk)).1
            rw [← Ny288.out] at HP20
            have HQ20 := am HP20
            clear hcl20 hcc20 hfr20 HP20; (try clear hM20)
            refine start_ (n := 18) (S := fun w' => w'.cell? ⟨go13, ((ji8)).toNat * 4, none⟩ = some (.string ((rd_T49 x0_2 (ji8)).f0)) ∧ w'.cell? ⟨go13, ((ji8)).toNat * 4 + 1, none⟩ = some (.int .i64 ((rd_T49 x0_2 (ji8)).f1)) ∧ w'.cell? ⟨go13, ((ji8)).toNat * 4 + 2, none⟩ = some (.string ((rd_T49 x0_2 (ji8)).f2)) ∧ w'.cell? ⟨go13, ((ji8)).toNat * 4 + 3, none⟩ = some (.bool ((rd_T49 x0_2 (ji8)).f3)) ∧ w'.cell? ⟨go13, ((x9_2).toNat * 4), none⟩ = some (.string ((rd_T49 x0_2 x9_2).f0)) ∧ w'.cell? ⟨go13, ((x9_2).toNat * 4) + 1, none⟩ = some (.int .i64 ((rd_T49 x0_2 x9_2).f1)) ∧ w'.cell? ⟨go13, ((x9_2).toNat * 4) + 2, none⟩ = some (.string ((rd_T49 x0_2 x9_2).f2)) ∧ w'.cell? ⟨go13, ((x9_2).toNat * 4) + 3, none⟩ = some (.bool ((rd_T49 x0_2 x9_2).f3))) (ds := [15, 17]) #[false, false, false, false, false, false, false, false, false, false, false, false, false, false, false, false, false, false] (by kernel_rfl) rfl rfl ⟨hx285_0, hx285_1, hx285_2, hx285_3, hx286_0, hx286_1, hx286_2, hx286_3⟩ (fun hHeld => ?_); refine with_tabW slices_insertionSortCmpFunc_impl_Row.tab6 slices_insertionSortCmpFunc_impl_Row.bits6 (fun HT_ HW_ => ?_)
            generalize w17.drew = w18 at HO_0 HK HB GG13 HQ19 HQ20 hf13_0 hf13_1 hf13_2 hf13_3 hf14_0 hf14_1 hf14_2 hf14_3 hx13_0 hx13_1 hx13_2 hx13_3 hx14_0 hx14_1 hx14_2 hx14_3 hx282_0 hx282_1 hx282_2 hx282_3 hx283_0 hx283_1 hx283_2 hx283_3 hx285_0 hx285_1 hx285_2 hx285_3 hx286_0 hx286_1 hx286_2 hx286_3 hHeld ⊢
            refine q_p 0 (some 37) #[true, false, false, false, false, false, false, false, false, false, false, false, false, false, false, false, false, false] HT_.out ?_
            refine q_p 1 (some 38) #[true, true, false, false, false, false, false, false, false, false, false, false, false, false, false, false, false, false] HT_.out ?_
            refine q_p 2 (some 39) #[true, true, true, false, false, false, false, false, false, false, false, false, false, false, false, false, false, false] HT_.out ?_
            refine q_p 3 (some 40) #[true, true, true, true, false, false, false, false, false, false, false, false, false, false, false, false, false, false] HT_.out ?_
            refine q_p 4 (some 41) #[true, true, true, true, true, false, false, false, false, false, false, false, false, false, false, false, false, false] HT_.out ?_
            refine q_p 5 (some 42) #[true, true, true, true, true, true, false, false, false, false, false, false, false, false, false, false, false, false] HT_.out ?_
            refine q_p 6 (some 43) #[true, true, true, true, true, true, true, false, false, false, false, false, false, false, false, false, false, false] HT_.out ?_
            refine q_p 7 (some 44) #[true, true, true, true, true, true, true, true, false, false, false, false, false, false, false, false, false, false] HT_.out ?_
            refine q_p 8 (some 45) #[true, true, true, true, true, true, true, true, true, false, false, false, false, false, false, false, false, false] HT_.out ?_
            refine q_p 10 (some 47) #[true, true, true, true, true, true, true, true, true, false, true, false, false, false, false, false, false, false] HT_.out ?_
            refine q_p 11 (some 48) #[true, true, true, true, true, true, true, true, true, false, true, true, false, false, false, false, false, false] HT_.out ?_
            refine q_p 12 (some 49) #[true, true, true, true, true, true, true, true, true, false, true, true, true, false, false, false, false, false] HT_.out ?_
            refine q_t 9 (some 46) #[true, true, true, true, true, true, true, true, true, true, true, true, true, false, false, false, false, false] HT_.out HW_.out hHeld ?_
            refine q_t 13 (some 50) #[true, true, true, true, true, true, true, true, true, true, true, true, true, true, false, false, false, false] HT_.out HW_.out hHeld ?_
            refine q_p 14 (some 51) #[true, true, true, true, true, true, true, true, true, true, true, true, true, true, true, false, false, false] HT_.out ?_
            refine last_ (i := 15) (N := none) #[true, true, true, true, true, true, true, true, true, true, true, true, true, true, true, true, false, false] rfl rfl (one_of HT_.out (by kernel_rfl)) (by decide) (fun K hK => ?_)
            refine skip_ (w1 := ?_) (by rfl) rfl ?_ ?_
            rotate_left
            ·go_simp
             rfl
            refine hK.out _ _ ?_
            clear hK K
            refine q_p 16 (some 52) #[true, true, true, true, true, true, true, true, true, true, true, true, true, true, true, true, true, false] HT_.out ?_
            refine last_ (i := 17) (N := none) #[true, true, true, true, true, true, true, true, true, true, true, true, true, true, true, true, true, true] rfl rfl (one_of HT_.out (by kernel_rfl)) (by decide) (fun K hK => ?_)
            have hz14_0 := (show ((((w18.setCell ⟨go13, (x9_2 : Int).toNat * 4, none⟩ (.string ((rd_T49 x0_2 (ji8)).f0))).setCell ⟨go13, (x9_2 : Int).toNat * 4 + 1, none⟩ (.int .i64 ((rd_T49 x0_2 (ji8)).f1))).setCell ⟨go13, (x9_2 : Int).toNat * 4 + 2, none⟩ (.string ((rd_T49 x0_2 (ji8)).f2))).setCell ⟨go13, (x9_2 : Int).toNat * 4 + 3, none⟩ (.bool ((rd_T49 x0_2 (ji8)).f3))).cell? ⟨go13, ((ji8) : Int).toNat * 4, none⟩ = _ from hx14_0)
            have hzf14_0 := (show ((((w18.setCell ⟨go13, (x9_2 : Int).toNat * 4, none⟩ (.string ((rd_T49 x0_2 (ji8)).f0))).setCell ⟨go13, (x9_2 : Int).toNat * 4 + 1, none⟩ (.int .i64 ((rd_T49 x0_2 (ji8)).f1))).setCell ⟨go13, (x9_2 : Int).toNat * 4 + 2, none⟩ (.string ((rd_T49 x0_2 (ji8)).f2))).setCell ⟨go13, (x9_2 : Int).toNat * 4 + 3, none⟩ (.bool ((rd_T49 x0_2 (ji8)).f3))).frozen? ⟨go13, ((ji8) : Int).toNat * 4, none⟩ = false from hf14_0)
            have hz14_1 := (show ((((w18.setCell ⟨go13, (x9_2 : Int).toNat * 4, none⟩ (.string ((rd_T49 x0_2 (ji8)).f0))).setCell ⟨go13, (x9_2 : Int).toNat * 4 + 1, none⟩ (.int .i64 ((rd_T49 x0_2 (ji8)).f1))).setCell ⟨go13, (x9_2 : Int).toNat * 4 + 2, none⟩ (.string ((rd_T49 x0_2 (ji8)).f2))).setCell ⟨go13, (x9_2 : Int).toNat * 4 + 3, none⟩ (.bool ((rd_T49 x0_2 (ji8)).f3))).cell? ⟨go13, ((ji8) : Int).toNat * 4 + 1, none⟩ = _ from hx14_1)
            have hzf14_1 := (show ((((w18.setCell ⟨go13, (x9_2 : Int).toNat * 4, none⟩ (.string ((rd_T49 x0_2 (ji8)).f0))).setCell ⟨go13, (x9_2 : Int).toNat * 4 + 1, none⟩ (.int .i64 ((rd_T49 x0_2 (ji8)).f1))).setCell ⟨go13, (x9_2 : Int).toNat * 4 + 2, none⟩ (.string ((rd_T49 x0_2 (ji8)).f2))).setCell ⟨go13, (x9_2 : Int).toNat * 4 + 3, none⟩ (.bool ((rd_T49 x0_2 (ji8)).f3))).frozen? ⟨go13, ((ji8) : Int).toNat * 4 + 1, none⟩ = false from hf14_1)
            have hz14_2 := (show ((((w18.setCell ⟨go13, (x9_2 : Int).toNat * 4, none⟩ (.string ((rd_T49 x0_2 (ji8)).f0))).setCell ⟨go13, (x9_2 : Int).toNat * 4 + 1, none⟩ (.int .i64 ((rd_T49 x0_2 (ji8)).f1))).setCell ⟨go13, (x9_2 : Int).toNat * 4 + 2, none⟩ (.string ((rd_T49 x0_2 (ji8)).f2))).setCell ⟨go13, (x9_2 : Int).toNat * 4 + 3, none⟩ (.bool ((rd_T49 x0_2 (ji8)).f3))).cell? ⟨go13, ((ji8) : Int).toNat * 4 + 2, none⟩ = _ from hx14_2)
            have hzf14_2 := (show ((((w18.setCell ⟨go13, (x9_2 : Int).toNat * 4, none⟩ (.string ((rd_T49 x0_2 (ji8)).f0))).setCell ⟨go13, (x9_2 : Int).toNat * 4 + 1, none⟩ (.int .i64 ((rd_T49 x0_2 (ji8)).f1))).setCell ⟨go13, (x9_2 : Int).toNat * 4 + 2, none⟩ (.string ((rd_T49 x0_2 (ji8)).f2))).setCell ⟨go13, (x9_2 : Int).toNat * 4 + 3, none⟩ (.bool ((rd_T49 x0_2 (ji8)).f3))).frozen? ⟨go13, ((ji8) : Int).toNat * 4 + 2, none⟩ = false from hf14_2)
            have hz14_3 := (show ((((w18.setCell ⟨go13, (x9_2 : Int).toNat * 4, none⟩ (.string ((rd_T49 x0_2 (ji8)).f0))).setCell ⟨go13, (x9_2 : Int).toNat * 4 + 1, none⟩ (.int .i64 ((rd_T49 x0_2 (ji8)).f1))).setCell ⟨go13, (x9_2 : Int).toNat * 4 + 2, none⟩ (.string ((rd_T49 x0_2 (ji8)).f2))).setCell ⟨go13, (x9_2 : Int).toNat * 4 + 3, none⟩ (.bool ((rd_T49 x0_2 (ji8)).f3))).cell? ⟨go13, ((ji8) : Int).toNat * 4 + 3, none⟩ = _ from hx14_3)
            have hzf14_3 := (show ((((w18.setCell ⟨go13, (x9_2 : Int).toNat * 4, none⟩ (.string ((rd_T49 x0_2 (ji8)).f0))).setCell ⟨go13, (x9_2 : Int).toNat * 4 + 1, none⟩ (.int .i64 ((rd_T49 x0_2 (ji8)).f1))).setCell ⟨go13, (x9_2 : Int).toNat * 4 + 2, none⟩ (.string ((rd_T49 x0_2 (ji8)).f2))).setCell ⟨go13, (x9_2 : Int).toNat * 4 + 3, none⟩ (.bool ((rd_T49 x0_2 (ji8)).f3))).frozen? ⟨go13, ((ji8) : Int).toNat * 4 + 3, none⟩ = false from hf14_3)
            refine skip_ (w1 := ?_) (by rfl) rfl ?_ ?_
            rotate_left
            ·go_simp
             rfl
            refine hK.out _ _ ?_
            clear hK K
            refine done_ (done_of HT_.out (by kernel_rfl)) ?_
            try go_wp2
            go_roundg k2
            case measure => have := HK1.out; have := HK2.out; omega
            case rel => exact ⟨(y288), (ji8), (by first | rfl | (simp; done) | (simp only [← hji8] <;> (first | rfl | simp)) | (simp [*]; done)), H', ⟨by have := HK1.out; have := HK2.out; omega⟩, ⟨q_r (HQ20.out)⟩, ⟨by repeat (first | (with_reducible first | exact HK.out | apply Kept.alloc | apply Kept.drewN | apply Kept.drew | refine Kept.setCell ?_ HMgo13.out _ | refine Kept.setCell ?_ HMgo13.out _ | refine Kept.setCell ?_ HMgo13.out _ | refine Kept.setCell ?_ HMgo13.out _ | refine Kept.setCell ?_ HMgo13.out _ | refine Kept.setCell ?_ HMgo13.out _ | refine Kept.setCell ?_ HMgo13.out _ | refine Kept.setCell ?_ HMgo13.out _) | exact HK.out)⟩, ⟨bq⟩⟩
           ·rw [if_neg c12] at H
            have c12b0 := decide_eq_false c12
            clear c12
            have H' := am H
            clear H
            try go_wp2
            have n0_ := am (Kd.R_drew HO_0.out)
            have n1_ := am (Kept.drew HK.out)
            have n2_ := am (below_drew1 HB.out)
            clear HO_0
            clear HK
            clear HB
            have HO_0 := n0_
            have HK := n1_
            have HB := n2_
            clear n0_ n1_ n2_
            obtain ⟨Ao22, co22, eo22⟩ := Kd.R_slice HO_0.out
            (first | subst eo22 | (injection eo22 with f1_ f2_ f3_; have f4_ := f1_.symm; have f5_ := f3_.symm; clear f1_ f2_ f3_; subst f4_; subst f5_))
            have p282 : 0 ≤ (x9_2 : Int) := q_d
            have q282 : x9_2 < (x0_2.length : Int) := q_d
            obtain ⟨ad282, e282, hx282_0, hx282_1, hx282_2, hx282_3⟩ := at_T49 (Kd.R_reads' HO_0.out).2.2 x9_2 p282 q282
            cases e282
            replace p282 := eq_true p282
            replace q282 := eq_true q282
            have p283 : 0 ≤ ((ji8) : Int) := q_d
            have q283 : (ji8) < (x0_2.length : Int) := q_d
            obtain ⟨ad283, e283, hx283_0, hx283_1, hx283_2, hx283_3⟩ := at_T49 (Kd.R_reads' HO_0.out).2.2 (ji8) p283 q283
            obtain rfl : ad282 = ad283 := (by injection e283)
            replace p283 := eq_true p283
            replace q283 := eq_true q283
            refine start_ (n := 17) (S := fun w' => w'.cell? (ad282.add ((x9_2).toNat * 4)) = some (.string ((rd_T49 x0_2 x9_2).f0)) ∧ w'.cell? ⟨(ad282.add ((x9_2).toNat * 4)).block, (ad282.add ((x9_2).toNat * 4)).off + 1, none⟩ = some (.int .i64 ((rd_T49 x0_2 x9_2).f1)) ∧ w'.cell? ⟨(ad282.add ((x9_2).toNat * 4)).block, (ad282.add ((x9_2).toNat * 4)).off + 2, none⟩ = some (.string ((rd_T49 x0_2 x9_2).f2)) ∧ w'.cell? ⟨(ad282.add ((x9_2).toNat * 4)).block, (ad282.add ((x9_2).toNat * 4)).off + 3, none⟩ = some (.bool ((rd_T49 x0_2 x9_2).f3)) ∧ w'.cell? (ad282.add (((ji8)).toNat * 4)) = some (.string ((rd_T49 x0_2 (ji8)).f0)) ∧ w'.cell? ⟨(ad282.add (((ji8)).toNat * 4)).block, (ad282.add (((ji8)).toNat * 4)).off + 1, none⟩ = some (.int .i64 ((rd_T49 x0_2 (ji8)).f1)) ∧ w'.cell? ⟨(ad282.add (((ji8)).toNat * 4)).block, (ad282.add (((ji8)).toNat * 4)).off + 2, none⟩ = some (.string ((rd_T49 x0_2 (ji8)).f2)) ∧ w'.cell? ⟨(ad282.add (((ji8)).toNat * 4)).block, (ad282.add (((ji8)).toNat * 4)).off + 3, none⟩ = some (.bool ((rd_T49 x0_2 (ji8)).f3))) (ds := []) #[false, false, false, false, false, false, false, false, false, false, false, false, false, false, false, false, false] (by kernel_rfl) rfl rfl ⟨hx282_0, hx282_1, hx282_2, hx282_3, hx283_0, hx283_1, hx283_2, hx283_3⟩ (fun hHeld => ?_); refine with_tabW slices_insertionSortCmpFunc_impl_Row.tab4 slices_insertionSortCmpFunc_impl_Row.bits4 (fun HT_ HW_ => ?_)
            generalize wr.drew = w21 at HO_0 HK HB hx282_0 hx282_1 hx282_2 hx282_3 hx283_0 hx283_1 hx283_2 hx283_3 hHeld ⊢
            refine q_p 0 (some 18) #[true, false, false, false, false, false, false, false, false, false, false, false, false, false, false, false, false] HT_.out ?_
            refine q_p 1 (some 19) #[true, true, false, false, false, false, false, false, false, false, false, false, false, false, false, false, false] HT_.out ?_
            refine q_p 2 (some 20) #[true, true, true, false, false, false, false, false, false, false, false, false, false, false, false, false, false] HT_.out ?_
            refine q_p 3 (some 21) #[true, true, true, true, false, false, false, false, false, false, false, false, false, false, false, false, false] HT_.out ?_
            refine q_p 4 (some 22) #[true, true, true, true, true, false, false, false, false, false, false, false, false, false, false, false, false] HT_.out ?_
            refine q_p 5 (some 23) #[true, true, true, true, true, true, false, false, false, false, false, false, false, false, false, false, false] HT_.out ?_
            refine q_p 6 (some 24) #[true, true, true, true, true, true, true, false, false, false, false, false, false, false, false, false, false] HT_.out ?_
            refine q_p 7 (some 25) #[true, true, true, true, true, true, true, true, false, false, false, false, false, false, false, false, false] HT_.out ?_
            refine q_p 9 (some 27) #[true, true, true, true, true, true, true, true, false, true, false, false, false, false, false, false, false] HT_.out ?_
            refine q_p 10 (some 28) #[true, true, true, true, true, true, true, true, false, true, true, false, false, false, false, false, false] HT_.out ?_
            refine q_p 11 (some 29) #[true, true, true, true, true, true, true, true, false, true, true, true, false, false, false, false, false] HT_.out ?_
            refine q_p 12 (some 30) #[true, true, true, true, true, true, true, true, false, true, true, true, true, false, false, false, false] HT_.out ?_
            refine q_t 8 (some 26) #[true, true, true, true, true, true, true, true, true, true, true, true, true, false, false, false, false] HT_.out HW_.out hHeld ?_
            refine q_t 13 (some 31) #[true, true, true, true, true, true, true, true, true, true, true, true, true, true, false, false, false] HT_.out HW_.out hHeld ?_
            refine one_ (i := 14) (N := some 32) #[true, true, true, true, true, true, true, true, true, true, true, true, true, true, true, false, false] rfl rfl (one_of HT_.out (by kernel_rfl)) (by decide) (fun K hK => ?_)
            refine print_goesR Try.func67 (by kernel_rfl) rfl #[.agg #[.string ((rd_T49 x0_2 x9_2).f0), .int .i64 ((rd_T49 x0_2 x9_2).f1), .string ((rd_T49 x0_2 x9_2).f2), .bool ((rd_T49 x0_2 x9_2).f3)], .agg #[.string ((rd_T49 x0_2 (ji8)).f0), .int .i64 ((rd_T49 x0_2 (ji8)).f1), .string ((rd_T49 x0_2 (ji8)).f2), .bool ((rd_T49 x0_2 (ji8)).f3)]] (by rfl) rfl rfl rfl (by (try simp only [List.map_toArray, List.map_cons, List.map_nil]); first | done | (simp only [hji8]; rfl) | rfl | (simp only [List.length_drop, List.length_take]; rfl)) ?_
            with_reducible refine (impl_compareRows.calls k2 ((rd_T49 x0_2 x9_2).f0) ((rd_T49 x0_2 x9_2).f1) ((rd_T49 x0_2 x9_2).f2) ((rd_T49 x0_2 x9_2).f3) ((rd_T49 x0_2 (ji8)).f0) ((rd_T49 x0_2 (ji8)).f1) ((rd_T49 x0_2 (ji8)).f2) ((rd_T49 x0_2 (ji8)).f3) t284 _ A11.out).mono ?_
            rintro e w23 ⟨rfl, hb⟩
            have HS0_ := (hb.cell (wb (hHeld.1))).trans (hHeld.1)
            have HS1_ := (hb.cell (wb (hHeld.2.1))).trans (hHeld.2.1)
            have HS2_ := (hb.cell (wb (hHeld.2.2.1))).trans (hHeld.2.2.1)
            have HS3_ := (hb.cell (wb (hHeld.2.2.2.1))).trans (hHeld.2.2.2.1)
            have HS4_ := (hb.cell (wb (hHeld.2.2.2.2.1))).trans (hHeld.2.2.2.2.1)
            have HS5_ := (hb.cell (wb (hHeld.2.2.2.2.2.1))).trans (hHeld.2.2.2.2.2.1)
            have HS6_ := (hb.cell (wb (hHeld.2.2.2.2.2.2.1))).trans (hHeld.2.2.2.2.2.2.1)
            have HS7_ := (hb.cell (wb (hHeld.2.2.2.2.2.2.2))).trans (hHeld.2.2.2.2.2.2.2)
            refine ⟨_, rfl, ?_⟩
            have n0_ := am (Kd.R_below (q_r (HO_0.out)) hb)
            have n1_ := am (Kept.below (S := (fun k_ => P0_ k_)) q_k hb)
            have n2_ := am (below_step bq hb)
            clear HO_0
            clear HK
            clear HB
            have HO_0 := n0_
            have HK := n1_
            have HB := n2_
            clear n0_ n1_ n2_
            (try clear hb)
            (try clear hb2)
            (try clear hk)
            (try clear hi)
            refine hK.out _ _ ⟨HS0_, HS1_, HS2_, HS3_, HS4_, HS5_, HS6_, HS7_⟩ (fun hHeld => ?_)
            clear hK K
            refine norm_ (a' := ?_) ?_ ?_
            rotate_left
            ·show Act.put _ (some 32) _ = _
             simp only [Act.put, List.setIfInBounds_toArray, List.set_cons_zero, List.set_cons_succ, i64_w, i32_w]
             rfl
            refine q_p 15 (some 33) #[true, true, true, true, true, true, true, true, true, true, true, true, true, true, true, true, false] HT_.out ?_
            refine q_p 16 (some 34) #[true, true, true, true, true, true, true, true, true, true, true, true, true, true, true, true, true] HT_.out ?_
            refine done_ (done_of HT_.out (by kernel_rfl)) ?_
            try go_wp2
            go_roundg k2
            case measure => have := HK1.out; have := HK2.out; omega
            case rel => exact ⟨(x0_2), (wrap64 (x8_1 + 1)), q_i, H', ⟨by have := HK1.out; have := HK2.out; omega⟩, ⟨q_r (HO_0.out)⟩, ⟨q_k⟩, ⟨bq⟩⟩
          ·rw [if_neg c10] at H
           exact absurd H (by simp)
         ·rw [if_neg c9] at H
          exact absurd H (by simp)
        ·rw [if_neg c7] at H
         exact absurd H (by simp)
       ·rw [if_neg c6] at H
        exact absurd H (by simp)
      ·rw [if_neg c5] at H
       have c5b0 := decide_eq_false c5
       clear c5
       have H' := am H
       clear H
       try go_wp2
       have n0_ := am (Kd.R_drew HO_0.out)
       have n1_ := am (Kept.drew HK.out)
       have n2_ := am (below_drew1 HB.out)
       clear HO_0
       clear HK
       clear HB
       have HO_0 := n0_
       have HK := n1_
       have HB := n2_
       clear n0_ n1_ n2_
       refine start_ (n := 17) (S := fun w' => True) (ds := []) #[false, false, false, false, false, false, false, false, false, false, false, false, false, false, false, false, false] (by kernel_rfl) rfl rfl trivial (fun hHeld => ?_); refine with_tabW slices_insertionSortCmpFunc_impl_Row.tab4 slices_insertionSortCmpFunc_impl_Row.bits4 (fun HT_ HW_ => ?_)
       generalize wr.drew = w24 at HO_0 HK HB hHeld ⊢
       refine q_p 0 (some 18) #[true, false, false, false, false, false, false, false, false, false, false, false, false, false, false, false, false] HT_.out ?_
       refine q_p 1 (some 19) #[true, true, false, false, false, false, false, false, false, false, false, false, false, false, false, false, false] HT_.out ?_
       refine q_p 2 (some 20) #[true, true, true, false, false, false, false, false, false, false, false, false, false, false, false, false, false] HT_.out ?_
       refine q_p 3 (some 21) #[true, true, true, true, false, false, false, false, false, false, false, false, false, false, false, false, false] HT_.out ?_
       refine pure_ (i := 4) (N := some 22) (v := undef) (a' := ?_) #[true, true, true, true, true, false, false, false, false, false, false, false, false, false, false, false, false] rfl rfl (any_of HT_.out (by kernel_rfl)) (fun _ _ _ h => h) (Or.inr ⟨by rfl, rfl⟩) ?_ ?_
       rotate_left
       ·simp only [Act.put, List.setIfInBounds_toArray, List.set_cons_zero, List.set_cons_succ, i64_w, i32_w]
        rfl
       refine pure_ (i := 5) (N := some 23) (v := undef) (a' := ?_) #[true, true, true, true, true, true, false, false, false, false, false, false, false, false, false, false, false] rfl rfl (any_of HT_.out (by kernel_rfl)) (fun _ _ _ h => h) (Or.inr ⟨by rfl, rfl⟩) ?_ ?_
       rotate_left
       ·simp only [Act.put, List.setIfInBounds_toArray, List.set_cons_zero, List.set_cons_succ, i64_w, i32_w]
        rfl
       refine pure_ (i := 6) (N := some 24) (v := undef) (a' := ?_) #[true, true, true, true, true, true, true, false, false, false, false, false, false, false, false, false, false] rfl rfl (any_of HT_.out (by kernel_rfl)) (fun _ _ _ h => h) (Or.inr ⟨by rfl, rfl⟩) ?_ ?_
       rotate_left
       ·simp only [Act.put, List.setIfInBounds_toArray, List.set_cons_zero, List.set_cons_succ, i64_w, i32_w]
        rfl
       refine pure_ (i := 7) (N := some 25) (v := undef) (a' := ?_) #[true, true, true, true, true, true, true, true, false, false, false, false, false, false, false, false, false] rfl rfl (any_of HT_.out (by kernel_rfl)) (fun _ _ _ h => h) (Or.inr ⟨by rfl, rfl⟩) ?_ ?_
       rotate_left
       ·simp only [Act.put, List.setIfInBounds_toArray, List.set_cons_zero, List.set_cons_succ, i64_w, i32_w]
        rfl
       refine pure_ (i := 8) (N := some 26) (v := undef) (a' := ?_) #[true, true, true, true, true, true, true, true, true, false, false, false, false, false, false, false, false] rfl rfl (any_of HT_.out (by kernel_rfl)) (fun _ _ _ h => h) (Or.inr ⟨by rfl, rfl⟩) ?_ ?_
       rotate_left
       ·simp only [Act.put, List.setIfInBounds_toArray, List.set_cons_zero, List.set_cons_succ, i64_w, i32_w]
        rfl
       refine pure_ (i := 9) (N := some 27) (v := undef) (a' := ?_) #[true, true, true, true, true, true, true, true, true, true, false, false, false, false, false, false, false] rfl rfl (any_of HT_.out (by kernel_rfl)) (fun _ _ _ h => h) (Or.inr ⟨by rfl, rfl⟩) ?_ ?_
       rotate_left
       ·simp only [Act.put, List.setIfInBounds_toArray, List.set_cons_zero, List.set_cons_succ, i64_w, i32_w]
        rfl
       refine pure_ (i := 10) (N := some 28) (v := undef) (a' := ?_) #[true, true, true, true, true, true, true, true, true, true, true, false, false, false, false, false, false] rfl rfl (any_of HT_.out (by kernel_rfl)) (fun _ _ _ h => h) (Or.inr ⟨by rfl, rfl⟩) ?_ ?_
       rotate_left
       ·simp only [Act.put, List.setIfInBounds_toArray, List.set_cons_zero, List.set_cons_succ, i64_w, i32_w]
        rfl
       refine pure_ (i := 11) (N := some 29) (v := undef) (a' := ?_) #[true, true, true, true, true, true, true, true, true, true, true, true, false, false, false, false, false] rfl rfl (any_of HT_.out (by kernel_rfl)) (fun _ _ _ h => h) (Or.inr ⟨by rfl, rfl⟩) ?_ ?_
       rotate_left
       ·simp only [Act.put, List.setIfInBounds_toArray, List.set_cons_zero, List.set_cons_succ, i64_w, i32_w]
        rfl
       refine pure_ (i := 12) (N := some 30) (v := undef) (a' := ?_) #[true, true, true, true, true, true, true, true, true, true, true, true, true, false, false, false, false] rfl rfl (any_of HT_.out (by kernel_rfl)) (fun _ _ _ h => h) (Or.inr ⟨by rfl, rfl⟩) ?_ ?_
       rotate_left
       ·simp only [Act.put, List.setIfInBounds_toArray, List.set_cons_zero, List.set_cons_succ, i64_w, i32_w]
        rfl
       refine pure_ (i := 13) (N := some 31) (v := undef) (a' := ?_) #[true, true, true, true, true, true, true, true, true, true, true, true, true, true, false, false, false] rfl rfl (any_of HT_.out (by kernel_rfl)) (fun _ _ _ h => h) (Or.inr ⟨by rfl, rfl⟩) ?_ ?_
       rotate_left
       ·simp only [Act.put, List.setIfInBounds_toArray, List.set_cons_zero, List.set_cons_succ, i64_w, i32_w]
        rfl
       refine pure_ (i := 14) (N := some 32) (v := undef) (a' := ?_) #[true, true, true, true, true, true, true, true, true, true, true, true, true, true, true, false, false] rfl rfl (any_of HT_.out (by kernel_rfl)) (fun _ _ _ h => h) (Or.inr ⟨by rfl, rfl⟩) ?_ ?_
       rotate_left
       ·simp only [Act.put, List.setIfInBounds_toArray, List.set_cons_zero, List.set_cons_succ, i64_w, i32_w]
        rfl
       refine pure_ (i := 15) (N := some 33) (v := undef) (a' := ?_) #[true, true, true, true, true, true, true, true, true, true, true, true, true, true, true, true, false] rfl rfl (any_of HT_.out (by kernel_rfl)) (fun _ _ _ h => h) (Or.inr ⟨by rfl, rfl⟩) ?_ ?_
       rotate_left
       ·simp only [Act.put, List.setIfInBounds_toArray, List.set_cons_zero, List.set_cons_succ, i64_w, i32_w]
        rfl
       refine q_p 16 (some 34) #[true, true, true, true, true, true, true, true, true, true, true, true, true, true, true, true, true] HT_.out ?_
       refine done_ (done_of HT_.out (by kernel_rfl)) ?_
       try go_wp2
       go_roundg k2
       case measure => have := HK1.out; have := HK2.out; omega
       case rel => exact ⟨(x0_2), (wrap64 (x8_1 + 1)), q_i, H', ⟨by have := HK1.out; have := HK2.out; omega⟩, ⟨q_r (HO_0.out)⟩, ⟨q_k⟩, ⟨bq⟩⟩
   ·rw [if_neg c4] at H
    have c4b0 := decide_eq_false c4
    clear c4
    obtain rfl := Option.some.inj H
    go_wp2
    first | go_end0 | ((try simp only [Exit.inBlock, Exit.then]); refine bodyPost_ret (results_none rfl _ _ _) rfl ?_)
    exact ⟨q_e, q_r (HO_0.out), bq, q_k⟩

end Go.Proofs.Ytdhlcnlcpjlliaa.PFnTables
