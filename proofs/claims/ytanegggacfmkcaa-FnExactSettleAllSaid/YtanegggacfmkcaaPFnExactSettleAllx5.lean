/- Functions that a law reaches, as plain Lean functions, with the proof that the machine comes to their answers. No conditions. -/
import Derived.Test.YtanegggacfmkcaaPFnExactSettleAllx0
import Derived.Test.YtanegggacfmkcaaPFnExactSettleAllx1
namespace Go.Proofs.Ytanegggacfmkcaa.PFnExactSettleAll
open Go.RowKit Go.Proofs.YtanegggacfmkcaaW.PrintWords Go.Proofs.YtanegggacfmkcaaW.PrintLast Go.Proofs.YtanegggacfmkcaaW.PrintMore
attribute [local go_sem] max2_int min2_int max_two min_two max_three min_three max_four min_four   -- for this text's walks alone
set_option linter.unusedVariables false
set_option linter.unusedSimpArgs false
set_option maxHeartbeats 8000000
set_option maxRecDepth 100000

/-! ### slices_BinarySearchFunc_impl_Balance: function 113 -/

theorem print_gateT {P : Program} {ops : Array Oper} {rest : List Oper} {o : Oper} {a : Act} {Q : Exit → Act → World → Prop} {W : World} {co : Operand} (f : FuncId) {ars : Array Operand} {ts : Array TypeId} (_ho : o.op = .call { callee := .value co, args := ars, argTypes := ts }) (_hT : a.eval co = .func (.func f) #[] #[]) (h : wpList P ops Q (o :: rest) a W) : wpList P ops Q (o :: rest) a W := h
theorem print_goesT {P : Program} {ops : Array Oper} {Q : Exit → Act → World → Prop} {rest : List Oper} {oi : Oper} {a : Act} {w : World} {co : Operand} (N : Option Tmp) (hd : oi.dst = N) (hg : oi.guard = none) {f : FuncId} {fn : Func} {ars : Array Operand} {ts : Array TypeId} (hf : P.funcs[f]? = some fn) (hname : (fn.name == "runtime.NumGoroutine") = false) (hb : fn.body.isSome = true) (args : Array Value)
    (hop : oi.op = .call { callee := .value co, args := ars, argTypes := ts }) (hT : a.eval co = .func (.func f) #[] #[]) (hargs : ars.map a.eval = args)
    (h : Calls P f args w fun e w' => ∃ v, e = .returned v ∧ wpList P ops Q rest (a.put N v) w') : wpList P ops Q (oi :: rest) a w := by
  refine wpList_plain hg fun K hK => ?_
  have he := enters_ hf hname hb args w
  have hrun : (execOp a.eval oi).run P w = .ok (.enter f args) w := by
    unfold execOp
    simp [hop, resolve, Deferred.ofValue, invoke, hT, hargs, he]
  unfold Oper.wp
  rw [hrun, Oper.upon_enter]
  refine h.mono fun e w'' hh => ?_
  obtain ⟨v, rfl, hk⟩ := hh
  subst hd
  exact hK _ _ hk
theorem print_goesR {P : Program} {ops : Array Oper} {Q : Exit → Act → World → Prop} {oi : Oper} {N : Option Tmp} {a : Act} {w : World} {K : Act → World → Prop} {co : Operand} {f : FuncId} {fn : Func} {ars : Array Operand} {ts : Array TypeId} (hf : P.funcs[f]? = some fn) (hname : (fn.name == "runtime.NumGoroutine") = false) (hb : fn.body.isSome = true) (args : Array Value)
    (hw : Region.wanted oi (yielded ops a.tmps) = true) (hN : oi.dst = N) (hop : oi.op = .call { callee := .value co, args := ars, argTypes := ts }) (hT : a.eval co = .func (.func f) #[] #[]) (hargs : ars.map a.eval = args)
    (h : Calls P f args w fun e w' => ∃ v, e = .returned v ∧ K (a.put N v) w') : if Region.wanted oi (yielded ops a.tmps) = true then Oper.wp P oi a w K Q else K (a.put N undef) w := by
  refine call_ f args hw hN ?_ h
  have he := enters_ hf hname hb args w
  unfold execOp
  simp [hop, resolve, Deferred.ofValue, invoke, hT, hargs, he]
def slices_BinarySearchFunc_impl_Balance.l0 : Nat → List (S104) → Int → Int → Int → Int → Int → Int → Option (Int × Bool)
  | 0, _, _, _, _, _, _, _ => none
  | k + 1, x0, x8, x9, x10, x166000, x166001, x166002 => if x9 < x10 then (if 0 ≤ (wrap64 ((IntKind.u64.wrap (wrap64 (x9 + x10))) / 2)) then (if (wrap64 ((IntKind.u64.wrap (wrap64 (x9 + x10))) / 2)) < (x0.length : Int) then ((impl_comparePlaces.f k ((rd_T104 x0 (wrap64 ((IntKind.u64.wrap (wrap64 (x9 + x10))) / 2))).f0) ((rd_T104 x0 (wrap64 ((IntKind.u64.wrap (wrap64 (x9 + x10))) / 2))).f1) ((rd_T104 x0 (wrap64 ((IntKind.u64.wrap (wrap64 (x9 + x10))) / 2))).f2) x166000 x166001 x166002).bind fun t167 => (if t167 < 0 then (slices_BinarySearchFunc_impl_Balance.l0 k x0 x8 (wrap64 ((wrap64 ((IntKind.u64.wrap (wrap64 (x9 + x10))) / 2)) + 1)) x10 x166000 x166001 x166002) else (slices_BinarySearchFunc_impl_Balance.l0 k x0 x8 x9 (wrap64 ((IntKind.u64.wrap (wrap64 (x9 + x10))) / 2)) x166000 x166001 x166002))) else (none)) else (none)) else (if x9 < x8 then (if 0 ≤ x9 then (if x9 < (x0.length : Int) then ((impl_comparePlaces.f k ((rd_T104 x0 x9).f0) ((rd_T104 x0 x9).f1) ((rd_T104 x0 x9).f2) x166000 x166001 x166002).bind fun t169 => (some (x9, (t169 == 0)))) else (none)) else (none)) else (some (x9, false)))
def slices_BinarySearchFunc_impl_Balance.f (k : Nat) (l0 : List (S104)) (a1_0 : Int) (a1_1 : Int) (a1_2 : Int) : Option (Int × Bool) := slices_BinarySearchFunc_impl_Balance.l0 k l0 (l0.length : Int) 0 (l0.length : Int) a1_0 a1_1 a1_2
def slices_BinarySearchFunc_impl_Balance.T5 : Bool × List (List Nat × List Nat) := (true, [([], []), ([], []), ([], []), ([1, 2], [1, 2]), ([3], [3]), ([], []), ([0, 4, 5], [0, 4, 5]), ([6], [6])])
def slices_BinarySearchFunc_impl_Balance.B5 : List Nat := [0, 0, 0, 6, 14, 0, 63, 127]
theorem slices_BinarySearchFunc_impl_Balance.tab5 : rtab .any (opsOf Try.f113 5) = slices_BinarySearchFunc_impl_Balance.T5 := by kernel_rfl
theorem slices_BinarySearchFunc_impl_Balance.bits5 : waitsOk slices_BinarySearchFunc_impl_Balance.T5.2 slices_BinarySearchFunc_impl_Balance.B5 = true := by kernel_rfl
def slices_BinarySearchFunc_impl_Balance.T8 : Bool × List (List Nat × List Nat) := (true, [([], []), ([], []), ([], []), ([1, 2], [1, 2]), ([3], [3]), ([4], [4]), ([4], [4]), ([4], [4]), ([6, 7, 4], [4, 6, 7]), ([8, 4], [4, 8]), ([4], [4]), ([5, 9, 10, 4, 4], [4, 5, 9, 10]), ([11, 4], [4, 11]), ([4, 12], [4, 12]), ([0, 11, 0], [0]), ([13, 14, 0, 1, 2, 3, 4, 5, 6, 7, 8, 9, 10, 11, 12, 13, 14], [13])])
def slices_BinarySearchFunc_impl_Balance.B8 : List Nat := [0, 0, 0, 6, 14, 30, 30, 30, 222, 478, 30, 2046, 4094, 8190, 4095, 32767]
theorem slices_BinarySearchFunc_impl_Balance.tab8 : rtab .any (opsOf Try.f113 8) = slices_BinarySearchFunc_impl_Balance.T8 := by kernel_rfl
theorem slices_BinarySearchFunc_impl_Balance.bits8 : waitsOk slices_BinarySearchFunc_impl_Balance.T8.2 slices_BinarySearchFunc_impl_Balance.B8 = true := by kernel_rfl
theorem slices_BinarySearchFunc_impl_Balance.calls (k : Nat) (A0 : Option Addr) (c0 : Nat) (l0 : List (S104)) (a1_0 : Int) (a1_1 : Int) (a1_2 : Int) (r1 : Int) (r2 : Bool) (w : World) (hr0 : Kd.C k104 w A0 l0.length l0) (hc0 : l0.length ≤ c0) (h : slices_BinarySearchFunc_impl_Balance.f k l0 a1_0 a1_1 a1_2 = some (r1, r2)) :
  Calls Try.prog 113 #[.slice A0 l0.length c0, .agg #[.int .i64 a1_0, .int .i64 a1_1, .int .i64 a1_2], .func (.func 84) #[] #[]] w fun e w' => e = .returned (.tuple #[.int .i64 r1, .bool r2]) ∧ Below w.heap.size w w' := by
 have hu104 := Try.underlying104
 have HR0 := am hr0
 have HC0 := am hc0
 clear hr0 hc0
 have HB := am (Below.refl w.heap.size w)
 have H : (slices_BinarySearchFunc_impl_Balance.l0 k l0 (l0.length : Int) 0 (l0.length : Int) a1_0 a1_1 a1_2) = some (r1, r2) := h
 clear h
 have H' := am H
 clear H
 go_enter Try.func113, Try.ntmps113
 go_wp2_with (first | ((with_reducible refine gate_dst (N := 4) rfl ?_); refine q_box (N := 4) (cs := #[.int .i64 a1_0, .int .i64 a1_1, .int .i64 a1_2]) (t := 104) ?_; intro gb165 hg w3 hbox hb; have n0_ := am (below_step bq hb); have n1_ := am (hbox); have n2_ := am ((q_g hg bq : w.heap.size ≤ gb165)); have n3_ := n2_; revert n0_ n1_ n2_ n3_; clear HB; intro HB BK165 GW165 GE165; clear hb hbox hg))
 go_loopg [9, 10] k (fun kq v9 v10 w' => ∃ (x9_1 : Int) (x10_1 : Int), v9 = .int .i64 x9_1 ∧ v10 = .int .i64 x10_1 ∧ Aside0 (slices_BinarySearchFunc_impl_Balance.l0 kq l0 (l0.length : Int) x9_1 x10_1 a1_0 a1_1 a1_2 = some (r1, r2)) ∧ Aside0 (kq ≤ k) ∧ Aside0 (w'.heap[gb165]? = some (.cells #[.int .i64 a1_0, .int .i64 a1_1, .int .i64 a1_2] 104 (0, 0))) ∧ Aside0 (Below w.heap.size w w'))
 case atStart => exact ⟨(0), ((l0.length : Int)), q_i, q_i, H', ⟨Nat.le_refl _⟩, ⟨q_b BK165.out⟩, ⟨bq⟩⟩
 case round =>
  clear H'
  (try clear c1); (try clear p2)
  obtain ⟨x9_1, x10_1, rfl, rfl, HA, HK1, BK165, HB⟩ := hrel
  cases gk with
  | zero => exact absurd HA.out (by simp [slices_BinarySearchFunc_impl_Balance.l0])
  | succ k1 =>
   have H := HA.out
   clear HA
   simp only [slices_BinarySearchFunc_impl_Balance.l0] at H
   by_cases c4 : x9_1 < x10_1
   ·rw [if_pos c4] at H
    have c4b0 := decide_eq_true c4
    clear c4
    obtain ⟨ji5, hji5⟩ : ∃ j_ : Int, (wrap64 ((IntKind.u64.wrap (wrap64 (x9_1 + x10_1))) / 2)) = j_ := ⟨_, rfl⟩
    replace H : (if 0 ≤ (ji5) then (if (ji5) < (l0.length : Int) then ((impl_comparePlaces.f k1 ((rd_T104 l0 (ji5)).f0) ((rd_T104 l0 (ji5)).f1) ((rd_T104 l0 (ji5)).f2) a1_0 a1_1 a1_2).bind fun t167 => (if t167 < 0 then (slices_BinarySearchFunc_impl_Balance.l0 k1 l0 (l0.length : Int) (wrap64 ((ji5) + 1)) x10_1 a1_0 a1_1 a1_2) else (slices_BinarySearchFunc_impl_Balance.l0 k1 l0 (l0.length : Int) x9_1 ji5 a1_0 a1_1 a1_2))) else (none)) else (none)) = some (r1, r2) := by first | (rw [hji5] at H; exact H) | (simp only [hji5] at H ⊢; exact H)
    have hji5w : (IntKind.i64.wrap ((IntKind.u64.wrap (wrap64 (x9_1 + x10_1))) / 2)) = ji5 := (i64_w _).trans hji5
    by_cases c6 : 0 ≤ (ji5)
    ·rw [if_pos c6] at H
     have c6b0 := decide_eq_true c6
     clear c6
     by_cases c7 : (ji5) < (l0.length : Int)
     ·rw [if_pos c7] at H
      have c7b0 := decide_eq_true c7
      clear c7
      replace H := ob H
      obtain ⟨t167, A80, H⟩ := H
      replace H : (if t167 < 0 then (slices_BinarySearchFunc_impl_Balance.l0 k1 l0 (l0.length : Int) (wrap64 ((ji5) + 1)) x10_1 a1_0 a1_1 a1_2) else (slices_BinarySearchFunc_impl_Balance.l0 k1 l0 (l0.length : Int) x9_1 ji5 a1_0 a1_1 a1_2)) = some (r1, r2) := H
      have A8 := am A80
      clear A80
      by_cases c9 : t167 < 0
      ·rw [if_pos c9] at H
       have c9b0 := decide_eq_true c9
       clear c9
       have H' := am H
       clear H
       try go_wp2
       have n0_ := am (blk_drew BK165.out)
       have n1_ := am (below_drew1 HB.out)
       clear BK165
       clear HB
       have BK165 := n0_
       have HB := n1_
       clear n0_ n1_
       have p166 : 0 ≤ ((ji5) : Int) := q_d
       have q166 : (ji5) < (l0.length : Int) := q_d
       obtain ⟨ad166, e166, hx166_0, hx166_1, hx166_2⟩ := at_T104 HR0.out (ji5) p166 q166
       have hw166_2 := hx166_2
       have hw166_1 := hx166_1
       have hw166_0 := hx166_0
       cases e166
       replace hx166_0 := q_x HB.out hx166_0
       replace hx166_1 := q_x HB.out hx166_1
       replace hx166_2 := q_x HB.out hx166_2
       replace p166 := eq_true p166
       replace q166 := eq_true q166
       refine start_ (n := 8) (S := fun w' => w'.cell? ⟨gb165, 0, none⟩ = some (.int .i64 a1_0) ∧ w'.cell? ⟨gb165, 1, none⟩ = some (.int .i64 a1_1) ∧ w'.cell? ⟨gb165, 2, none⟩ = some (.int .i64 a1_2) ∧ w'.cell? (ad166.add (((ji5)).toNat * 3)) = some (.int .i64 ((rd_T104 l0 (ji5)).f0)) ∧ w'.cell? ⟨(ad166.add (((ji5)).toNat * 3)).block, (ad166.add (((ji5)).toNat * 3)).off + 1, none⟩ = some (.int .i64 ((rd_T104 l0 (ji5)).f1)) ∧ w'.cell? ⟨(ad166.add (((ji5)).toNat * 3)).block, (ad166.add (((ji5)).toNat * 3)).off + 2, none⟩ = some (.int .i64 ((rd_T104 l0 (ji5)).f2))) (ds := []) #[false, false, false, false, false, false, false, false] (by kernel_rfl) rfl rfl ⟨q_z BK165.out 0, q_z BK165.out 1, q_z BK165.out 2, ((HB.out.cell (wb hw166_0)).trans hw166_0), ((HB.out.cell (wb hw166_1)).trans hw166_1), ((HB.out.cell (wb hw166_2)).trans hw166_2)⟩ (fun hHeld => ?_); refine with_tabW slices_BinarySearchFunc_impl_Balance.tab5 slices_BinarySearchFunc_impl_Balance.bits5 (fun HT_ HW_ => ?_)
       generalize wr.drew = w10 at BK165 HB hx166_0 hx166_1 hx166_2 hHeld ⊢
       refine q_p 0 (some 24) #[true, false, false, false, false, false, false, false] HT_.out ?_
       refine q_p 1 (some 25) #[true, true, false, false, false, false, false, false] HT_.out ?_
       refine q_p 2 (some 26) #[true, true, true, false, false, false, false, false] HT_.out ?_
       refine q_p 3 (some 27) #[true, true, true, true, false, false, false, false] HT_.out ?_
       refine q_t 4 (some 28) #[true, true, true, true, true, false, false, false] HT_.out HW_.out hHeld ?_
       refine q_t 5 (some 29) #[true, true, true, true, true, true, false, false] HT_.out HW_.out hHeld ?_
       refine one_ (i := 6) (N := some 30) #[true, true, true, true, true, true, true, false] rfl rfl (one_of HT_.out (by kernel_rfl)) (by decide) (fun K hK => ?_)
       refine print_goesR Try.func84 (by kernel_rfl) rfl #[.agg #[.int .i64 ((rd_T104 l0 (ji5)).f0), .int .i64 ((rd_T104 l0 (ji5)).f1), .int .i64 ((rd_T104 l0 (ji5)).f2)], .agg #[.int .i64 a1_0, .int .i64 a1_1, .int .i64 a1_2]] (by rfl) rfl rfl rfl (by (try simp only [List.map_toArray, List.map_cons, List.map_nil]); first | done | (simp only [hji5]; rfl) | rfl | (simp only [List.length_drop, List.length_take]; rfl)) ?_
       with_reducible refine (impl_comparePlaces.calls k1 ((rd_T104 l0 (ji5)).f0) ((rd_T104 l0 (ji5)).f1) ((rd_T104 l0 (ji5)).f2) a1_0 a1_1 a1_2 t167 _ A8.out).mono ?_
       rintro e w11 ⟨rfl, hb⟩
       refine ⟨_, rfl, ?_⟩
       have n0_ := am (blk_below (q_b BK165.out) hb)
       have n1_ := am (below_step bq hb)
       clear BK165
       clear HB
       have BK165 := n0_
       have HB := n1_
       clear n0_ n1_
       (try clear hb)
       (try clear hb2)
       (try clear hk)
       (try clear hi)
       refine hK.out _ _ ⟨q_z BK165.out 0, q_z BK165.out 1, q_z BK165.out 2, ((HB.out.cell (wb hw166_0)).trans hw166_0), ((HB.out.cell (wb hw166_1)).trans hw166_1), ((HB.out.cell (wb hw166_2)).trans hw166_2)⟩ (fun hHeld => ?_)
       clear hK K
       refine norm_ (a' := ?_) ?_ ?_
       rotate_left
       ·show Act.put _ (some 30) _ = _
        simp only [Act.put, List.setIfInBounds_toArray, List.set_cons_zero, List.set_cons_succ, i64_w, i32_w]
        rfl
       refine q_p 7 (some 31) #[true, true, true, true, true, true, true, true] HT_.out ?_
       refine done_ (done_of HT_.out (by kernel_rfl)) ?_
       try go_wp2
       go_roundg k1
       case measure => have := HK1.out; omega
       case rel => exact ⟨(wrap64 ((ji5) + 1)), (x10_1), (by first | rfl | (simp; done) | (simp only [← hji5] <;> (first | rfl | simp)) | (simp [*]; done)), q_i, H', ⟨by have := HK1.out; omega⟩, ⟨q_b BK165.out⟩, ⟨bq⟩⟩
      ·rw [if_neg c9] at H
       have c9b0 := decide_eq_false c9
       clear c9
       have H' := am H
       clear H
       try go_wp2
       have n0_ := am (blk_drew BK165.out)
       have n1_ := am (below_drew1 HB.out)
       clear BK165
       clear HB
       have BK165 := n0_
       have HB := n1_
       clear n0_ n1_
       have p166 : 0 ≤ ((ji5) : Int) := q_d
       have q166 : (ji5) < (l0.length : Int) := q_d
       obtain ⟨ad166, e166, hx166_0, hx166_1, hx166_2⟩ := at_T104 HR0.out (ji5) p166 q166
       have hw166_2 := hx166_2
       have hw166_1 := hx166_1
       have hw166_0 := hx166_0
       cases e166
       replace hx166_0 := q_x HB.out hx166_0
       replace hx166_1 := q_x HB.out hx166_1
       replace hx166_2 := q_x HB.out hx166_2
       replace p166 := eq_true p166
       replace q166 := eq_true q166
       refine start_ (n := 8) (S := fun w' => w'.cell? ⟨gb165, 0, none⟩ = some (.int .i64 a1_0) ∧ w'.cell? ⟨gb165, 1, none⟩ = some (.int .i64 a1_1) ∧ w'.cell? ⟨gb165, 2, none⟩ = some (.int .i64 a1_2) ∧ w'.cell? (ad166.add (((ji5)).toNat * 3)) = some (.int .i64 ((rd_T104 l0 (ji5)).f0)) ∧ w'.cell? ⟨(ad166.add (((ji5)).toNat * 3)).block, (ad166.add (((ji5)).toNat * 3)).off + 1, none⟩ = some (.int .i64 ((rd_T104 l0 (ji5)).f1)) ∧ w'.cell? ⟨(ad166.add (((ji5)).toNat * 3)).block, (ad166.add (((ji5)).toNat * 3)).off + 2, none⟩ = some (.int .i64 ((rd_T104 l0 (ji5)).f2))) (ds := []) #[false, false, false, false, false, false, false, false] (by kernel_rfl) rfl rfl ⟨q_z BK165.out 0, q_z BK165.out 1, q_z BK165.out 2, ((HB.out.cell (wb hw166_0)).trans hw166_0), ((HB.out.cell (wb hw166_1)).trans hw166_1), ((HB.out.cell (wb hw166_2)).trans hw166_2)⟩ (fun hHeld => ?_); refine with_tabW slices_BinarySearchFunc_impl_Balance.tab5 slices_BinarySearchFunc_impl_Balance.bits5 (fun HT_ HW_ => ?_)
       generalize wr.drew = w12 at BK165 HB hx166_0 hx166_1 hx166_2 hHeld ⊢
       refine q_p 0 (some 24) #[true, false, false, false, false, false, false, false] HT_.out ?_
       refine q_p 1 (some 25) #[true, true, false, false, false, false, false, false] HT_.out ?_
       refine q_p 2 (some 26) #[true, true, true, false, false, false, false, false] HT_.out ?_
       refine q_p 3 (some 27) #[true, true, true, true, false, false, false, false] HT_.out ?_
       refine q_t 4 (some 28) #[true, true, true, true, true, false, false, false] HT_.out HW_.out hHeld ?_
       refine q_t 5 (some 29) #[true, true, true, true, true, true, false, false] HT_.out HW_.out hHeld ?_
       refine one_ (i := 6) (N := some 30) #[true, true, true, true, true, true, true, false] rfl rfl (one_of HT_.out (by kernel_rfl)) (by decide) (fun K hK => ?_)
       refine print_goesR Try.func84 (by kernel_rfl) rfl #[.agg #[.int .i64 ((rd_T104 l0 (ji5)).f0), .int .i64 ((rd_T104 l0 (ji5)).f1), .int .i64 ((rd_T104 l0 (ji5)).f2)], .agg #[.int .i64 a1_0, .int .i64 a1_1, .int .i64 a1_2]] (by rfl) rfl rfl rfl (by (try simp only [List.map_toArray, List.map_cons, List.map_nil]); first | done | (simp only [hji5]; rfl) | rfl | (simp only [List.length_drop, List.length_take]; rfl)) ?_
       with_reducible refine (impl_comparePlaces.calls k1 ((rd_T104 l0 (ji5)).f0) ((rd_T104 l0 (ji5)).f1) ((rd_T104 l0 (ji5)).f2) a1_0 a1_1 a1_2 t167 _ A8.out).mono ?_
       rintro e w13 ⟨rfl, hb⟩
       refine ⟨_, rfl, ?_⟩
       have n0_ := am (blk_below (q_b BK165.out) hb)
       have n1_ := am (below_step bq hb)
       clear BK165
       clear HB
       have BK165 := n0_
       have HB := n1_
       clear n0_ n1_
       (try clear hb)
       (try clear hb2)
       (try clear hk)
       (try clear hi)
       refine hK.out _ _ ⟨q_z BK165.out 0, q_z BK165.out 1, q_z BK165.out 2, ((HB.out.cell (wb hw166_0)).trans hw166_0), ((HB.out.cell (wb hw166_1)).trans hw166_1), ((HB.out.cell (wb hw166_2)).trans hw166_2)⟩ (fun hHeld => ?_)
       clear hK K
       refine norm_ (a' := ?_) ?_ ?_
       rotate_left
       ·show Act.put _ (some 30) _ = _
        simp only [Act.put, List.setIfInBounds_toArray, List.set_cons_zero, List.set_cons_succ, i64_w, i32_w]
        rfl
       refine q_p 7 (some 31) #[true, true, true, true, true, true, true, true] HT_.out ?_
       refine done_ (done_of HT_.out (by kernel_rfl)) ?_
       try go_wp2
       go_roundg k1
       case measure => have := HK1.out; omega
       case rel => exact ⟨(x9_1), (ji5), q_i, (by first | rfl | (simp; done) | (simp only [← hji5] <;> (first | rfl | simp)) | (simp [*]; done)), H', ⟨by have := HK1.out; omega⟩, ⟨q_b BK165.out⟩, ⟨bq⟩⟩
     ·rw [if_neg c7] at H
      exact absurd H (by simp)
    ·rw [if_neg c6] at H
     exact absurd H (by simp)
   ·rw [if_neg c4] at H
    have c4b0 := decide_eq_false c4
    clear c4
    by_cases c14 : x9_1 < (l0.length : Int)
    ·rw [if_pos c14] at H
     have c14b0 := decide_eq_true c14
     clear c14
     by_cases c15 : 0 ≤ x9_1
     ·rw [if_pos c15] at H
      have c15b0 := decide_eq_true c15
      clear c15
      by_cases c16 : x9_1 < (l0.length : Int)
      ·rw [if_pos c16] at H
       have c16b0 := decide_eq_true c16
       clear c16
       replace H := ob H
       obtain ⟨t169, A170, H⟩ := H
       replace H : (some (x9_1, (t169 == 0))) = some (r1, r2) := H
       have A17 := am A170
       clear A170
       simp only [Option.some.injEq, Prod.mk.injEq] at H
       obtain ⟨rfl, rfl⟩ := H
       try go_wp2
       have n0_ := am (blk_drew BK165.out)
       have n1_ := am (below_drew1 HB.out)
       clear BK165
       clear HB
       have BK165 := n0_
       have HB := n1_
       clear n0_ n1_
       have p168 : 0 ≤ (x9_1 : Int) := q_d
       have q168 : x9_1 < (l0.length : Int) := q_d
       obtain ⟨ad168, e168, hx168_0, hx168_1, hx168_2⟩ := at_T104 HR0.out x9_1 p168 q168
       have hw168_2 := hx168_2
       have hw168_1 := hx168_1
       have hw168_0 := hx168_0
       cases e168
       replace hx168_0 := q_x HB.out hx168_0
       replace hx168_1 := q_x HB.out hx168_1
       replace hx168_2 := q_x HB.out hx168_2
       replace p168 := eq_true p168
       replace q168 := eq_true q168
       refine start_ (n := 16) (S := fun w' => w'.cell? ⟨gb165, 0, none⟩ = some (.int .i64 a1_0) ∧ w'.cell? ⟨gb165, 1, none⟩ = some (.int .i64 a1_1) ∧ w'.cell? ⟨gb165, 2, none⟩ = some (.int .i64 a1_2) ∧ w'.cell? (ad168.add ((x9_1).toNat * 3)) = some (.int .i64 ((rd_T104 l0 x9_1).f0)) ∧ w'.cell? ⟨(ad168.add ((x9_1).toNat * 3)).block, (ad168.add ((x9_1).toNat * 3)).off + 1, none⟩ = some (.int .i64 ((rd_T104 l0 x9_1).f1)) ∧ w'.cell? ⟨(ad168.add ((x9_1).toNat * 3)).block, (ad168.add ((x9_1).toNat * 3)).off + 2, none⟩ = some (.int .i64 ((rd_T104 l0 x9_1).f2))) (ds := []) #[false, false, false, false, false, false, false, false, false, false, false, false, false, false, false, false] (by kernel_rfl) rfl rfl ⟨q_z BK165.out 0, q_z BK165.out 1, q_z BK165.out 2, ((HB.out.cell (wb hw168_0)).trans hw168_0), ((HB.out.cell (wb hw168_1)).trans hw168_1), ((HB.out.cell (wb hw168_2)).trans hw168_2)⟩ (fun hHeld => ?_); refine with_tabW slices_BinarySearchFunc_impl_Balance.tab8 slices_BinarySearchFunc_impl_Balance.bits8 (fun HT_ HW_ => ?_)
       generalize wr.drew = w18 at BK165 HB hx168_0 hx168_1 hx168_2 hHeld ⊢
       refine q_p 0 (some 35) #[true, false, false, false, false, false, false, false, false, false, false, false, false, false, false, false] HT_.out ?_
       refine q_p 1 (some 36) #[true, true, false, false, false, false, false, false, false, false, false, false, false, false, false, false] HT_.out ?_
       refine q_p 2 (some 37) #[true, true, true, false, false, false, false, false, false, false, false, false, false, false, false, false] HT_.out ?_
       refine q_p 3 (some 38) #[true, true, true, true, false, false, false, false, false, false, false, false, false, false, false, false] HT_.out ?_
       refine q_p 4 (some 39) #[true, true, true, true, true, false, false, false, false, false, false, false, false, false, false, false] HT_.out ?_
       refine q_p 5 (some 40) #[true, true, true, true, true, true, false, false, false, false, false, false, false, false, false, false] HT_.out ?_
       refine q_p 6 (some 41) #[true, true, true, true, true, true, true, false, false, false, false, false, false, false, false, false] HT_.out ?_
       refine q_p 7 (some 42) #[true, true, true, true, true, true, true, true, false, false, false, false, false, false, false, false] HT_.out ?_
       refine q_p 8 (some 43) #[true, true, true, true, true, true, true, true, true, false, false, false, false, false, false, false] HT_.out ?_
       refine q_t 9 (some 44) #[true, true, true, true, true, true, true, true, true, true, false, false, false, false, false, false] HT_.out HW_.out hHeld ?_
       refine q_t 10 (some 45) #[true, true, true, true, true, true, true, true, true, true, true, false, false, false, false, false] HT_.out HW_.out hHeld ?_
       refine one_ (i := 11) (N := some 46) #[true, true, true, true, true, true, true, true, true, true, true, true, false, false, false, false] rfl rfl (one_of HT_.out (by kernel_rfl)) (by decide) (fun K hK => ?_)
       refine print_goesR Try.func84 (by kernel_rfl) rfl #[.agg #[.int .i64 ((rd_T104 l0 x9_1).f0), .int .i64 ((rd_T104 l0 x9_1).f1), .int .i64 ((rd_T104 l0 x9_1).f2)], .agg #[.int .i64 a1_0, .int .i64 a1_1, .int .i64 a1_2]] (by rfl) rfl rfl rfl (by (try simp only [List.map_toArray, List.map_cons, List.map_nil]); first | done | rfl | (simp only [List.length_drop, List.length_take]; rfl)) ?_
       with_reducible refine (impl_comparePlaces.calls k1 ((rd_T104 l0 x9_1).f0) ((rd_T104 l0 x9_1).f1) ((rd_T104 l0 x9_1).f2) a1_0 a1_1 a1_2 t169 _ A17.out).mono ?_
       rintro e w19 ⟨rfl, hb⟩
       refine ⟨_, rfl, ?_⟩
       have n0_ := am (blk_below (q_b BK165.out) hb)
       have n1_ := am (below_step bq hb)
       clear BK165
       clear HB
       have BK165 := n0_
       have HB := n1_
       clear n0_ n1_
       (try clear hb)
       (try clear hb2)
       (try clear hk)
       (try clear hi)
       refine hK.out _ _ ⟨q_z BK165.out 0, q_z BK165.out 1, q_z BK165.out 2, ((HB.out.cell (wb hw168_0)).trans hw168_0), ((HB.out.cell (wb hw168_1)).trans hw168_1), ((HB.out.cell (wb hw168_2)).trans hw168_2)⟩ (fun hHeld => ?_)
       clear hK K
       refine norm_ (a' := ?_) ?_ ?_
       rotate_left
       ·show Act.put _ (some 46) _ = _
        simp only [Act.put, List.setIfInBounds_toArray, List.set_cons_zero, List.set_cons_succ, i64_w, i32_w]
        rfl
       refine q_p 12 (some 47) #[true, true, true, true, true, true, true, true, true, true, true, true, true, false, false, false] HT_.out ?_
       refine q_p 13 (some 48) #[true, true, true, true, true, true, true, true, true, true, true, true, true, true, false, false] HT_.out ?_
       refine q_p 14 (some 6) #[true, true, true, true, true, true, true, true, true, true, true, true, true, true, true, false] HT_.out ?_
       refine q_p 15 (some 7) #[true, true, true, true, true, true, true, true, true, true, true, true, true, true, true, true] HT_.out ?_
       refine done_ (done_of HT_.out (by kernel_rfl)) ?_
       try go_wp2
       go_ret2
       exact ⟨q_e, bq⟩
      ·rw [if_neg c16] at H
       exact absurd H (by simp)
     ·rw [if_neg c15] at H
      exact absurd H (by simp)
    ·rw [if_neg c14] at H
     have c14b0 := decide_eq_false c14
     clear c14
     simp only [Option.some.injEq, Prod.mk.injEq] at H
     obtain ⟨rfl, rfl⟩ := H
     try go_wp2
     have n0_ := am (blk_drew BK165.out)
     have n1_ := am (below_drew1 HB.out)
     clear BK165
     clear HB
     have BK165 := n0_
     have HB := n1_
     clear n0_ n1_
     refine start_ (n := 16) (S := fun w' => True) (ds := []) #[false, false, false, false, false, false, false, false, false, false, false, false, false, false, false, false] (by kernel_rfl) rfl rfl trivial (fun hHeld => ?_); refine with_tabW slices_BinarySearchFunc_impl_Balance.tab8 slices_BinarySearchFunc_impl_Balance.bits8 (fun HT_ HW_ => ?_)
     generalize wr.drew = w20 at BK165 HB hHeld ⊢
     refine q_p 0 (some 35) #[true, false, false, false, false, false, false, false, false, false, false, false, false, false, false, false] HT_.out ?_
     refine q_p 1 (some 36) #[true, true, false, false, false, false, false, false, false, false, false, false, false, false, false, false] HT_.out ?_
     refine q_p 2 (some 37) #[true, true, true, false, false, false, false, false, false, false, false, false, false, false, false, false] HT_.out ?_
     refine q_p 3 (some 38) #[true, true, true, true, false, false, false, false, false, false, false, false, false, false, false, false] HT_.out ?_
     refine q_p 4 (some 39) #[true, true, true, true, true, false, false, false, false, false, false, false, false, false, false, false] HT_.out ?_
     refine pure_ (i := 5) (N := some 40) (v := undef) (a' := ?_) #[true, true, true, true, true, true, false, false, false, false, false, false, false, false, false, false] rfl rfl (any_of HT_.out (by kernel_rfl)) (fun _ _ _ h => h) (Or.inr ⟨by rfl, rfl⟩) ?_ ?_
     rotate_left
     ·simp only [Act.put, List.setIfInBounds_toArray, List.set_cons_zero, List.set_cons_succ, i64_w, i32_w]
      rfl
     refine pure_ (i := 6) (N := some 41) (v := undef) (a' := ?_) #[true, true, true, true, true, true, true, false, false, false, false, false, false, false, false, false] rfl rfl (any_of HT_.out (by kernel_rfl)) (fun _ _ _ h => h) (Or.inr ⟨by rfl, rfl⟩) ?_ ?_
     rotate_left
     ·simp only [Act.put, List.setIfInBounds_toArray, List.set_cons_zero, List.set_cons_succ, i64_w, i32_w]
      rfl
     refine pure_ (i := 7) (N := some 42) (v := undef) (a' := ?_) #[true, true, true, true, true, true, true, true, false, false, false, false, false, false, false, false] rfl rfl (any_of HT_.out (by kernel_rfl)) (fun _ _ _ h => h) (Or.inr ⟨by rfl, rfl⟩) ?_ ?_
     rotate_left
     ·simp only [Act.put, List.setIfInBounds_toArray, List.set_cons_zero, List.set_cons_succ, i64_w, i32_w]
      rfl
     refine pure_ (i := 8) (N := some 43) (v := undef) (a' := ?_) #[true, true, true, true, true, true, true, true, true, false, false, false, false, false, false, false] rfl rfl (any_of HT_.out (by kernel_rfl)) (fun _ _ _ h => h) (Or.inr ⟨by rfl, rfl⟩) ?_ ?_
     rotate_left
     ·simp only [Act.put, List.setIfInBounds_toArray, List.set_cons_zero, List.set_cons_succ, i64_w, i32_w]
      rfl
     refine pure_ (i := 9) (N := some 44) (v := undef) (a' := ?_) #[true, true, true, true, true, true, true, true, true, true, false, false, false, false, false, false] rfl rfl (any_of HT_.out (by kernel_rfl)) (fun _ _ _ h => h) (Or.inr ⟨by rfl, rfl⟩) ?_ ?_
     rotate_left
     ·simp only [Act.put, List.setIfInBounds_toArray, List.set_cons_zero, List.set_cons_succ, i64_w, i32_w]
      rfl
     refine pure_ (i := 10) (N := some 45) (v := undef) (a' := ?_) #[true, true, true, true, true, true, true, true, true, true, true, false, false, false, false, false] rfl rfl (any_of HT_.out (by kernel_rfl)) (fun _ _ _ h => h) (Or.inr ⟨by rfl, rfl⟩) ?_ ?_
     rotate_left
     ·simp only [Act.put, List.setIfInBounds_toArray, List.set_cons_zero, List.set_cons_succ, i64_w, i32_w]
      rfl
     refine pure_ (i := 11) (N := some 46) (v := undef) (a' := ?_) #[true, true, true, true, true, true, true, true, true, true, true, true, false, false, false, false] rfl rfl (any_of HT_.out (by kernel_rfl)) (fun _ _ _ h => h) (Or.inr ⟨by rfl, rfl⟩) ?_ ?_
     rotate_left
     ·simp only [Act.put, List.setIfInBounds_toArray, List.set_cons_zero, List.set_cons_succ, i64_w, i32_w]
      rfl
     refine pure_ (i := 12) (N := some 47) (v := undef) (a' := ?_) #[true, true, true, true, true, true, true, true, true, true, true, true, true, false, false, false] rfl rfl (any_of HT_.out (by kernel_rfl)) (fun _ _ _ h => h) (Or.inr ⟨by rfl, rfl⟩) ?_ ?_
     rotate_left
     ·simp only [Act.put, List.setIfInBounds_toArray, List.set_cons_zero, List.set_cons_succ, i64_w, i32_w]
      rfl
     refine q_p 13 (some 48) #[true, true, true, true, true, true, true, true, true, true, true, true, true, true, false, false] HT_.out ?_
     refine q_p 14 (some 6) #[true, true, true, true, true, true, true, true, true, true, true, true, true, true, true, false] HT_.out ?_
     refine q_p 15 (some 7) #[true, true, true, true, true, true, true, true, true, true, true, true, true, true, true, true] HT_.out ?_
     refine done_ (done_of HT_.out (by kernel_rfl)) ?_
     try go_wp2
     go_ret2
     exact ⟨q_e, bq⟩

/-! ### impl_amountIn: function 90 -/
def impl_amountIn.f (k : Nat) (l0 : List (S104)) (a1 : Int) (a2 : Int) : Option (Int) := (slices_BinarySearchFunc_impl_Balance.f k l0 a1 a2 0).bind fun bt170 => (if bt170.2 = true then (if 0 ≤ bt170.1 then (if bt170.1 < (l0.length : Int) then (some ((rd_T104 l0 bt170.1).f2)) else (none)) else (none)) else (some 0))
theorem impl_amountIn.calls (k : Nat) (A0 : Option Addr) (c0 : Nat) (l0 : List (S104)) (a1 : Int) (a2 : Int) (r : Int) (w : World) (hr0 : Kd.C k104 w A0 l0.length l0) (hc0 : l0.length ≤ c0) (h : impl_amountIn.f k l0 a1 a2 = some r) :
  Calls Try.prog 90 #[.slice A0 l0.length c0, .int .i64 a1, .int .i64 a2] w fun e w' => e = .returned (.int .i64 r) ∧ Below w.heap.size w w' := by
 have hu104 := Try.underlying104
 have HR0 := am hr0
 have HC0 := am hc0
 clear hr0 hc0
 have HB := am (Below.refl w.heap.size w)
 have H : ((slices_BinarySearchFunc_impl_Balance.f k l0 a1 a2 0).bind fun bt170 => (if bt170.2 = true then (if 0 ≤ bt170.1 then (if bt170.1 < (l0.length : Int) then (some ((rd_T104 l0 bt170.1).f2)) else (none)) else (none)) else (some 0))) = some r := h
 clear h
 replace H := ob H
 obtain ⟨⟨t170, t171⟩, A40, H⟩ := H
 replace H : (if t171 = true then (if 0 ≤ t170 then (if t170 < (l0.length : Int) then (some ((rd_T104 l0 t170).f2)) else (none)) else (none)) else (some 0)) = some r := H
 have A4 := am A40
 clear A40
 by_cases c5 : t171 = true
 ·subst c5
  have H1 : (if 0 ≤ t170 then (if t170 < (l0.length : Int) then (some ((rd_T104 l0 t170).f2)) else (none)) else (none)) = some r := by rw [if_pos rfl] at H; exact H
  clear H
  have H := H1
  clear H1
  by_cases c6 : 0 ≤ t170
  ·rw [if_pos c6] at H
   have c6b0 := decide_eq_true c6
   clear c6
   by_cases c7 : t170 < (l0.length : Int)
   ·rw [if_pos c7] at H
    have c7b0 := decide_eq_true c7
    clear c7
    obtain rfl := Option.some.inj H
    go_enter Try.func90, Try.ntmps90
    go_wp2_with (first | ((with_reducible refine gate_callee (f := 113) rfl ?_); refine goesLq (some 14) rfl rfl Try.func113 (by kernel_rfl) rfl #[.slice A0 l0.length c0, .agg #[.int .i64 a1, .int .i64 a2, .int .i64 0], .func (.func 84) #[] #[]] rfl ?_; (with_reducible refine (slices_BinarySearchFunc_impl_Balance.calls k _ _ l0 a1 a2 0 t170 true _ ?side1 ?side2 A4.out).mono ?_); (case side1 => exact q_c (HR0.out)); (case side2 => exact HC0.out); rintro e w8 ⟨rfl, hb⟩; refine ⟨_, rfl, ?_⟩; have n0_ := am (below_step bq hb); revert n0_; clear HB; intro HB; (try clear hb); (try clear hb2); (try clear hk); (try clear hi); have p172 : 0 ≤ (t170 : Int) := q_d; have q172 : t170 < (l0.length : Int) := q_d; obtain ⟨ad172, e172, hx172_0, hx172_1, hx172_2⟩ := at_T104 HR0.out t170 p172 q172; cases e172; replace hx172_0 := q_x HB.out hx172_0; replace hx172_1 := q_x HB.out hx172_1; replace hx172_2 := q_x HB.out hx172_2; replace p172 := eq_true p172; replace q172 := eq_true q172))
    go_ret
    exact ⟨q_e, bq⟩
   ·rw [if_neg c7] at H
    exact absurd H (by simp)
  ·rw [if_neg c6] at H
   exact absurd H (by simp)
 ·replace c5 := Bool.eq_false_iff.mpr c5
  subst c5
  have H1 : (some 0) = some r := by rw [if_neg (show ¬ (false = true) by decide)] at H; exact H
  clear H
  have H := H1
  clear H1
  obtain rfl := Option.some.inj H
  go_enter Try.func90, Try.ntmps90
  go_wp2_with (first | ((with_reducible refine gate_callee (f := 113) rfl ?_); refine goesLq (some 14) rfl rfl Try.func113 (by kernel_rfl) rfl #[.slice A0 l0.length c0, .agg #[.int .i64 a1, .int .i64 a2, .int .i64 0], .func (.func 84) #[] #[]] rfl ?_; (with_reducible refine (slices_BinarySearchFunc_impl_Balance.calls k _ _ l0 a1 a2 0 t170 false _ ?side1 ?side2 A4.out).mono ?_); (case side1 => exact q_c (HR0.out)); (case side2 => exact HC0.out); rintro e w9 ⟨rfl, hb⟩; refine ⟨_, rfl, ?_⟩; have n0_ := am (below_step bq hb); revert n0_; clear HB; intro HB; (try clear hb); (try clear hb2); (try clear hk); (try clear hi)))
  go_ret
  exact ⟨q_e, bq⟩

end Go.Proofs.Ytanegggacfmkcaa.PFnExactSettleAll
