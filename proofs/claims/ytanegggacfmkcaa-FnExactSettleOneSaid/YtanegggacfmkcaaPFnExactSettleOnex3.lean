/- The functions that a law reaches, each as a plain Lean function with the proof that the machine comes to its answer: written by program (the kit's print, turned by wip/gen). No conditions. -/
import Derived.Test.YtanegggacfmkcaaPFnExactSettleOnex0
import Derived.Test.YtanegggacfmkcaaPFnExactSettleOnex1
namespace Go.Proofs.Ytanegggacfmkcaa.PFnExactSettleOne
open Go.RowKit Go.Proofs.YtanegggacfmkcaaW.PrintWords Go.Proofs.YtanegggacfmkcaaW.PrintLast Go.Proofs.YtanegggacfmkcaaW.PrintMore
attribute [local go_sem] max2_int min2_int max_two min_two max_three min_three max_four min_four   -- for this text's walks alone
set_option linter.unusedVariables false
set_option linter.unusedSimpArgs false

/-! ### slices_IndexFunc_impl_Leg: function 120 -/

theorem print_gateC {P : Program} {ops : Array Oper} {rest : List Oper} {o : Oper} {a : Act} {Q : Exit → Act → World → Prop} {W : World} {co : Operand} (f : FuncId) (caps : Array Value) {ars : Array Operand} {ts : Array TypeId} (_ho : o.op = .call { callee := .value co, args := ars, argTypes := ts }) (_hT : a.eval co = .func (.func f) #[] caps) (h : wpList P ops Q (o :: rest) a W) : wpList P ops Q (o :: rest) a W := h
theorem print_goesC {P : Program} {ops : Array Oper} {Q : Exit → Act → World → Prop} {rest : List Oper} {oi : Oper} {a : Act} {w : World} {co : Operand} (N : Option Tmp) (hd : oi.dst = N) (hg : oi.guard = none) {f : FuncId} {fn : Func} {ars : Array Operand} {ts : Array TypeId} (hf : P.funcs[f]? = some fn) (hname : (fn.name == "runtime.NumGoroutine") = false) (hb : fn.body.isSome = true) (caps args : Array Value)
    (hop : oi.op = .call { callee := .value co, args := ars, argTypes := ts }) (hT : a.eval co = .func (.func f) #[] caps) (hargs : ars.map a.eval = args)
    (h : Calls P f (args ++ caps) w fun e w' => ∃ v, e = .returned v ∧ wpList P ops Q rest (a.put N v) w') : wpList P ops Q (oi :: rest) a w := by
  refine wpList_plain hg fun K hK => ?_
  have he := enters_ hf hname hb (args ++ caps) w
  have hrun : (execOp a.eval oi).run P w = .ok (.enter f (args ++ caps)) w := by
    unfold execOp
    simp [hop, resolve, Deferred.ofValue, invoke, hT, hargs, he]
  unfold Oper.wp
  rw [hrun, Oper.upon_enter]
  refine h.mono fun e w'' hh => ?_
  obtain ⟨v, rfl, hk⟩ := hh
  subst hd
  exact hK _ _ hk
theorem print_goesCR {P : Program} {ops : Array Oper} {Q : Exit → Act → World → Prop} {oi : Oper} {N : Option Tmp} {a : Act} {w : World} {K : Act → World → Prop} {co : Operand} {f : FuncId} {fn : Func} {ars : Array Operand} {ts : Array TypeId} (hf : P.funcs[f]? = some fn) (hname : (fn.name == "runtime.NumGoroutine") = false) (hb : fn.body.isSome = true) (caps args : Array Value)
    (hw : Region.wanted oi (yielded ops a.tmps) = true) (hN : oi.dst = N) (hop : oi.op = .call { callee := .value co, args := ars, argTypes := ts }) (hT : a.eval co = .func (.func f) #[] caps) (hargs : ars.map a.eval = args)
    (h : Calls P f (args ++ caps) w fun e w' => ∃ v, e = .returned v ∧ K (a.put N v) w') : if Region.wanted oi (yielded ops a.tmps) = true then Oper.wp P oi a w K Q else K (a.put N undef) w := by
  refine call_ f (args ++ caps) hw hN ?_ h
  have he := enters_ hf hname hb (args ++ caps) w
  unfold execOp
  simp [hop, resolve, Deferred.ofValue, invoke, hT, hargs, he]
class FN_slices_IndexFunc_impl_Leg where
  f : Int → Int → Int → Int → Option Bool
section
variable [FN_slices_IndexFunc_impl_Leg]
def slices_IndexFunc_impl_Leg.l0 : Nat → List (S86) → Int → Int → Option (Int)
  | 0, _, _, _ => none
  | k + 1, x0, x7, x8 => if x8 < x7 then (if 0 ≤ x8 then (if x8 < (x0.length : Int) then ((FN_slices_IndexFunc_impl_Leg.f ((rd_T86 x0 x8).f0) ((rd_T86 x0 x8).f1) ((rd_T86 x0 x8).f2) ((rd_T86 x0 x8).f3)).bind fun t128 => (if t128 = true then (some x8) else (slices_IndexFunc_impl_Leg.l0 k x0 x7 (wrap64 (x8 + 1))))) else (none)) else (none)) else (some (-1))
def slices_IndexFunc_impl_Leg.f (k : Nat) (l0 : List (S86)) : Option (Int) := slices_IndexFunc_impl_Leg.l0 k l0 (l0.length : Int) 0
set_option maxHeartbeats 8000000 in
set_option maxRecDepth 100000 in
theorem slices_IndexFunc_impl_Leg.calls (k : Nat) (A0 : Option Addr) (c0 : Nat) (l0 : List (S86)) (r : Int) (w : World) (hr0 : Kd.C k86 w A0 l0.length l0) (hc0 : l0.length ≤ c0) (h : slices_IndexFunc_impl_Leg.f k l0 = some r) (F : FuncId) (fn : Func) (caps : Array Value) (hF : Try.prog.funcs[F]? = some fn) (hFn : (fn.name == "runtime.NumGoroutine") = false) (hFb : fn.body.isSome = true) (hFc : ∀ (x0_ : Int) (x1_ : Int) (x2_ : Int) (x3_ : Int) (r : Bool) (W : World), FN_slices_IndexFunc_impl_Leg.f x0_ x1_ x2_ x3_ = some r → Below w.heap.size w W → Calls Try.prog F (#[.agg #[.int .i64 x0_, .int .i64 x1_, .int .i64 x2_, .int .i64 x3_]] ++ caps) W fun e w' => e = .returned (.bool r) ∧ Below W.heap.size W w') :
  Calls Try.prog 120 #[.slice A0 l0.length c0, .func (.func F) #[] caps] w fun e w' => e = .returned (.int .i64 r) ∧ Below w.heap.size w w' := by
 have hu86 := Try.underlying86
 have HR0 := Aside0.mk hr0
 have HC0 := Aside0.mk hc0
 clear hr0 hc0
 have HB := Aside0.mk (Below.refl w.heap.size w)
 have H : (slices_IndexFunc_impl_Leg.l0 k l0 (l0.length : Int) 0) = some r := h
 clear h
 have H' := Aside0.mk H
 clear H
 go_enter Try.func120, Try.ntmps120
 go_wp2
 go_loopg [8] k (fun kq v8 w' => ∃ (x8_1 : Int), v8 = .int .i64 x8_1 ∧ Aside0 (slices_IndexFunc_impl_Leg.l0 kq l0 (l0.length : Int) x8_1 = some r) ∧ Aside0 (kq ≤ k) ∧ Aside0 (Below w.heap.size w w'))
 case atStart => exact ⟨(0), q_i, H', ⟨Nat.le_refl _⟩, ⟨bq⟩⟩
 case round =>
  clear H'
  (try clear c1)
  obtain ⟨x8_1, rfl, HA, HK1, HB⟩ := hrel
  cases gk with
  | zero => exact absurd HA.out (by simp [slices_IndexFunc_impl_Leg.l0])
  | succ k1 =>
   have H := HA.out
   clear HA
   simp only [slices_IndexFunc_impl_Leg.l0] at H
   by_cases c2 : x8_1 < (l0.length : Int)
   ·rw [if_pos c2] at H
    have c2b0 := decide_eq_true c2
    clear c2
    by_cases c3 : 0 ≤ x8_1
    ·rw [if_pos c3] at H
     have c3b0 := decide_eq_true c3
     clear c3
     by_cases c4 : x8_1 < (l0.length : Int)
     ·rw [if_pos c4] at H
      have c4b0 := decide_eq_true c4
      clear c4
      replace H := Option.bind_eq_some_iff.mp H
      obtain ⟨t128, A50, H⟩ := H
      replace H : (if t128 = true then (some x8_1) else (slices_IndexFunc_impl_Leg.l0 k1 l0 (l0.length : Int) (wrap64 (x8_1 + 1)))) = some r := H
      have A5 := Aside0.mk A50
      clear A50
      by_cases c6 : t128 = true
      ·subst c6
       have H1 : (some x8_1) = some r := by rw [if_pos rfl] at H; exact H
       clear H
       have H := H1
       clear H1
       obtain rfl := Option.some.inj H
       have p127 : 0 ≤ (x8_1 : Int) := q_d
       have q127 : x8_1 < (l0.length : Int) := q_d
       obtain ⟨ad127, e127, hx127_0, hx127_1, hx127_2, hx127_3⟩ := at_T86 HR0.out x8_1 p127 q127
       cases e127
       replace hx127_0 := q_x HB.out hx127_0
       replace hx127_1 := q_x HB.out hx127_1
       replace hx127_2 := q_x HB.out hx127_2
       replace hx127_3 := q_x HB.out hx127_3
       replace p127 := eq_true p127
       replace q127 := eq_true q127
       go_wp2_with (first | ((with_reducible refine print_gateC F caps rfl rfl ?_); refine print_goesC (some 16) rfl rfl hF hFn hFb caps #[.agg #[.int .i64 ((rd_T86 l0 x8_1).f0), .int .i64 ((rd_T86 l0 x8_1).f1), .int .i64 ((rd_T86 l0 x8_1).f2), .int .i64 ((rd_T86 l0 x8_1).f3)]] rfl rfl (by (try simp only [List.map_toArray, List.map_cons, List.map_nil]); first | done | rfl | (simp only [List.length_drop, List.length_take]; rfl)) ?_; (refine (hFc ((rd_T86 l0 x8_1).f0) ((rd_T86 l0 x8_1).f1) ((rd_T86 l0 x8_1).f2) ((rd_T86 l0 x8_1).f3) true _ A5.out bq).mono ?_); rintro e w7 ⟨rfl, hb⟩; refine ⟨_, rfl, ?_⟩; have n0_ := Aside0.mk (below_step bq hb); revert n0_; clear HB; intro HB; (try clear hb); (try clear hb2); (try clear hk); (try clear hi)))
       go_ret
       exact ⟨q_e, bq⟩
      ·replace c6 := Bool.eq_false_iff.mpr c6
       subst c6
       have H1 : (slices_IndexFunc_impl_Leg.l0 k1 l0 (l0.length : Int) (wrap64 (x8_1 + 1))) = some r := by rw [if_neg (show ¬ (false = true) by decide)] at H; exact H
       clear H
       have H := H1
       clear H1
       have H' := Aside0.mk H
       clear H
       have p127 : 0 ≤ (x8_1 : Int) := q_d
       have q127 : x8_1 < (l0.length : Int) := q_d
       obtain ⟨ad127, e127, hx127_0, hx127_1, hx127_2, hx127_3⟩ := at_T86 HR0.out x8_1 p127 q127
       cases e127
       replace hx127_0 := q_x HB.out hx127_0
       replace hx127_1 := q_x HB.out hx127_1
       replace hx127_2 := q_x HB.out hx127_2
       replace hx127_3 := q_x HB.out hx127_3
       replace p127 := eq_true p127
       replace q127 := eq_true q127
       go_wp2_with (first | ((with_reducible refine print_gateC F caps rfl rfl ?_); refine print_goesC (some 16) rfl rfl hF hFn hFb caps #[.agg #[.int .i64 ((rd_T86 l0 x8_1).f0), .int .i64 ((rd_T86 l0 x8_1).f1), .int .i64 ((rd_T86 l0 x8_1).f2), .int .i64 ((rd_T86 l0 x8_1).f3)]] rfl rfl (by (try simp only [List.map_toArray, List.map_cons, List.map_nil]); first | done | rfl | (simp only [List.length_drop, List.length_take]; rfl)) ?_; (refine (hFc ((rd_T86 l0 x8_1).f0) ((rd_T86 l0 x8_1).f1) ((rd_T86 l0 x8_1).f2) ((rd_T86 l0 x8_1).f3) false _ A5.out bq).mono ?_); rintro e w8 ⟨rfl, hb⟩; refine ⟨_, rfl, ?_⟩; have n0_ := Aside0.mk (below_step bq hb); revert n0_; clear HB; intro HB; (try clear hb); (try clear hb2); (try clear hk); (try clear hi)))
       go_roundg k1
       case measure => have := HK1.out; omega
       case rel => exact ⟨(wrap64 (x8_1 + 1)), q_i, H', ⟨by have := HK1.out; omega⟩, ⟨bq⟩⟩
     ·rw [if_neg c4] at H
      exact absurd H (by simp)
    ·rw [if_neg c3] at H
     exact absurd H (by simp)
   ·rw [if_neg c2] at H
    have c2b0 := decide_eq_false c2
    clear c2
    obtain rfl := Option.some.inj H
    go_wp2
    go_ret
    exact ⟨q_e, bq⟩
end

/-! ### slices_ContainsFunc_impl_Leg: function 99 -/
section
variable [FN_slices_IndexFunc_impl_Leg]
def slices_ContainsFunc_impl_Leg.f (k : Nat) (l0 : List (S86)) : Option (Bool) := (slices_IndexFunc_impl_Leg.f k l0).bind fun t129 => (some (decide (t129 ≥ 0)))
set_option maxHeartbeats 8000000 in
set_option maxRecDepth 100000 in
theorem slices_ContainsFunc_impl_Leg.calls (k : Nat) (A0 : Option Addr) (c0 : Nat) (l0 : List (S86)) (r : Bool) (w : World) (hr0 : Kd.C k86 w A0 l0.length l0) (hc0 : l0.length ≤ c0) (h : slices_ContainsFunc_impl_Leg.f k l0 = some r) (F : FuncId) (fn : Func) (caps : Array Value) (hF : Try.prog.funcs[F]? = some fn) (hFn : (fn.name == "runtime.NumGoroutine") = false) (hFb : fn.body.isSome = true) (hFc : ∀ (x0_ : Int) (x1_ : Int) (x2_ : Int) (x3_ : Int) (r : Bool) (W : World), FN_slices_IndexFunc_impl_Leg.f x0_ x1_ x2_ x3_ = some r → Below w.heap.size w W → Calls Try.prog F (#[.agg #[.int .i64 x0_, .int .i64 x1_, .int .i64 x2_, .int .i64 x3_]] ++ caps) W fun e w' => e = .returned (.bool r) ∧ Below W.heap.size W w') :
  Calls Try.prog 99 #[.slice A0 l0.length c0, .func (.func F) #[] caps] w fun e w' => e = .returned (.bool r) ∧ Below w.heap.size w w' := by
 have HR0 := Aside0.mk hr0
 have HC0 := Aside0.mk hc0
 clear hr0 hc0
 have HB := Aside0.mk (Below.refl w.heap.size w)
 have H : ((slices_IndexFunc_impl_Leg.f k l0).bind fun t129 => (some (decide (t129 ≥ 0)))) = some r := h
 clear h
 replace H := Option.bind_eq_some_iff.mp H
 obtain ⟨t129, A20, H⟩ := H
 replace H : (some (decide (t129 ≥ 0))) = some r := H
 have A2 := Aside0.mk A20
 clear A20
 obtain rfl := Option.some.inj H
 go_enter Try.func99, Try.ntmps99
 go_wp2_with (first | ((with_reducible refine gate_callee (f := 120) rfl ?_); refine goesLq (some 7) rfl rfl Try.func120 (by kernel_rfl) rfl #[.slice A0 l0.length c0, .func (.func F) #[] caps] rfl ?_; (with_reducible refine (slices_IndexFunc_impl_Leg.calls k _ _ l0 t129 _ ?side1 ?side2 A2.out F fn caps hF hFn hFb hFc).mono ?_); (case side1 => exact q_c (HR0.out)); (case side2 => exact HC0.out); rintro e w3 ⟨rfl, hb⟩; refine ⟨_, rfl, ?_⟩; have n0_ := Aside0.mk (below_step bq hb); revert n0_; clear HB; intro HB; (try clear hb); (try clear hb2); (try clear hk); (try clear hi)))
 go_ret
 exact ⟨q_e, bq⟩
end

/-! ### impl_size_impl_Leg: function 115 -/
def impl_size_impl_Leg.f (l0 : List (S86)) : Option (Int) := some (l0.length : Int)
set_option maxHeartbeats 8000000 in
set_option maxRecDepth 100000 in
theorem impl_size_impl_Leg.calls (A0 : Option Addr) (c0 : Nat) (l0 : List (S86)) (r : Int) (w : World) (hr0 : Kd.C k86 w A0 l0.length l0) (hc0 : l0.length ≤ c0) (h : impl_size_impl_Leg.f l0 = some r) :
  Calls Try.prog 115 #[.slice A0 l0.length c0] w fun e w' => e = .returned (.int .i64 r) ∧ Drawn0 w w' := by
 have HR0 := Aside0.mk hr0
 have HC0 := Aside0.mk hc0
 clear hr0 hc0
 have H : (some (l0.length : Int)) = some r := h
 clear h
 obtain rfl := Option.some.inj H
 go_enter Try.func115, Try.ntmps115
 go_wp2
 go_ret
 exact ⟨by first | rfl | (simp; done) | (simp [*]; done), q_0⟩

/-! ### impl_isShard: function 127 -/
def impl_isShard.f (a0 : Int) : Option (Bool) := (impl_within.f a0 0 2).bind fun t130 => (some t130)
set_option maxHeartbeats 8000000 in
set_option maxRecDepth 100000 in
theorem impl_isShard.calls (a0 : Int) (r : Bool) (w : World) (h : impl_isShard.f a0 = some r) :
  Calls Try.prog 127 #[.int .i64 a0] w fun e w' => e = .returned (.bool r) ∧ Drawn0 w w' := by
 have H : ((impl_within.f a0 0 2).bind fun t130 => (some t130)) = some r := h
 clear h
 replace H := Option.bind_eq_some_iff.mp H
 obtain ⟨t130, A20, H⟩ := H
 replace H : (some t130) = some r := H
 have A2 := Aside0.mk A20
 clear A20
 obtain rfl := Option.some.inj H
 go_enter Try.func127, Try.ntmps127
 go_wp2_with (first | ((with_reducible refine gate_callee (f := 65) rfl ?_); refine goesLq (some 4) rfl rfl Try.func65 (by kernel_rfl) rfl #[.int .i64 a0, .int .i64 0, .int .i64 2] rfl ?_; (with_reducible refine (impl_within.calls a0 0 2 t130 _ A2.out).mono ?_); rintro e w' ⟨rfl, ⟨nd, rfl⟩⟩; refine ⟨_, rfl, ?_⟩))
 go_ret
 exact ⟨by first | rfl | (simp; done) | (simp [*]; done), q_0⟩

/-! ### impl_LegFault: function 116 -/
def impl_LegFault.j0 : Nat → Bool → Int → Int → Int → Int → Option (Int)
  | 0, _, _, _, _, _ => none
  | k + 1, x3, x132000, x132001, x132002, x132003 => if x3 = true then (some 3) else (if x132003 = 0 then (some 1) else (some 0))
def impl_LegFault.f (k : Nat) (a0_0 : Int) (a0_1 : Int) (a0_2 : Int) (a0_3 : Int) : Option (Int) := (impl_isShard.f a0_0).bind fun t132 => (if t132 = true then ((impl_isPlace.f a0_1 a0_2).bind fun t133 => (if t133 = true then ((impl_within.f a0_3 (-1000000000000) 1000000000000).bind fun t134 => (impl_LegFault.j0 k (!t134) a0_0 a0_1 a0_2 a0_3)) else (impl_LegFault.j0 k true a0_0 a0_1 a0_2 a0_3))) else (impl_LegFault.j0 k true a0_0 a0_1 a0_2 a0_3))
set_option maxHeartbeats 8000000 in
set_option maxRecDepth 100000 in
theorem impl_LegFault.calls (k : Nat) (a0_0 : Int) (a0_1 : Int) (a0_2 : Int) (a0_3 : Int) (r : Int) (w : World) (h : impl_LegFault.f k a0_0 a0_1 a0_2 a0_3 = some r) :
  Calls Try.prog 116 #[.agg #[.int .i64 a0_0, .int .i64 a0_1, .int .i64 a0_2, .int .i64 a0_3]] w fun e w' => e = .returned (.int .i64 r) ∧ Below w.heap.size w w' := by
 have hu86 := Try.underlying86
 have HB := Aside0.mk (Below.refl w.heap.size w)
 have H : ((impl_isShard.f a0_0).bind fun t132 => (if t132 = true then ((impl_isPlace.f a0_1 a0_2).bind fun t133 => (if t133 = true then ((impl_within.f a0_3 (-1000000000000) 1000000000000).bind fun t134 => (impl_LegFault.j0 k (!t134) a0_0 a0_1 a0_2 a0_3)) else (impl_LegFault.j0 k true a0_0 a0_1 a0_2 a0_3))) else (impl_LegFault.j0 k true a0_0 a0_1 a0_2 a0_3))) = some r := h
 clear h
 have HC2 := Aside0.mk H
 clear H
 go_enter Try.func116, Try.ntmps116
 go_upto_region 1 with (first | ((with_reducible refine gate_dst (N := 1) rfl ?_); refine q_box (N := 1) (cs := #[.int .i64 a0_0, .int .i64 a0_1, .int .i64 a0_2, .int .i64 a0_3]) (t := 86) ?_; intro gb131 hg w3 hbox hb; have n0_ := Aside0.mk (below_step bq hb); have n1_ := Aside0.mk (hbox); have n2_ := Aside0.mk ((q_g hg bq : w.heap.size ≤ gb131)); have n3_ := Aside0.mk ((q_g hg bq : w.heap.size ≤ gb131)); revert n0_ n1_ n2_ n3_; clear HB; intro HB BK131 GW131 GE131; clear hb hbox hg))
 (try simp only [Act.put, List.setIfInBounds_toArray, List.set_cons_zero, List.set_cons_succ])
 go_cut [3] (fun v3 wc => ∃ (kq : Nat) (x3_1 : Bool), v3 = .bool x3_1 ∧ Aside0 (impl_LegFault.j0 kq x3_1 a0_0 a0_1 a0_2 a0_3 = some r) ∧ Aside0 (kq ≤ k) ∧ Aside0 (wc.heap[gb131]? = some (.cells #[.int .i64 a0_0, .int .i64 a0_1, .int .i64 a0_2, .int .i64 a0_3] 86 (0, 0))) ∧ Aside0 (Below w.heap.size w wc))
 case first =>
  have H := HC2.out
  clear HC2
  replace H := Option.bind_eq_some_iff.mp H
  obtain ⟨t132, A40, H⟩ := H
  replace H : (if t132 = true then ((impl_isPlace.f a0_1 a0_2).bind fun t133 => (if t133 = true then ((impl_within.f a0_3 (-1000000000000) 1000000000000).bind fun t134 => (impl_LegFault.j0 k (!t134) a0_0 a0_1 a0_2 a0_3)) else (impl_LegFault.j0 k true a0_0 a0_1 a0_2 a0_3))) else (impl_LegFault.j0 k true a0_0 a0_1 a0_2 a0_3)) = some r := H
  have A4 := Aside0.mk A40
  clear A40
  by_cases c5 : t132 = true
  ·subst c5
   have H1 : ((impl_isPlace.f a0_1 a0_2).bind fun t133 => (if t133 = true then ((impl_within.f a0_3 (-1000000000000) 1000000000000).bind fun t134 => (impl_LegFault.j0 k (!t134) a0_0 a0_1 a0_2 a0_3)) else (impl_LegFault.j0 k true a0_0 a0_1 a0_2 a0_3))) = some r := by rw [if_pos rfl] at H; exact H
   clear H
   have H := H1
   clear H1
   replace H := Option.bind_eq_some_iff.mp H
   obtain ⟨t133, A60, H⟩ := H
   replace H : (if t133 = true then ((impl_within.f a0_3 (-1000000000000) 1000000000000).bind fun t134 => (impl_LegFault.j0 k (!t134) a0_0 a0_1 a0_2 a0_3)) else (impl_LegFault.j0 k true a0_0 a0_1 a0_2 a0_3)) = some r := H
   have A6 := Aside0.mk A60
   clear A60
   by_cases c7 : t133 = true
   ·subst c7
    have H1 : ((impl_within.f a0_3 (-1000000000000) 1000000000000).bind fun t134 => (impl_LegFault.j0 k (!t134) a0_0 a0_1 a0_2 a0_3)) = some r := by rw [if_pos rfl] at H; exact H
    clear H
    have H := H1
    clear H1
    replace H := Option.bind_eq_some_iff.mp H
    obtain ⟨t134, A80, H⟩ := H
    replace H : (impl_LegFault.j0 k (!t134) a0_0 a0_1 a0_2 a0_3) = some r := H
    have A8 := Aside0.mk A80
    clear A80
    have H' := Aside0.mk H
    clear H
    obtain ⟨hcz9_0, hcz9_1, hcz9_2, hcz9_3, hfz9_0, hfz9_1, hfz9_2, hfz9_3⟩ := q_4 BK131.out
    go_wp2_with (first | ((with_reducible refine gate_callee (f := 127) rfl ?_); refine goesLq (some 6) rfl rfl Try.func127 (by kernel_rfl) rfl #[.int .i64 a0_0] rfl ?_; (with_reducible refine (impl_isShard.calls a0_0 true _ A4.out).mono ?_); rintro e w' ⟨rfl, ⟨nd, rfl⟩⟩; refine ⟨_, rfl, ?_⟩) | (go_at_call 83; (with_reducible refine (impl_isPlace.calls a0_1 a0_2 true _ A6.out).mono ?_); rintro e w' ⟨rfl, ⟨nd, rfl⟩⟩) | (go_at_call 65; (with_reducible refine (impl_within.calls a0_3 (-1000000000000) 1000000000000 t134 _ A8.out).mono ?_); rintro e w' ⟨rfl, ⟨nd, rfl⟩⟩))
    go_meet
    case rel => exact ⟨_, (!t134), q_i, H', ⟨by first | omega | exact Nat.le_refl _⟩, ⟨q_b BK131.out⟩, ⟨bq⟩⟩
   ·replace c7 := Bool.eq_false_iff.mpr c7
    subst c7
    have H1 : (impl_LegFault.j0 k true a0_0 a0_1 a0_2 a0_3) = some r := by rw [if_neg (show ¬ (false = true) by decide)] at H; exact H
    clear H
    have H := H1
    clear H1
    have H' := Aside0.mk H
    clear H
    obtain ⟨hcz10_0, hcz10_1, hcz10_2, hcz10_3, hfz10_0, hfz10_1, hfz10_2, hfz10_3⟩ := q_4 BK131.out
    go_wp2_with (first | ((with_reducible refine gate_callee (f := 127) rfl ?_); refine goesLq (some 6) rfl rfl Try.func127 (by kernel_rfl) rfl #[.int .i64 a0_0] rfl ?_; (with_reducible refine (impl_isShard.calls a0_0 true _ A4.out).mono ?_); rintro e w' ⟨rfl, ⟨nd, rfl⟩⟩; refine ⟨_, rfl, ?_⟩) | (go_at_call 83; (with_reducible refine (impl_isPlace.calls a0_1 a0_2 false _ A6.out).mono ?_); rintro e w' ⟨rfl, ⟨nd, rfl⟩⟩))
    go_meet
    case rel => exact ⟨_, (true), q_i, H', ⟨by first | omega | exact Nat.le_refl _⟩, ⟨q_b BK131.out⟩, ⟨bq⟩⟩
  ·replace c5 := Bool.eq_false_iff.mpr c5
   subst c5
   have H1 : (impl_LegFault.j0 k true a0_0 a0_1 a0_2 a0_3) = some r := by rw [if_neg (show ¬ (false = true) by decide)] at H; exact H
   clear H
   have H := H1
   clear H1
   have H' := Aside0.mk H
   clear H
   obtain ⟨hcz11_0, hcz11_1, hcz11_2, hcz11_3, hfz11_0, hfz11_1, hfz11_2, hfz11_3⟩ := q_4 BK131.out
   go_wp2_with (first | ((with_reducible refine gate_callee (f := 127) rfl ?_); refine goesLq (some 6) rfl rfl Try.func127 (by kernel_rfl) rfl #[.int .i64 a0_0] rfl ?_; (with_reducible refine (impl_isShard.calls a0_0 false _ A4.out).mono ?_); rintro e w' ⟨rfl, ⟨nd, rfl⟩⟩; refine ⟨_, rfl, ?_⟩))
   go_meet
   case rel => exact ⟨_, (true), q_i, H', ⟨by first | omega | exact Nat.le_refl _⟩, ⟨q_b BK131.out⟩, ⟨bq⟩⟩
 case rest =>
  clear HC2
  (try clear c1); (try clear p2); (try clear c5); (try clear c7); (try clear c11); (try clear hcz10_0); (try clear hcz10_1); (try clear hcz10_2); (try clear hcz10_3); (try clear hcz11_0); (try clear hcz11_1)
  (try clear hcz11_2); (try clear hcz11_3); (try clear hcz9_0); (try clear hcz9_1); (try clear hcz9_2); (try clear hcz9_3); (try clear hfz10_0); (try clear hfz10_1); (try clear hfz10_2); (try clear hfz10_3)
  (try clear hfz11_0); (try clear hfz11_1); (try clear hfz11_2); (try clear hfz11_3); (try clear hfz9_0); (try clear hfz9_1); (try clear hfz9_2); (try clear hfz9_3)
  obtain ⟨kq, x3_1, rfl, HA, HJ1, BK131, HB⟩ := hcut
  cases kq with
  | zero => exact absurd HA.out (by simp [impl_LegFault.j0])
  | succ kj1 =>
   have H := HA.out
   clear HA
   simp only [impl_LegFault.j0] at H
   by_cases c12 : x3_1 = true
   ·subst c12
    have H1 : (some 3) = some r := by rw [if_pos rfl] at H; exact H
    clear H
    have H := H1
    clear H1
    obtain rfl := Option.some.inj H
    go_wp2
    go_ret
    exact ⟨q_e, bq⟩
   ·replace c12 := Bool.eq_false_iff.mpr c12
    subst c12
    have H1 : (if a0_3 = 0 then (some 1) else (some 0)) = some r := by rw [if_neg (show ¬ (false = true) by decide)] at H; exact H
    clear H
    have H := H1
    clear H1
    by_cases c13 : a0_3 = 0
    ·rw [if_pos c13] at H
     have c13b0 : (a0_3 == 0) = true := beq_iff_eq.mpr c13
     have c13b1 : (a0_3 != 0) = false := bne_eq_false_iff_eq.mpr c13
     clear c13
     obtain rfl := Option.some.inj H
     obtain ⟨hcz14_0, hcz14_1, hcz14_2, hcz14_3, hfz14_0, hfz14_1, hfz14_2, hfz14_3⟩ := q_4 BK131.out
     go_wp2
     go_ret
     exact ⟨q_e, bq⟩
    ·rw [if_neg c13] at H
     have c13b0 : (a0_3 == 0) = false := beq_eq_false_iff_ne.mpr c13
     have c13b1 : (a0_3 != 0) = true := bne_iff_ne.mpr c13
     obtain rfl := Option.some.inj H
     obtain ⟨hcz15_0, hcz15_1, hcz15_2, hcz15_3, hfz15_0, hfz15_1, hfz15_2, hfz15_3⟩ := q_4 BK131.out
     go_wp2
     go_ret
     exact ⟨q_e, bq⟩

/-! ### impl_samePlace: function 118 -/
def impl_samePlace.f (a0_0 : Int) (a0_1 : Int) (a0_2 : Int) (a0_3 : Int) (a1_0 : Int) (a1_1 : Int) (a1_2 : Int) (a1_3 : Int) : Option (Bool) := if a0_0 = a1_0 then (if a0_1 = a1_1 then (some (a0_2 == a1_2)) else (some false)) else (some false)
set_option maxHeartbeats 8000000 in
set_option maxRecDepth 100000 in
theorem impl_samePlace.calls (a0_0 : Int) (a0_1 : Int) (a0_2 : Int) (a0_3 : Int) (a1_0 : Int) (a1_1 : Int) (a1_2 : Int) (a1_3 : Int) (r : Bool) (w : World) (h : impl_samePlace.f a0_0 a0_1 a0_2 a0_3 a1_0 a1_1 a1_2 a1_3 = some r) :
  Calls Try.prog 118 #[.agg #[.int .i64 a0_0, .int .i64 a0_1, .int .i64 a0_2, .int .i64 a0_3], .agg #[.int .i64 a1_0, .int .i64 a1_1, .int .i64 a1_2, .int .i64 a1_3]] w fun e w' => e = .returned (.bool r) ∧ Below w.heap.size w w' := by
 have hu86 := Try.underlying86
 have HB := Aside0.mk (Below.refl w.heap.size w)
 have H : (if a0_0 = a1_0 then (if a0_1 = a1_1 then (some (a0_2 == a1_2)) else (some false)) else (some false)) = some r := h
 clear h
 by_cases c3 : a0_0 = a1_0
 ·rw [if_pos c3] at H
  have c3b0 : (a0_0 == a1_0) = true := beq_iff_eq.mpr c3
  have c3b1 : (a0_0 != a1_0) = false := bne_eq_false_iff_eq.mpr c3
  clear c3
  by_cases c4 : a0_1 = a1_1
  ·rw [if_pos c4] at H
   have c4b0 : (a0_1 == a1_1) = true := beq_iff_eq.mpr c4
   have c4b1 : (a0_1 != a1_1) = false := bne_eq_false_iff_eq.mpr c4
   clear c4
   obtain rfl := Option.some.inj H
   go_enter Try.func118, Try.ntmps118
   go_wp2_with (first | ((with_reducible refine gate_dst (N := 2) rfl ?_); refine q_box (N := 2) (cs := #[.int .i64 a0_0, .int .i64 a0_1, .int .i64 a0_2, .int .i64 a0_3]) (t := 86) ?_; intro gb135 hg w5 hbox hb; have n0_ := Aside0.mk (below_step bq hb); have n1_ := Aside0.mk (hbox); have n2_ := Aside0.mk ((q_g hg bq : w.heap.size ≤ gb135)); have n3_ := Aside0.mk ((q_g hg bq : w.heap.size ≤ gb135)); revert n0_ n1_ n2_ n3_; clear HB; intro HB BK135 GW135 GE135; clear hb hbox hg) | ((with_reducible refine gate_dst (N := 3) rfl ?_); refine q_box (N := 3) (cs := #[.int .i64 a1_0, .int .i64 a1_1, .int .i64 a1_2, .int .i64 a1_3]) (t := 86) ?_; intro gb136 hg w6 hbox hb; have n0_ := Aside0.mk (blk_below (q_b BK135.out) hb); have n1_ := Aside0.mk (below_step bq hb); have n2_ := Aside0.mk (hbox); have n3_ := Aside0.mk ((q_g hg bq : w.heap.size ≤ gb136)); have n4_ := Aside0.mk ((q_g hg bq : w.heap.size ≤ gb136)); have n5_ := Aside0.mk ((q_n hg (q_b BK135.out) : gb135 ≠ gb136)); have n6_ := Aside0.mk ((q_m hg (q_b BK135.out) : gb136 ≠ gb135)); revert n0_ n1_ n2_ n3_ n4_ n5_ n6_; clear BK135 HB; intro BK135 HB BK136 GW136 GE136 NB135_136 NB136_135; clear hb hbox hg; have hnb7 := NB135_136.out; have hnc7 := NB136_135.out; obtain ⟨hcz8_0, hcz8_1, hcz8_2, hcz8_3, hfz8_0, hfz8_1, hfz8_2, hfz8_3⟩ := q_4 BK135.out; obtain ⟨hcz9_0, hcz9_1, hcz9_2, hcz9_3, hfz9_0, hfz9_1, hfz9_2, hfz9_3⟩ := q_4 BK136.out))
   go_ret
   exact ⟨q_e, bq⟩
  ·rw [if_neg c4] at H
   have c4b0 : (a0_1 == a1_1) = false := beq_eq_false_iff_ne.mpr c4
   have c4b1 : (a0_1 != a1_1) = true := bne_iff_ne.mpr c4
   obtain rfl := Option.some.inj H
   go_enter Try.func118, Try.ntmps118
   go_wp2_with (first | ((with_reducible refine gate_dst (N := 2) rfl ?_); refine q_box (N := 2) (cs := #[.int .i64 a0_0, .int .i64 a0_1, .int .i64 a0_2, .int .i64 a0_3]) (t := 86) ?_; intro gb135 hg w10 hbox hb; have n0_ := Aside0.mk (below_step bq hb); have n1_ := Aside0.mk (hbox); have n2_ := Aside0.mk ((q_g hg bq : w.heap.size ≤ gb135)); have n3_ := Aside0.mk ((q_g hg bq : w.heap.size ≤ gb135)); revert n0_ n1_ n2_ n3_; clear HB; intro HB BK135 GW135 GE135; clear hb hbox hg) | ((with_reducible refine gate_dst (N := 3) rfl ?_); refine q_box (N := 3) (cs := #[.int .i64 a1_0, .int .i64 a1_1, .int .i64 a1_2, .int .i64 a1_3]) (t := 86) ?_; intro gb136 hg w11 hbox hb; have n0_ := Aside0.mk (blk_below (q_b BK135.out) hb); have n1_ := Aside0.mk (below_step bq hb); have n2_ := Aside0.mk (hbox); have n3_ := Aside0.mk ((q_g hg bq : w.heap.size ≤ gb136)); have n4_ := Aside0.mk ((q_g hg bq : w.heap.size ≤ gb136)); have n5_ := Aside0.mk ((q_n hg (q_b BK135.out) : gb135 ≠ gb136)); have n6_ := Aside0.mk ((q_m hg (q_b BK135.out) : gb136 ≠ gb135)); revert n0_ n1_ n2_ n3_ n4_ n5_ n6_; clear BK135 HB; intro BK135 HB BK136 GW136 GE136 NB135_136 NB136_135; clear hb hbox hg; have hnb12 := NB135_136.out; have hnc12 := NB136_135.out; obtain ⟨hcz13_0, hcz13_1, hcz13_2, hcz13_3, hfz13_0, hfz13_1, hfz13_2, hfz13_3⟩ := q_4 BK135.out; obtain ⟨hcz14_0, hcz14_1, hcz14_2, hcz14_3, hfz14_0, hfz14_1, hfz14_2, hfz14_3⟩ := q_4 BK136.out))
   go_ret
   exact ⟨q_e, bq⟩
 ·rw [if_neg c3] at H
  have c3b0 : (a0_0 == a1_0) = false := beq_eq_false_iff_ne.mpr c3
  have c3b1 : (a0_0 != a1_0) = true := bne_iff_ne.mpr c3
  obtain rfl := Option.some.inj H
  go_enter Try.func118, Try.ntmps118
  go_wp2_with (first | ((with_reducible refine gate_dst (N := 2) rfl ?_); refine q_box (N := 2) (cs := #[.int .i64 a0_0, .int .i64 a0_1, .int .i64 a0_2, .int .i64 a0_3]) (t := 86) ?_; intro gb135 hg w15 hbox hb; have n0_ := Aside0.mk (below_step bq hb); have n1_ := Aside0.mk (hbox); have n2_ := Aside0.mk ((q_g hg bq : w.heap.size ≤ gb135)); have n3_ := Aside0.mk ((q_g hg bq : w.heap.size ≤ gb135)); revert n0_ n1_ n2_ n3_; clear HB; intro HB BK135 GW135 GE135; clear hb hbox hg) | ((with_reducible refine gate_dst (N := 3) rfl ?_); refine q_box (N := 3) (cs := #[.int .i64 a1_0, .int .i64 a1_1, .int .i64 a1_2, .int .i64 a1_3]) (t := 86) ?_; intro gb136 hg w16 hbox hb; have n0_ := Aside0.mk (blk_below (q_b BK135.out) hb); have n1_ := Aside0.mk (below_step bq hb); have n2_ := Aside0.mk (hbox); have n3_ := Aside0.mk ((q_g hg bq : w.heap.size ≤ gb136)); have n4_ := Aside0.mk ((q_g hg bq : w.heap.size ≤ gb136)); have n5_ := Aside0.mk ((q_n hg (q_b BK135.out) : gb135 ≠ gb136)); have n6_ := Aside0.mk ((q_m hg (q_b BK135.out) : gb136 ≠ gb135)); revert n0_ n1_ n2_ n3_ n4_ n5_ n6_; clear BK135 HB; intro BK135 HB BK136 GW136 GE136 NB135_136 NB136_135; clear hb hbox hg; have hnb17 := NB135_136.out; have hnc17 := NB136_135.out; obtain ⟨hcz18_0, hcz18_1, hcz18_2, hcz18_3, hfz18_0, hfz18_1, hfz18_2, hfz18_3⟩ := q_4 BK135.out; obtain ⟨hcz19_0, hcz19_1, hcz19_2, hcz19_3, hfz19_0, hfz19_1, hfz19_2, hfz19_3⟩ := q_4 BK136.out))
  go_ret
  exact ⟨q_e, bq⟩

end Go.Proofs.Ytanegggacfmkcaa.PFnExactSettleOne
