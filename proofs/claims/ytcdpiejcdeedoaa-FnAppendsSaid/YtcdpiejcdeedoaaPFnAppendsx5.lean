/- The functions that a law reaches, each as a plain Lean function with the proof that the machine comes to its answer: written by program (the kit's print, turned by wip/gen). No conditions. -/
import Derived.Test.YtcdpiejcdeedoaaPFnAppendsx0
import Derived.Test.YtcdpiejcdeedoaaPFnAppendsx3
import Derived.Test.YtcdpiejcdeedoaaPFnAppendsx4
namespace Go.Proofs.Ytcdpiejcdeedoaa.PFnAppends
open Go.RowKit Go.Proofs.YtcdpiejcdeedoaaW.PrintWords Go.Proofs.YtcdpiejcdeedoaaW.PrintLast Go.Proofs.YtcdpiejcdeedoaaW.PrintMore
attribute [local go_sem] max2_int min2_int max_two min_two max_three min_three max_four min_four   -- for this text's walks alone
set_option linter.unusedVariables false
set_option linter.unusedSimpArgs false

/-! ### impl_unframe: function 59 -/
def impl_unframe.j0 : Nat → List Int → Int → Bool → Option (List Int × Bool)
  | 0, _, _, _ => none
  | k + 1, x0, x4, x28 => if x28 = true then (some (([] : List Int), false)) else (if 4 ≤ (wrap64 (4 + x4)) then (if (wrap64 (4 + x4)) ≤ (x0.length : Int) then ((some ((x0.take ((wrap64 (4 + x4)) : Int).toNat).drop 4 : List Int)).bind fun y252 => (if 2 ≤ 4 then (if 4 ≤ (x0.length : Int) then ((impl_CheckOf.f k y252).bind fun t262 => ((impl_pair.f t262).bind fun t263 => ((bytes_Equal.f ((x0.take 4).drop 2) t263).bind fun t266 => (some (y252, t266))))) else (none)) else (none))) else (none)) else (none))
def impl_unframe.f (k : Nat) (l0 : List Int) : Option (List Int × Bool) := if (l0.length : Int) < 4 then (some (([] : List Int), false)) else (if 0 < (l0.length : Int) then (if 1 < (l0.length : Int) then ((impl_within.f (wrap64 ((wrap64 ((wrap64 (rd l0 0)) * 256)) + (wrap64 (rd l0 1)))) 1 500).bind fun t251 => (if t251 = true then (impl_unframe.j0 k l0 (wrap64 ((wrap64 ((wrap64 (rd l0 0)) * 256)) + (wrap64 (rd l0 1)))) (decide ((l0.length : Int) < (wrap64 (4 + (wrap64 ((wrap64 ((wrap64 (rd l0 0)) * 256)) + (wrap64 (rd l0 1))))))))) else (impl_unframe.j0 k l0 (wrap64 ((wrap64 ((wrap64 (rd l0 0)) * 256)) + (wrap64 (rd l0 1)))) true))) else (none)) else (none))
def impl_unframe.T3 : Bool × List (List Nat × List Nat) := (true, [([], []), ([0], [0]), ([1], [1]), ([2], [2]), ([3], [3]), ([], []), ([5], [5]), ([6], [6]), ([7], [7]), ([4, 8], [4, 8]), ([9, 0, 1, 2, 3, 4, 5, 6, 7, 8, 9], [9])])
def impl_unframe.B3 : List Nat := [0, 1, 3, 7, 15, 0, 32, 96, 224, 511, 1023]
theorem impl_unframe.tab3 : rtab .any (opsOf Try.f59 3) = impl_unframe.T3 := by kernel_rfl
theorem impl_unframe.bits3 : waitsOk impl_unframe.T3.2 impl_unframe.B3 = true := by kernel_rfl
def impl_unframe.T7 : Bool × List (List Nat × List Nat) := (true, [([], []), ([], []), ([1], [1]), ([], []), ([3], [3]), ([4, 4], [4]), ([2, 5, 5], [2, 5]), ([0, 6, 0], [0]), ([6, 7, 0, 1, 2, 3, 4, 5, 6, 7], [6])])
def impl_unframe.B7 : List Nat := [0, 0, 2, 0, 8, 24, 62, 127, 255]
theorem impl_unframe.tab7 : rtab .any (opsOf Try.f59 7) = impl_unframe.T7 := by kernel_rfl
theorem impl_unframe.bits7 : waitsOk impl_unframe.T7.2 impl_unframe.B7 = true := by kernel_rfl
set_option maxHeartbeats 8000000 in
set_option maxRecDepth 100000 in
theorem impl_unframe.calls (k : Nat) (P0_ : Nat → Prop) (A0 : Option Addr) (c0 : Nat) (l0 : List Int) (r1 : List Int) (r2 : Bool) (w : World) (hs0 : Kd.V (Kd.int .u8) 5 w w.heap.size (fun k_ => P0_ k_) (.slice A0 l0.length c0) l0) (h : impl_unframe.f k l0 = some (r1, r2)) :
  Calls Try.prog 59 #[.slice A0 l0.length c0] w fun e w' => ∃ v0_ : Value, e = .returned (.tuple #[v0_, .bool r2]) ∧ Kd.V (Kd.int .u8) 5 w' w.heap.size (fun k_ => (P0_ k_ ∨ w.heap.size ≤ k_)) v0_ r1 ∧ Below w.heap.size w w' := by
 have HO0 := Aside0.mk (show Kd.V (Kd.int .u8) 5 w w.heap.size (fun k_ => (P0_ k_ ∨ w.heap.size ≤ k_)) (.slice A0 l0.length c0) l0 from Kd.V_mono hs0 (fun k_ hk => .inl hk))
 have HB := Aside0.mk (Below.refl w.heap.size w)
 have H : (if (l0.length : Int) < 4 then (some (([] : List Int), false)) else (if 0 < (l0.length : Int) then (if 1 < (l0.length : Int) then ((impl_within.f (wrap64 ((wrap64 ((wrap64 (rd l0 0)) * 256)) + (wrap64 (rd l0 1)))) 1 500).bind fun t251 => (if t251 = true then (impl_unframe.j0 k l0 (wrap64 ((wrap64 ((wrap64 (rd l0 0)) * 256)) + (wrap64 (rd l0 1)))) (decide ((l0.length : Int) < (wrap64 (4 + (wrap64 ((wrap64 ((wrap64 (rd l0 0)) * 256)) + (wrap64 (rd l0 1))))))))) else (impl_unframe.j0 k l0 (wrap64 ((wrap64 ((wrap64 (rd l0 0)) * 256)) + (wrap64 (rd l0 1)))) true))) else (none)) else (none))) = some (r1, r2) := h
 clear h
 by_cases c2 : (l0.length : Int) < 4
 ·rw [if_pos c2] at H
  have c2b0 := decide_eq_true c2
  have c2b1 : decide (l0.length < 4) = true := decide_eq_true (by omega)
  clear c2
  simp only [Option.some.injEq, Prod.mk.injEq] at H
  obtain ⟨rfl, rfl⟩ := H
  go_enter Try.func59, Try.ntmps59
  go_wp2
  go_ret2
  exact ⟨.slice none 0 0, q_e, Kd.V_nil _ _ _ _ _, bq⟩
 ·rw [if_neg c2] at H
  have c2b0 := decide_eq_false c2
  have c2b1 : decide (l0.length < 4) = false := decide_eq_false (by omega)
  clear c2
  by_cases c3 : 0 < (l0.length : Int)
  ·rw [if_pos c3] at H
   have c3b0 := decide_eq_true c3
   have c3b1 : decide (0 < l0.length) = true := decide_eq_true (by omega)
   clear c3
   by_cases c4 : 1 < (l0.length : Int)
   ·rw [if_pos c4] at H
    have c4b0 := decide_eq_true c4
    have c4b1 : decide (1 < l0.length) = true := decide_eq_true (by omega)
    clear c4
    have HC5 := Aside0.mk H
    clear H
    go_enter Try.func59, Try.ntmps59
    try go_wp2
    have n0_ := Aside0.mk (Kd.V_drew HO0.out)
    have n1_ := Aside0.mk (below_drew1 HB.out)
    clear HO0
    clear HB
    have HO0 := n0_
    have HB := n1_
    clear n0_ n1_
    have p249 : 0 ≤ (0 : Int) := (by omega)
    have q249 : 0 < (l0.length : Int) := q_d
    obtain ⟨ad249, e249, hx249_0⟩ := Kd.at_int (Kd.V_reads' HO0.out).2.2 0 p249 q249
    cases e249
    have qi249 : (0 < l0.length) = True := eq_true (by omega)
    (try rw [show ((0 : Int)).toNat = 0 from rfl] at hx249_0)
    (try rw [Addr.add_zero'] at hx249_0)
    replace p249 := eq_true p249
    replace q249 := eq_true q249
    have p250 : 0 ≤ (1 : Int) := (by omega)
    have q250 : 1 < (l0.length : Int) := q_d
    obtain ⟨ad250, e250, hx250_0⟩ := Kd.at_int (Kd.V_reads' HO0.out).2.2 1 p250 q250
    obtain rfl : ad249 = ad250 := (by injection e250)
    (try simp only [show (1 : Int).toNat = 1 from rfl, Nat.reduceMul, Nat.reduceEqDiff, Go.Addr.add, ↓reduceIte] at hx250_0)
    have qi250 : (1 < l0.length) = True := eq_true (by omega)
    (try rw [show ((1 : Int)).toNat = 1 from rfl] at hx250_0)
    replace p250 := eq_true p250
    replace q250 := eq_true q250
    refine start_ (n := 11) (S := fun w' => w'.cell? ad249 = some (.int .u8 (rd l0 0)) ∧ w'.cell? ⟨ad249.block, ad249.off + 1, none⟩ = some (.int .u8 (rd l0 1))) (ds := []) #[false, false, false, false, false, false, false, false, false, false, false] (by kernel_rfl) rfl rfl ⟨hx249_0, hx250_0⟩ (fun hHeld => ?_); refine with_tabW impl_unframe.tab3 impl_unframe.bits3 (fun HT_ HW_ => ?_)
    generalize w.drew = w6 at HO0 HB hx249_0 hx250_0 hHeld ⊢
    refine q_p 0 (some 9) #[true, false, false, false, false, false, false, false, false, false, false] HT_.out ?_
    refine q_p 1 (some 10) #[true, true, false, false, false, false, false, false, false, false, false] HT_.out ?_
    refine q_p 5 (some 14) #[true, true, false, false, false, true, false, false, false, false, false] HT_.out ?_
    refine q_p 6 (some 15) #[true, true, false, false, false, true, true, false, false, false, false] HT_.out ?_
    refine q_t 2 (some 11) #[true, true, true, false, false, true, true, false, false, false, false] HT_.out HW_.out hHeld ?_
    refine q_p 3 (some 12) #[true, true, true, true, false, true, true, false, false, false, false] HT_.out ?_
    refine q_p 4 (some 13) #[true, true, true, true, true, true, true, false, false, false, false] HT_.out ?_
    refine q_t 7 (some 16) #[true, true, true, true, true, true, true, true, false, false, false] HT_.out HW_.out hHeld ?_
    refine q_p 8 (some 17) #[true, true, true, true, true, true, true, true, true, false, false] HT_.out ?_
    refine q_p 9 (some 18) #[true, true, true, true, true, true, true, true, true, true, false] HT_.out ?_
    refine q_p 10 (some 4) #[true, true, true, true, true, true, true, true, true, true, true] HT_.out ?_
    refine done_ (done_of HT_.out (by kernel_rfl)) ?_
    go_upto_region 4 with (fail)
    go_cut [28] (fun v28 wc => ∃ (kq : Nat) (x28_4 : Bool), v28 = .bool x28_4 ∧ Aside0 (impl_unframe.j0 kq l0 (wrap64 ((wrap64 ((wrap64 (rd l0 0)) * 256)) + (wrap64 (rd l0 1)))) x28_4 = some (r1, r2)) ∧ Aside0 (kq ≤ k) ∧ Aside0 (Kd.V (Kd.int .u8) 5 wc w.heap.size (fun k_ => (P0_ k_ ∨ w.heap.size ≤ k_)) (.slice (some ad249) l0.length c0) l0) ∧ Aside0 (Below w.heap.size w wc))
    case first =>
     have H := HC5.out
     clear HC5
     replace H := Option.bind_eq_some_iff.mp H
     obtain ⟨t251, A70, H⟩ := H
     replace H : (if t251 = true then (impl_unframe.j0 k l0 (wrap64 ((wrap64 ((wrap64 (rd l0 0)) * 256)) + (wrap64 (rd l0 1)))) (decide ((l0.length : Int) < (wrap64 (4 + (wrap64 ((wrap64 ((wrap64 (rd l0 0)) * 256)) + (wrap64 (rd l0 1))))))))) else (impl_unframe.j0 k l0 (wrap64 ((wrap64 ((wrap64 (rd l0 0)) * 256)) + (wrap64 (rd l0 1)))) true)) = some (r1, r2) := H
     have A7 := Aside0.mk A70
     clear A70
     by_cases c8 : t251 = true
     ·subst c8
      have H1 : (impl_unframe.j0 k l0 (wrap64 ((wrap64 ((wrap64 (rd l0 0)) * 256)) + (wrap64 (rd l0 1)))) (decide ((l0.length : Int) < (wrap64 (4 + (wrap64 ((wrap64 ((wrap64 (rd l0 0)) * 256)) + (wrap64 (rd l0 1))))))))) = some (r1, r2) := by rw [if_pos rfl] at H; exact H
      clear H
      have H := H1
      clear H1
      have H' := Aside0.mk H
      clear H
      go_wp2_with (first | ((with_reducible refine gate_callee (f := 53) rfl ?_); refine goesLq (some 20) rfl rfl Try.func53 (by kernel_rfl) rfl #[.int .i64 (wrap64 ((wrap64 ((wrap64 (rd l0 0)) * 256)) + (wrap64 (rd l0 1)))), .int .i64 1, .int .i64 500] rfl ?_; (with_reducible refine (impl_within.calls (wrap64 ((wrap64 ((wrap64 (rd l0 0)) * 256)) + (wrap64 (rd l0 1)))) 1 500 true _ A7.out).mono ?_); rintro e w' ⟨rfl, ⟨nd, rfl⟩⟩; refine ⟨_, rfl, ?_⟩))
      go_meet
      case rel => exact ⟨_, (decide ((l0.length : Int) < (wrap64 (4 + (wrap64 ((wrap64 ((wrap64 (rd l0 0)) * 256)) + (wrap64 (rd l0 1)))))))), q_i, H', ⟨by first | omega | exact Nat.le_refl _⟩, ⟨q_v (HO0.out)⟩, ⟨bq⟩⟩
     ·replace c8 := Bool.eq_false_iff.mpr c8
      subst c8
      have H1 : (impl_unframe.j0 k l0 (wrap64 ((wrap64 ((wrap64 (rd l0 0)) * 256)) + (wrap64 (rd l0 1)))) true) = some (r1, r2) := by rw [if_neg (show ¬ (false = true) by decide)] at H; exact H
      clear H
      have H := H1
      clear H1
      have H' := Aside0.mk H
      clear H
      go_wp2_with (first | ((with_reducible refine gate_callee (f := 53) rfl ?_); refine goesLq (some 20) rfl rfl Try.func53 (by kernel_rfl) rfl #[.int .i64 (wrap64 ((wrap64 ((wrap64 (rd l0 0)) * 256)) + (wrap64 (rd l0 1)))), .int .i64 1, .int .i64 500] rfl ?_; (with_reducible refine (impl_within.calls (wrap64 ((wrap64 ((wrap64 (rd l0 0)) * 256)) + (wrap64 (rd l0 1)))) 1 500 false _ A7.out).mono ?_); rintro e w' ⟨rfl, ⟨nd, rfl⟩⟩; refine ⟨_, rfl, ?_⟩))
      go_meet
      case rel => exact ⟨_, (true), q_i, H', ⟨by first | omega | exact Nat.le_refl _⟩, ⟨q_v (HO0.out)⟩, ⟨bq⟩⟩
    case rest =>
     clear HC5
     (try clear c2); (try clear c2b0); (try clear c2b1); (try clear p2); (try clear q2); (try clear hx2); (try clear qi2); (try clear c3); (try clear c3b0); (try clear c3b1); (try clear c4); (try clear c4b0)
     (try clear c4b1); (try clear c5); (try clear p6); (try clear c8); (try clear hx249_0); (try clear hx250_0); (try clear p249); (try clear p250); (try clear q249); (try clear q250)
     obtain ⟨kq, x28_4, rfl, HA, HJ4, HO_0, HB⟩ := hcut
     cases kq with
     | zero => exact absurd HA.out (by simp [impl_unframe.j0])
     | succ kj4 =>
      have H := HA.out
      clear HA
      simp only [impl_unframe.j0] at H
      by_cases c9 : x28_4 = true
      ·subst c9
       have H1 : (some (([] : List Int), false)) = some (r1, r2) := by rw [if_pos rfl] at H; exact H
       clear H
       have H := H1
       clear H1
       simp only [Option.some.injEq, Prod.mk.injEq] at H
       obtain ⟨rfl, rfl⟩ := H
       go_wp2
       go_ret2
       exact ⟨.slice none 0 0, q_e, Kd.V_nil _ _ _ _ _, bq⟩
      ·replace c9 := Bool.eq_false_iff.mpr c9
       subst c9
       have H1 : (if 4 ≤ (wrap64 (4 + (wrap64 ((wrap64 ((wrap64 (rd l0 0)) * 256)) + (wrap64 (rd l0 1)))))) then (if (wrap64 (4 + (wrap64 ((wrap64 ((wrap64 (rd l0 0)) * 256)) + (wrap64 (rd l0 1)))))) ≤ (l0.length : Int) then ((some ((l0.take ((wrap64 (4 + (wrap64 ((wrap64 ((wrap64 (rd l0 0)) * 256)) + (wrap64 (rd l0 1)))))) : Int).toNat).drop 4 : List Int)).bind fun y252 => (if 2 ≤ 4 then (if 4 ≤ (l0.length : Int) then ((impl_CheckOf.f kj4 y252).bind fun t262 => ((impl_pair.f t262).bind fun t263 => ((bytes_Equal.f ((l0.take 4).drop 2) t263).bind fun t266 => (some (y252, t266))))) else (none)) else (none))) else (none)) else (none)) = some (r1, r2) := by rw [if_neg (show ¬ (false = true) by decide)] at H; exact H
       clear H
       have H := H1
       clear H1
       by_cases c10 : 4 ≤ (wrap64 (4 + (wrap64 ((wrap64 ((wrap64 (rd l0 0)) * 256)) + (wrap64 (rd l0 1))))))
       ·rw [if_pos c10] at H
        have c10b0 := eq_true c10
        have c10b1 := decide_eq_true c10
        by_cases c11 : (wrap64 (4 + (wrap64 ((wrap64 ((wrap64 (rd l0 0)) * 256)) + (wrap64 (rd l0 1)))))) ≤ (l0.length : Int)
        ·rw [if_pos c11] at H
         have c11b0 := eq_true c11
         have c11b1 := decide_eq_true c11
         obtain ⟨y252, hy252⟩ : ∃ y_ : List Int, y_ = ((l0.take ((wrap64 (4 + (wrap64 ((wrap64 ((wrap64 (rd l0 0)) * 256)) + (wrap64 (rd l0 1)))))) : Int).toNat).drop 4) := ⟨_, rfl⟩
         replace H : (if 2 ≤ 4 then (if 4 ≤ (l0.length : Int) then ((impl_CheckOf.f kj4 y252).bind fun t262 => ((impl_pair.f t262).bind fun t263 => ((bytes_Equal.f ((l0.take 4).drop 2) t263).bind fun t266 => (some (y252, t266))))) else (none)) else (none)) = some (r1, r2) := q_h hy252 H
         have Ny252 := Aside0.mk hy252
         clear hy252
         by_cases c12 : 2 ≤ 4
         ·rw [if_pos c12] at H
          have c12b0 := eq_true c12
          have c12b1 := decide_eq_true c12
          clear c12
          by_cases c13 : 4 ≤ (l0.length : Int)
          ·rw [if_pos c13] at H
           have c13b0 := eq_true c13
           have c13b1 := decide_eq_true c13
           clear c13
           obtain ⟨y257, hy257⟩ : ∃ y_ : List Int, y_ = ((l0.take 4).drop 2) := ⟨_, rfl⟩
           replace H : ((impl_CheckOf.f kj4 y252).bind fun t262 => ((impl_pair.f t262).bind fun t263 => ((bytes_Equal.f y257 t263).bind fun t266 => (some (y252, t266))))) = some (r1, r2) := q_h hy257 H
           have Ny257 := Aside0.mk hy257
           clear hy257
           replace H := Option.bind_eq_some_iff.mp H
           obtain ⟨t262, A140, H⟩ := H
           replace H : ((impl_pair.f t262).bind fun t263 => ((bytes_Equal.f y257 t263).bind fun t266 => (some (y252, t266)))) = some (r1, r2) := H
           have A14 := Aside0.mk A140
           clear A140
           replace H := Option.bind_eq_some_iff.mp H
           obtain ⟨t263, A150, H⟩ := H
           replace H : ((bytes_Equal.f y257 t263).bind fun t266 => (some (y252, t266))) = some (r1, r2) := H
           have A15 := Aside0.mk A150
           clear A150
           replace H := Option.bind_eq_some_iff.mp H
           obtain ⟨t266, A160, H⟩ := H
           replace H : (some (y252, t266)) = some (r1, r2) := H
           have A16 := Aside0.mk A160
           clear A160
           simp only [Option.some.injEq, Prod.mk.injEq] at H
           obtain ⟨rfl, rfl⟩ := H
           have q17 : ((wrap64 (4 + (wrap64 ((wrap64 ((wrap64 (rd l0 0)) * 256)) + (wrap64 (rd l0 1)))))) : Int) ≤ ((l0.length : Int) : Int) := q_d
           obtain ⟨i017, hi017, _, hsz17, _⟩ := info_parts info5
           have hroom17 : l0.length ≤ c0 := (Kd.V_reads' HO_0.out).2.1
           have hC17 : Kd.F (Kd.int .u8) _ _ (some ad249) l0.length l0 := (Kd.V_at (base := w.heap.size) HO_0.out).2.2
           have ql17 : (4 : Int) ≤ ((wrap64 (4 + (wrap64 ((wrap64 ((wrap64 (rd l0 0)) * 256)) + (wrap64 (rd l0 1)))))) : Int) := q_d
           have hcut17 := cut_mid (P := Try.prog) 22 5 .i64 .i64 Try.underlying22 hi017 1 hsz17 (some ad249) l0.length c0 4 (wrap64 (4 + (wrap64 ((wrap64 ((wrap64 (rd l0 0)) * 256)) + (wrap64 (rd l0 1)))))) (by omega) ql17 q17 hroom17
           have hr17 := Kd.F_mid (lo := (4 : Int).toNat) (hi := ((wrap64 (4 + (wrap64 ((wrap64 ((wrap64 (rd l0 0)) * 256)) + (wrap64 (rd l0 1)))))) : Int).toNat) (c := c0) hC17 (by omega) (by omega) hroom17
           obtain ⟨A17, hA17⟩ : ∃ A1, A1 = (if c0 = (4 : Int).toNat then (some ad249) else ((some ad249) : Option Addr).map (·.add ((4 : Int).toNat * 1))) := ⟨_, rfl⟩
           obtain ⟨c17, hc17⟩ : ∃ c1, c1 = c0 - (4 : Int).toNat := ⟨_, rfl⟩
           have hy17 : y252.length = ((wrap64 (4 + (wrap64 ((wrap64 ((wrap64 (rd l0 0)) * 256)) + (wrap64 (rd l0 1)))))) : Int).toNat - (4 : Int).toNat := (by rw [Ny252.out, List.length_drop, List.length_take] <;> omega)
           rw [show ((l0).take ((wrap64 (4 + (wrap64 ((wrap64 ((wrap64 (rd l0 0)) * 256)) + (wrap64 (rd l0 1)))))) : Int).toNat).drop (4 : Int).toNat = y252 from Ny252.out.symm] at hr17
           replace hr17 : Kd.F (Kd.int .u8) _ _ A17 y252.length y252 := (by rw [hA17]; exact hr17)
           rw [← hy17, ← hA17, ← hc17] at hcut17
           have HO256 := Aside0.mk (show Kd.V (Kd.int .u8) 5 _ w.heap.size _ (.slice A17 y252.length c17) y252 from Kd.V_mk (by rw [hy17, hc17]; exact Nat.sub_le_sub_right (Nat.le_trans (by omega) hroom17) _) hr17)
           have HC256 := Aside0.mk (show y252.length ≤ c17 from by rw [hy17, hc17]; exact Nat.sub_le_sub_right (Nat.le_trans (by omega) hroom17) _)
           clear hr17 hC17 hroom17 hi017 hsz17 hc17
           have KY17 := Aside0.mk hy17
           have KA17 := Aside0.mk hA17
           clear hy17 hA17
           replace q17 := eq_true q17
           try go_wp2
           have n0_ := Aside0.mk (Kd.V_drew HO_0.out)
           have n1_ := Aside0.mk (Kd.V_drew HO256.out)
           have n2_ := Aside0.mk (below_drew1 HB.out)
           clear HO_0
           clear HO256
           clear HB
           have HO_0 := n0_
           have HO256 := n1_
           have HB := n2_
           clear n0_ n1_ n2_
           have q19 : (4 : Int) ≤ ((l0.length : Int) : Int) := q_d
           obtain ⟨i019, hi019, _, hsz19, _⟩ := info_parts info5
           have hroom19 : l0.length ≤ c0 := (Kd.V_reads' HO_0.out).2.1
           have hC19 : Kd.F (Kd.int .u8) _ _ (some ad249) l0.length l0 := (Kd.V_at (base := w.heap.size) HO_0.out).2.2
           have ql19 : (2 : Int) ≤ (4 : Int) := (by omega)
           have hcut19 := cut_mid (P := Try.prog) 22 5 .i64 .i64 Try.underlying22 hi019 1 hsz19 (some ad249) l0.length c0 2 4 (by omega) ql19 q19 hroom19
           have hr19 := Kd.F_mid (lo := (2 : Int).toNat) (hi := (4 : Int).toNat) (c := c0) hC19 (by omega) (by omega) hroom19
           obtain ⟨A19, hA19⟩ : ∃ A1, A1 = (if c0 = (2 : Int).toNat then (some ad249) else ((some ad249) : Option Addr).map (·.add ((2 : Int).toNat * 1))) := ⟨_, rfl⟩
           obtain ⟨c19, hc19⟩ : ∃ c1, c1 = c0 - (2 : Int).toNat := ⟨_, rfl⟩
           have hy19 : y257.length = (4 : Int).toNat - (2 : Int).toNat := (by rw [Ny257.out, List.length_drop, List.length_take] <;> omega)
           rw [show ((l0).take (4 : Int).toNat).drop (2 : Int).toNat = y257 from Ny257.out.symm] at hr19
           replace hr19 : Kd.F (Kd.int .u8) _ _ A19 y257.length y257 := (by rw [hA19]; exact hr19)
           rw [← hy19, ← hA19, ← hc19] at hcut19
           have HO261 := Aside0.mk (show Kd.V (Kd.int .u8) 5 _ w.heap.size _ (.slice A19 y257.length c19) y257 from Kd.V_mk (by rw [hy19, hc19]; exact Nat.sub_le_sub_right (Nat.le_trans (by omega) hroom19) _) hr19)
           have HC261 := Aside0.mk (show y257.length ≤ c19 from by rw [hy19, hc19]; exact Nat.sub_le_sub_right (Nat.le_trans (by omega) hroom19) _)
           clear hr19 hC19 hroom19 hi019 hsz19 hc19
           have KY19 := Aside0.mk hy19
           have KA19 := Aside0.mk hA19
           clear hy19 hA19
           replace q19 := eq_true q19
           refine start_ (n := 9) (S := fun w' => True) (ds := []) #[false, false, false, false, false, false, false, false, false] (by kernel_rfl) rfl rfl trivial (fun hHeld => ?_); refine with_tabW impl_unframe.tab7 impl_unframe.bits7 (fun HT_ HW_ => ?_)
           generalize wc.drew = w18 at HO_0 HO256 HB HO261 hHeld ⊢
           refine q_p 0 (some 33) #[true, false, false, false, false, false, false, false, false] HT_.out ?_
           refine q_p 1 (some 34) #[true, true, false, false, false, false, false, false, false] HT_.out ?_
           refine q_p 2 (some 35) #[true, true, true, false, false, false, false, false, false] HT_.out ?_
           refine q_p 3 (some 36) #[true, true, true, true, false, false, false, false, false] HT_.out ?_
           refine one_ (i := 4) (N := some 37) #[true, true, true, true, true, false, false, false, false] rfl rfl (one_of HT_.out (by kernel_rfl)) (by decide) (fun K hK => ?_)
           refine goes_ Try.func80 (by kernel_rfl) rfl #[.slice A17 y252.length c17] (by rfl) rfl rfl (by (try simp only [List.map_toArray, List.map_cons, List.map_nil]); first | done | rfl | (simp only [List.length_drop, List.length_take]; rfl)) ?_
           with_reducible refine (impl_CheckOf.calls kj4 _ _ y252 t262 _ ?side1 ?side2 A14.out).mono ?_
           (case side1 => exact q_c ((Kd.V_reads' HO256.out).2.2))
           (case side2 => exact (Kd.V_reads' HO256.out).2.1)
           rintro e w' ⟨rfl, ⟨nd, rfl⟩⟩
           refine ⟨_, rfl, ?_⟩
           refine hK.out _ _ trivial (fun hHeld => ?_)
           clear hK K
           refine norm_ (a' := ?_) ?_ ?_
           rotate_left
           ·show Act.put _ (some 37) _ = _
            simp only [Act.put, List.setIfInBounds_toArray, List.set_cons_zero, List.set_cons_succ, i64_w, i32_w]
            rfl
           refine one_ (i := 5) (N := some 38) #[true, true, true, true, true, true, false, false, false] rfl rfl (one_of HT_.out (by kernel_rfl)) (by decide) (fun K hK => ?_)
           refine goes_ Try.func79 (by kernel_rfl) rfl #[.int .i64 t262] (by rfl) rfl rfl (by (try simp only [List.map_toArray, List.map_cons, List.map_nil]); first | done | rfl | (simp only [List.length_drop, List.length_take]; rfl)) ?_
           with_reducible refine (impl_pair.calls t262 t263 _ A15.out).mono ?_
           rintro e w20 ⟨v264, rfl, ho0, hb⟩
           refine ⟨_, rfl, ?_⟩
           have n0_ := Aside0.mk (Kd.V_elder' (q_v (HO_0.out)) (Kd.R_base ho0) hb)
           have n1_ := Aside0.mk (Kd.V_elder' (q_v (HO256.out)) (Kd.R_base ho0) hb)
           have n2_ := Aside0.mk (Kd.V_elder' (q_v (HO261.out)) (Kd.R_base ho0) hb)
           have n3_ := Aside0.mk (Kd.R_lower (Kd.R_newM (M := fun k_ => (w.heap.size ≤ k_)) ho0 (below_size bq) (fun k_ h_ => h_)) (below_size bq))
           have n4_ := Aside0.mk (below_step bq hb)
           clear HO_0
           clear HO256
           clear HO261
           clear HB
           have HO_0 := n0_
           have HO256 := n1_
           have HO261 := n2_
           have HO265 := n3_
           have HB := n4_
           clear n0_ n1_ n2_ n3_ n4_
           (try clear hb)
           (try clear hb2)
           (try clear hk)
           (try clear hi)
           (try clear ho0)
           obtain ⟨Ao21, co21, eo21⟩ := Kd.R_slice HO265.out
           (first | subst eo21 | (injection eo21 with f1_ f2_ f3_; have f4_ := f1_.symm; have f5_ := f3_.symm; clear f1_ f2_ f3_; subst f4_; subst f5_))
           refine hK.out _ _ trivial (fun hHeld => ?_)
           clear hK K
           refine norm_ (a' := ?_) ?_ ?_
           rotate_left
           ·show Act.put _ (some 38) _ = _
            simp only [Act.put, List.setIfInBounds_toArray, List.set_cons_zero, List.set_cons_succ, i64_w, i32_w]
            rfl
           refine one_ (i := 6) (N := some 39) #[true, true, true, true, true, true, true, false, false] rfl rfl (one_of HT_.out (by kernel_rfl)) (by decide) (fun K hK => ?_)
           refine goes_ Try.func81 (by kernel_rfl) rfl #[.slice A19 y257.length c19, .slice Ao21 t263.length co21] (by rfl) rfl rfl (by (try simp only [List.map_toArray, List.map_cons, List.map_nil]); first | done | rfl | (simp only [List.length_drop, List.length_take]; rfl)) ?_
           with_reducible refine (bytes_Equal.calls _ _ y257 _ _ t263 t266 _ ?side1 ?side2 ?side3 ?side4 A16.out).mono ?_
           (case side1 => exact q_c ((Kd.V_reads' HO261.out).2.2))
           (case side2 => exact (Kd.V_reads' HO261.out).2.1)
           (case side3 => exact q_c ((Kd.R_reads' HO265.out).2.2))
           (case side4 => exact (Kd.R_reads' HO265.out).2.1)
           rintro e w' ⟨rfl, ⟨nd, rfl⟩⟩
           refine ⟨_, rfl, ?_⟩
           refine hK.out _ _ trivial (fun hHeld => ?_)
           clear hK K
           refine norm_ (a' := ?_) ?_ ?_
           rotate_left
           ·show Act.put _ (some 39) _ = _
            simp only [Act.put, List.setIfInBounds_toArray, List.set_cons_zero, List.set_cons_succ, i64_w, i32_w]
            rfl
           refine q_p 7 (some 2) #[true, true, true, true, true, true, true, true, false] HT_.out ?_
           refine q_p 8 (some 3) #[true, true, true, true, true, true, true, true, true] HT_.out ?_
           refine done_ (done_of HT_.out (by kernel_rfl)) ?_
           try go_wp2
           go_ret2
           exact ⟨_, q_e, q_v (Kd.V_mono HO256.out (fun _ hk => hk.1)), bq⟩
          ·rw [if_neg c13] at H
           exact absurd H (by simp)
         ·rw [if_neg c12] at H
          exact absurd H (by simp)
        ·rw [if_neg c11] at H
         exact absurd H (by simp)
       ·rw [if_neg c10] at H
        exact absurd H (by simp)
   ·rw [if_neg c4] at H
    exact absurd H (by simp)
  ·rw [if_neg c3] at H
   exact absurd H (by simp)

end Go.Proofs.Ytcdpiejcdeedoaa.PFnAppends
