/- The functions that a law reaches, each as a plain Lean function with the proof that the machine comes to its answer: written by program (the kit's print, turned by wip/gen). No conditions. -/
import Derived.Test.YtanegggacfmkcaaPFnExactSettleOnex0
namespace Go.Proofs.Ytanegggacfmkcaa.PFnExactSettleOne
open Go.RowKit Go.Proofs.YtanegggacfmkcaaW.PrintWords Go.Proofs.YtanegggacfmkcaaW.PrintLast Go.Proofs.YtanegggacfmkcaaW.PrintMore
attribute [local go_sem] max2_int min2_int max_two min_two max_three min_three max_four min_four   -- for this text's walks alone
set_option linter.unusedVariables false
set_option linter.unusedSimpArgs false

/-! ### laws_heldBalanceS: function 125 -/
def laws_heldBalanceS.l0 : Nat → List (S104) → Int → Int → Option (Int)
  | 0, _, _, _ => none
  | k + 1, x0, x1, x5 => if x5 < (x0.length : Int) then (if 0 ≤ x5 then (if ((rd_T104 x0 x5).f0) = x1 then (if ((rd_T104 x0 x5).f1) = (wrap64 (x1 + 1)) then (if ((rd_T104 x0 x5).f2) = (wrap64 ((wrap64 (x1 + 1)) + 1)) then (laws_heldBalanceS.l0 k x0 (wrap64 ((wrap64 ((wrap64 (x1 + 1)) + 1)) + 1)) (wrap64 (x5 + 1))) else (some (-1))) else (some (-1))) else (some (-1))) else (none)) else (some x1)
def laws_heldBalanceS.f (k : Nat) (l0 : List (S104)) (a1 : Int) : Option (Int) := laws_heldBalanceS.l0 k l0 a1 0
set_option maxHeartbeats 8000000 in
set_option maxRecDepth 100000 in
theorem laws_heldBalanceS.calls (k : Nat) (A0 : Option Addr) (c0 : Nat) (l0 : List (S104)) (a1 : Int) (r : Int) (w : World) (hr0 : Kd.C k104 w A0 l0.length l0) (hc0 : l0.length ≤ c0) (h : laws_heldBalanceS.f k l0 a1 = some r) :
  Calls Try.prog 125 #[.slice A0 l0.length c0, .int .i64 a1] w fun e w' => e = .returned (.int .i64 r) ∧ Drawn0 w w' := by
 have HR0 := Aside0.mk hr0
 have HC0 := Aside0.mk hc0
 clear hr0 hc0
 have H : (laws_heldBalanceS.l0 k l0 a1 0) = some r := h
 clear h
 have H' := Aside0.mk H
 clear H
 go_enter Try.func125, Try.ntmps125
 go_wp2
 go_loopg [1, 5] k (fun kq v1 v5 w' => ∃ (x1_1 : Int) (x5_1 : Int), v1 = .int .i64 x1_1 ∧ v5 = .int .i64 x5_1 ∧ Aside0 (laws_heldBalanceS.l0 kq l0 x1_1 x5_1 = some r) ∧ Aside0 (kq ≤ k) ∧ Drawn0 w w')
 case atStart => exact ⟨(a1), (0), q_i, q_i, H', ⟨Nat.le_refl _⟩, q_0⟩
 case round =>
  clear H'
  (try clear c1); (try clear p2)
  obtain ⟨x1_1, x5_1, rfl, rfl, HA, HK1, ⟨m1, rfl⟩⟩ := hrel
  cases gk with
  | zero => exact absurd HA.out (by simp [laws_heldBalanceS.l0])
  | succ k1 =>
   have H := HA.out
   clear HA
   simp only [laws_heldBalanceS.l0] at H
   by_cases c3 : x5_1 < (l0.length : Int)
   ·rw [if_pos c3] at H
    have c3b0 := decide_eq_true c3
    clear c3
    by_cases c4 : 0 ≤ x5_1
    ·rw [if_pos c4] at H
     have c4b0 := decide_eq_true c4
     clear c4
     by_cases c5 : ((rd_T104 l0 x5_1).f0) = x1_1
     ·rw [if_pos c5] at H
      have c5b0 : (((rd_T104 l0 x5_1).f0) == x1_1) = true := beq_iff_eq.mpr c5
      have c5b1 : (((rd_T104 l0 x5_1).f0) != x1_1) = false := bne_eq_false_iff_eq.mpr c5
      clear c5
      by_cases c6 : ((rd_T104 l0 x5_1).f1) = (wrap64 (x1_1 + 1))
      ·rw [if_pos c6] at H
       have c6b0 : (((rd_T104 l0 x5_1).f1) == (wrap64 (x1_1 + 1))) = true := beq_iff_eq.mpr c6
       have c6b1 : (((rd_T104 l0 x5_1).f1) != (wrap64 (x1_1 + 1))) = false := bne_eq_false_iff_eq.mpr c6
       clear c6
       by_cases c7 : ((rd_T104 l0 x5_1).f2) = (wrap64 ((wrap64 (x1_1 + 1)) + 1))
       ·rw [if_pos c7] at H
        have c7b0 : (((rd_T104 l0 x5_1).f2) == (wrap64 ((wrap64 (x1_1 + 1)) + 1))) = true := beq_iff_eq.mpr c7
        have c7b1 : (((rd_T104 l0 x5_1).f2) != (wrap64 ((wrap64 (x1_1 + 1)) + 1))) = false := bne_eq_false_iff_eq.mpr c7
        clear c7
        have H' := Aside0.mk H
        clear H
        have p435 : 0 ≤ (x5_1 : Int) := q_d
        have q435 : x5_1 < (l0.length : Int) := q_d
        obtain ⟨ad435, e435, hx435_0, hx435_1, hx435_2⟩ := at_T104 HR0.out x5_1 p435 q435
        cases e435
        replace p435 := eq_true p435
        replace q435 := eq_true q435
        have p436 : 0 ≤ (x5_1 : Int) := q_d
        have q436 : x5_1 < (l0.length : Int) := q_d
        obtain ⟨ad436, e436, hx436_0, hx436_1, hx436_2⟩ := at_T104 HR0.out x5_1 p436 q436
        obtain rfl : ad435 = ad436 := (by injection e436)
        replace p436 := eq_true p436
        replace q436 := eq_true q436
        have p437 : 0 ≤ (x5_1 : Int) := q_d
        have q437 : x5_1 < (l0.length : Int) := q_d
        obtain ⟨ad437, e437, hx437_0, hx437_1, hx437_2⟩ := at_T104 HR0.out x5_1 p437 q437
        obtain rfl : ad435 = ad437 := (by injection e437)
        replace p437 := eq_true p437
        replace q437 := eq_true q437
        go_wp2
        go_roundg k1
        case measure => have := HK1.out; omega
        case rel => exact ⟨(wrap64 ((wrap64 ((wrap64 (x1_1 + 1)) + 1)) + 1)), (wrap64 (x5_1 + 1)), q_i, q_i, H', ⟨by have := HK1.out; omega⟩, q_0⟩
       ·rw [if_neg c7] at H
        have c7b0 : (((rd_T104 l0 x5_1).f2) == (wrap64 ((wrap64 (x1_1 + 1)) + 1))) = false := beq_eq_false_iff_ne.mpr c7
        have c7b1 : (((rd_T104 l0 x5_1).f2) != (wrap64 ((wrap64 (x1_1 + 1)) + 1))) = true := bne_iff_ne.mpr c7
        obtain rfl := Option.some.inj H
        have p435 : 0 ≤ (x5_1 : Int) := q_d
        have q435 : x5_1 < (l0.length : Int) := q_d
        obtain ⟨ad435, e435, hx435_0, hx435_1, hx435_2⟩ := at_T104 HR0.out x5_1 p435 q435
        cases e435
        replace p435 := eq_true p435
        replace q435 := eq_true q435
        have p436 : 0 ≤ (x5_1 : Int) := q_d
        have q436 : x5_1 < (l0.length : Int) := q_d
        obtain ⟨ad436, e436, hx436_0, hx436_1, hx436_2⟩ := at_T104 HR0.out x5_1 p436 q436
        obtain rfl : ad435 = ad436 := (by injection e436)
        replace p436 := eq_true p436
        replace q436 := eq_true q436
        have p437 : 0 ≤ (x5_1 : Int) := q_d
        have q437 : x5_1 < (l0.length : Int) := q_d
        obtain ⟨ad437, e437, hx437_0, hx437_1, hx437_2⟩ := at_T104 HR0.out x5_1 p437 q437
        obtain rfl : ad435 = ad437 := (by injection e437)
        replace p437 := eq_true p437
        replace q437 := eq_true q437
        go_wp2
        go_ret
        exact ⟨by first | rfl | (simp; done) | (simp [*]; done), q_0⟩
      ·rw [if_neg c6] at H
       have c6b0 : (((rd_T104 l0 x5_1).f1) == (wrap64 (x1_1 + 1))) = false := beq_eq_false_iff_ne.mpr c6
       have c6b1 : (((rd_T104 l0 x5_1).f1) != (wrap64 (x1_1 + 1))) = true := bne_iff_ne.mpr c6
       obtain rfl := Option.some.inj H
       have p435 : 0 ≤ (x5_1 : Int) := q_d
       have q435 : x5_1 < (l0.length : Int) := q_d
       obtain ⟨ad435, e435, hx435_0, hx435_1, hx435_2⟩ := at_T104 HR0.out x5_1 p435 q435
       cases e435
       replace p435 := eq_true p435
       replace q435 := eq_true q435
       have p436 : 0 ≤ (x5_1 : Int) := q_d
       have q436 : x5_1 < (l0.length : Int) := q_d
       obtain ⟨ad436, e436, hx436_0, hx436_1, hx436_2⟩ := at_T104 HR0.out x5_1 p436 q436
       obtain rfl : ad435 = ad436 := (by injection e436)
       replace p436 := eq_true p436
       replace q436 := eq_true q436
       go_wp2
       go_ret
       exact ⟨by first | rfl | (simp; done) | (simp [*]; done), q_0⟩
     ·rw [if_neg c5] at H
      have c5b0 : (((rd_T104 l0 x5_1).f0) == x1_1) = false := beq_eq_false_iff_ne.mpr c5
      have c5b1 : (((rd_T104 l0 x5_1).f0) != x1_1) = true := bne_iff_ne.mpr c5
      obtain rfl := Option.some.inj H
      have p435 : 0 ≤ (x5_1 : Int) := q_d
      have q435 : x5_1 < (l0.length : Int) := q_d
      obtain ⟨ad435, e435, hx435_0, hx435_1, hx435_2⟩ := at_T104 HR0.out x5_1 p435 q435
      cases e435
      replace p435 := eq_true p435
      replace q435 := eq_true q435
      go_wp2
      go_ret
      exact ⟨by first | rfl | (simp; done) | (simp [*]; done), q_0⟩
    ·rw [if_neg c4] at H
     exact absurd H (by simp)
   ·rw [if_neg c3] at H
    have c3b0 := decide_eq_false c3
    clear c3
    obtain rfl := Option.some.inj H
    go_wp2
    go_ret
    exact ⟨by first | rfl | (simp; done) | (simp [*]; done), q_0⟩

/-! ### laws_heldBalanceSS: function 110 -/
def laws_heldBalanceSS.l0 : Nat → List (List (S104)) → Int → Int → Option (Int)
  | 0, _, _, _ => none
  | k + 1, x0, x1, x5 => if x5 < (x0.length : Int) then (if 0 ≤ x5 then ((laws_heldBalanceS.f k (rd_L2 x0 x5) x1).bind fun t439 => (if t439 < 0 then (some (-1)) else (laws_heldBalanceSS.l0 k x0 t439 (wrap64 (x5 + 1))))) else (none)) else (some x1)
def laws_heldBalanceSS.f (k : Nat) (l0 : List (List (S104))) (a1 : Int) : Option (Int) := laws_heldBalanceSS.l0 k l0 a1 0
set_option maxHeartbeats 8000000 in
set_option maxRecDepth 100000 in
theorem laws_heldBalanceSS.calls (k : Nat) (A0 : Option Addr) (c0 : Nat) (l0 : List (List (S104))) (a1 : Int) (r : Int) (w : World) (hr0 : Kd.C (Kd.slice 104 k104) w A0 l0.length l0) (hc0 : l0.length ≤ c0) (h : laws_heldBalanceSS.f k l0 a1 = some r) :
  Calls Try.prog 110 #[.slice A0 l0.length c0, .int .i64 a1] w fun e w' => e = .returned (.int .i64 r) ∧ Drawn0 w w' := by
 have HR0 := Aside0.mk hr0
 have HC0 := Aside0.mk hc0
 clear hr0 hc0
 have H : (laws_heldBalanceSS.l0 k l0 a1 0) = some r := h
 clear h
 have H' := Aside0.mk H
 clear H
 go_enter Try.func110, Try.ntmps110
 go_wp2
 go_loopg [1, 5] k (fun kq v1 v5 w' => ∃ (x1_1 : Int) (x5_1 : Int), v1 = .int .i64 x1_1 ∧ v5 = .int .i64 x5_1 ∧ Aside0 (laws_heldBalanceSS.l0 kq l0 x1_1 x5_1 = some r) ∧ Aside0 (kq ≤ k) ∧ Drawn0 w w')
 case atStart => exact ⟨(a1), (0), q_i, q_i, H', ⟨Nat.le_refl _⟩, q_0⟩
 case round =>
  clear H'
  (try clear c1); (try clear p2)
  obtain ⟨x1_1, x5_1, rfl, rfl, HA, HK1, ⟨m1, rfl⟩⟩ := hrel
  cases gk with
  | zero => exact absurd HA.out (by simp [laws_heldBalanceSS.l0])
  | succ k1 =>
   have H := HA.out
   clear HA
   simp only [laws_heldBalanceSS.l0] at H
   by_cases c3 : x5_1 < (l0.length : Int)
   ·rw [if_pos c3] at H
    have c3b0 := decide_eq_true c3
    clear c3
    by_cases c4 : 0 ≤ x5_1
    ·rw [if_pos c4] at H
     have c4b0 := decide_eq_true c4
     clear c4
     replace H := Option.bind_eq_some_iff.mp H
     obtain ⟨t439, A50, H⟩ := H
     replace H : (if t439 < 0 then (some (-1)) else (laws_heldBalanceSS.l0 k1 l0 t439 (wrap64 (x5_1 + 1)))) = some r := H
     have A5 := Aside0.mk A50
     clear A50
     by_cases c6 : t439 < 0
     ·rw [if_pos c6] at H
      have c6b0 := decide_eq_true c6
      clear c6
      obtain rfl := Option.some.inj H
      have p438 : 0 ≤ (x5_1 : Int) := q_d
      have q438 : x5_1 < (l0.length : Int) := q_d
      obtain ⟨ad438, A438_0, c438_0, e438, hx438_0, hl438_0, hi438_0⟩ := at_L2 HR0.out x5_1 p438 q438
      cases e438
      have HR438_0 := Aside0.mk hi438_0
      have HC438_0 := Aside0.mk hl438_0
      clear hi438_0 hl438_0
      replace p438 := eq_true p438
      replace q438 := eq_true q438
      go_wp2_with (first | ((with_reducible refine gate_callee (f := 125) rfl ?_); refine goesLq (some 17) rfl rfl Try.func125 (by kernel_rfl) rfl #[.slice A438_0 (rd_L2 l0 x5_1).length c438_0, .int .i64 x1_1] rfl ?_; (with_reducible refine (laws_heldBalanceS.calls k1 _ _ (rd_L2 l0 x5_1) x1_1 t439 _ ?side1 ?side2 A5.out).mono ?_); (case side1 => exact q_c (HR438_0.out)); (case side2 => exact HC438_0.out); rintro e w' ⟨rfl, ⟨nd, rfl⟩⟩; refine ⟨_, rfl, ?_⟩))
      go_ret
      exact ⟨by first | rfl | (simp; done) | (simp [*]; done), q_0⟩
     ·rw [if_neg c6] at H
      have c6b0 := decide_eq_false c6
      clear c6
      have H' := Aside0.mk H
      clear H
      have p438 : 0 ≤ (x5_1 : Int) := q_d
      have q438 : x5_1 < (l0.length : Int) := q_d
      obtain ⟨ad438, A438_0, c438_0, e438, hx438_0, hl438_0, hi438_0⟩ := at_L2 HR0.out x5_1 p438 q438
      cases e438
      have HR438_0 := Aside0.mk hi438_0
      have HC438_0 := Aside0.mk hl438_0
      clear hi438_0 hl438_0
      replace p438 := eq_true p438
      replace q438 := eq_true q438
      go_wp2_with (first | ((with_reducible refine gate_callee (f := 125) rfl ?_); refine goesLq (some 17) rfl rfl Try.func125 (by kernel_rfl) rfl #[.slice A438_0 (rd_L2 l0 x5_1).length c438_0, .int .i64 x1_1] rfl ?_; (with_reducible refine (laws_heldBalanceS.calls k1 _ _ (rd_L2 l0 x5_1) x1_1 t439 _ ?side1 ?side2 A5.out).mono ?_); (case side1 => exact q_c (HR438_0.out)); (case side2 => exact HC438_0.out); rintro e w' ⟨rfl, ⟨nd, rfl⟩⟩; refine ⟨_, rfl, ?_⟩))
      go_roundg k1
      case measure => have := HK1.out; omega
      case rel => exact ⟨(t439), (wrap64 (x5_1 + 1)), q_i, q_i, H', ⟨by have := HK1.out; omega⟩, q_0⟩
    ·rw [if_neg c4] at H
     exact absurd H (by simp)
   ·rw [if_neg c3] at H
    have c3b0 := decide_eq_false c3
    clear c3
    obtain rfl := Option.some.inj H
    go_wp2
    go_ret
    exact ⟨by first | rfl | (simp; done) | (simp [*]; done), q_0⟩

/-! ### laws_heldLedger: function 79 -/
def laws_heldLedger.f (k : Nat) (l0_0 : List (List (S104))) (a1 : Int) : Option (Int) := (laws_heldBalanceSS.f k l0_0 a1).bind fun t441 => (if t441 < 0 then (some (-1)) else (some t441))
set_option maxHeartbeats 8000000 in
set_option maxRecDepth 100000 in
theorem laws_heldLedger.calls (k : Nat) (A0_0 : Option Addr) (c0_0 : Nat) (l0_0 : List (List (S104))) (a1 : Int) (r : Int) (w : World) (hr0_0 : Kd.C (Kd.slice 104 k104) w A0_0 l0_0.length l0_0) (hc0_0 : l0_0.length ≤ c0_0) (h : laws_heldLedger.f k l0_0 a1 = some r) :
  Calls Try.prog 79 #[.agg #[.slice A0_0 l0_0.length c0_0], .int .i64 a1] w fun e w' => e = .returned (.int .i64 r) ∧ Below w.heap.size w w' := by
 have hu26 := Try.underlying26
 have HR0_0 := Aside0.mk hr0_0
 have HC0_0 := Aside0.mk hc0_0
 clear hr0_0 hc0_0
 have HB := Aside0.mk (Below.refl w.heap.size w)
 have H : ((laws_heldBalanceSS.f k l0_0 a1).bind fun t441 => (if t441 < 0 then (some (-1)) else (some t441))) = some r := h
 clear h
 replace H := Option.bind_eq_some_iff.mp H
 obtain ⟨t441, A30, H⟩ := H
 replace H : (if t441 < 0 then (some (-1)) else (some t441)) = some r := H
 have A3 := Aside0.mk A30
 clear A30
 by_cases c4 : t441 < 0
 ·rw [if_pos c4] at H
  have c4b0 := decide_eq_true c4
  clear c4
  obtain rfl := Option.some.inj H
  go_enter Try.func79, Try.ntmps79
  go_wp2_with (first | ((with_reducible refine gate_dst (N := 2) rfl ?_); refine q_box (N := 2) (cs := #[.slice A0_0 l0_0.length c0_0]) (t := 26) ?_; intro gb440 hg w5 hbox hb; have n0_ := Aside0.mk (below_step bq hb); have n1_ := Aside0.mk (hbox); have n2_ := Aside0.mk ((q_g hg bq : w.heap.size ≤ gb440)); have n3_ := Aside0.mk ((q_g hg bq : w.heap.size ≤ gb440)); revert n0_ n1_ n2_ n3_; clear HB; intro HB BK440 GW440 GE440; clear hb hbox hg; obtain ⟨hcz6_0, hfz6_0⟩ := q_1 BK440.out) | ((with_reducible refine gate_callee (f := 110) rfl ?_); refine goesLq (some 8) rfl rfl Try.func110 (by kernel_rfl) rfl #[.slice A0_0 l0_0.length c0_0, .int .i64 a1] rfl ?_; (with_reducible refine (laws_heldBalanceSS.calls k _ _ l0_0 a1 t441 _ ?side1 ?side2 A3.out).mono ?_); (case side1 => exact q_c ((Kd.C_below HR0_0.out HB.out))); (case side2 => exact HC0_0.out); rintro e w' ⟨rfl, ⟨nd, rfl⟩⟩; refine ⟨_, rfl, ?_⟩))
  go_ret
  exact ⟨q_e, bq⟩
 ·rw [if_neg c4] at H
  have c4b0 := decide_eq_false c4
  clear c4
  obtain rfl := Option.some.inj H
  go_enter Try.func79, Try.ntmps79
  go_wp2_with (first | ((with_reducible refine gate_dst (N := 2) rfl ?_); refine q_box (N := 2) (cs := #[.slice A0_0 l0_0.length c0_0]) (t := 26) ?_; intro gb440 hg w7 hbox hb; have n0_ := Aside0.mk (below_step bq hb); have n1_ := Aside0.mk (hbox); have n2_ := Aside0.mk ((q_g hg bq : w.heap.size ≤ gb440)); have n3_ := Aside0.mk ((q_g hg bq : w.heap.size ≤ gb440)); revert n0_ n1_ n2_ n3_; clear HB; intro HB BK440 GW440 GE440; clear hb hbox hg; obtain ⟨hcz8_0, hfz8_0⟩ := q_1 BK440.out) | ((with_reducible refine gate_callee (f := 110) rfl ?_); refine goesLq (some 8) rfl rfl Try.func110 (by kernel_rfl) rfl #[.slice A0_0 l0_0.length c0_0, .int .i64 a1] rfl ?_; (with_reducible refine (laws_heldBalanceSS.calls k _ _ l0_0 a1 t441 _ ?side1 ?side2 A3.out).mono ?_); (case side1 => exact q_c ((Kd.C_below HR0_0.out HB.out))); (case side2 => exact HC0_0.out); rintro e w' ⟨rfl, ⟨nd, rfl⟩⟩; refine ⟨_, rfl, ?_⟩))
  go_ret
  exact ⟨q_e, bq⟩

/-! ### laws_heldLedgerResult: function 32 -/
def laws_heldLedgerResult.f (k : Nat) (a0_0 : Int) (l0_1 : List (List (S104))) (a1 : Int) : Option (Int) := (laws_heldLedger.f k l0_1 a1).bind fun t443 => (if t443 < 0 then (some (-1)) else (some t443))
set_option maxHeartbeats 8000000 in
set_option maxRecDepth 100000 in
theorem laws_heldLedgerResult.calls (k : Nat) (a0_0 : Int) (A0_1 : Option Addr) (c0_1 : Nat) (l0_1 : List (List (S104))) (a1 : Int) (r : Int) (w : World) (hr0_1 : Kd.C (Kd.slice 104 k104) w A0_1 l0_1.length l0_1) (hc0_1 : l0_1.length ≤ c0_1) (h : laws_heldLedgerResult.f k a0_0 l0_1 a1 = some r) :
  Calls Try.prog 32 #[.agg #[.int .i64 a0_0, .slice A0_1 l0_1.length c0_1], .int .i64 a1] w fun e w' => e = .returned (.int .i64 r) ∧ Below w.heap.size w w' := by
 have hu36 := Try.underlying36
 have hu26 := Try.underlying26
 have HR0_1 := Aside0.mk hr0_1
 have HC0_1 := Aside0.mk hc0_1
 clear hr0_1 hc0_1
 have HB := Aside0.mk (Below.refl w.heap.size w)
 have H : ((laws_heldLedger.f k l0_1 a1).bind fun t443 => (if t443 < 0 then (some (-1)) else (some t443))) = some r := h
 clear h
 replace H := Option.bind_eq_some_iff.mp H
 obtain ⟨t443, A30, H⟩ := H
 replace H : (if t443 < 0 then (some (-1)) else (some t443)) = some r := H
 have A3 := Aside0.mk A30
 clear A30
 by_cases c4 : t443 < 0
 ·rw [if_pos c4] at H
  have c4b0 := decide_eq_true c4
  clear c4
  obtain rfl := Option.some.inj H
  go_enter Try.func32, Try.ntmps32
  go_wp2_with (first | ((with_reducible refine gate_dst (N := 2) rfl ?_); refine q_box (N := 2) (cs := #[.int .i64 a0_0, .slice A0_1 l0_1.length c0_1]) (t := 36) ?_; intro gb442 hg w5 hbox hb; have n0_ := Aside0.mk (below_step bq hb); have n1_ := Aside0.mk (hbox); have n2_ := Aside0.mk ((q_g hg bq : w.heap.size ≤ gb442)); have n3_ := Aside0.mk ((q_g hg bq : w.heap.size ≤ gb442)); revert n0_ n1_ n2_ n3_; clear HB; intro HB BK442 GW442 GE442; clear hb hbox hg; obtain ⟨hcz6_0, hcz6_1, hfz6_0, hfz6_1⟩ := q_2 BK442.out) | ((with_reducible refine gate_callee (f := 79) rfl ?_); refine goesLq (some 8) rfl rfl Try.func79 (by kernel_rfl) rfl #[.agg #[.slice A0_1 l0_1.length c0_1], .int .i64 a1] rfl ?_; (with_reducible refine (laws_heldLedger.calls k _ _ l0_1 a1 t443 _ ?side1 ?side2 A3.out).mono ?_); (case side1 => exact q_c ((Kd.C_below HR0_1.out HB.out))); (case side2 => exact HC0_1.out); rintro e w7 ⟨rfl, hb⟩; refine ⟨_, rfl, ?_⟩; have n0_ := Aside0.mk (blk_below (q_b BK442.out) hb); have n1_ := Aside0.mk (below_step bq hb); revert n0_ n1_; clear BK442 HB; intro BK442 HB; (try clear hb); (try clear hb2); (try clear hk); (try clear hi)))
  go_ret
  exact ⟨q_e, bq⟩
 ·rw [if_neg c4] at H
  have c4b0 := decide_eq_false c4
  clear c4
  obtain rfl := Option.some.inj H
  go_enter Try.func32, Try.ntmps32
  go_wp2_with (first | ((with_reducible refine gate_dst (N := 2) rfl ?_); refine q_box (N := 2) (cs := #[.int .i64 a0_0, .slice A0_1 l0_1.length c0_1]) (t := 36) ?_; intro gb442 hg w8 hbox hb; have n0_ := Aside0.mk (below_step bq hb); have n1_ := Aside0.mk (hbox); have n2_ := Aside0.mk ((q_g hg bq : w.heap.size ≤ gb442)); have n3_ := Aside0.mk ((q_g hg bq : w.heap.size ≤ gb442)); revert n0_ n1_ n2_ n3_; clear HB; intro HB BK442 GW442 GE442; clear hb hbox hg; obtain ⟨hcz9_0, hcz9_1, hfz9_0, hfz9_1⟩ := q_2 BK442.out) | ((with_reducible refine gate_callee (f := 79) rfl ?_); refine goesLq (some 8) rfl rfl Try.func79 (by kernel_rfl) rfl #[.agg #[.slice A0_1 l0_1.length c0_1], .int .i64 a1] rfl ?_; (with_reducible refine (laws_heldLedger.calls k _ _ l0_1 a1 t443 _ ?side1 ?side2 A3.out).mono ?_); (case side1 => exact q_c ((Kd.C_below HR0_1.out HB.out))); (case side2 => exact HC0_1.out); rintro e w10 ⟨rfl, hb⟩; refine ⟨_, rfl, ?_⟩; have n0_ := Aside0.mk (blk_below (q_b BK442.out) hb); have n1_ := Aside0.mk (below_step bq hb); revert n0_ n1_; clear BK442 HB; intro BK442 HB; (try clear hb); (try clear hb2); (try clear hk); (try clear hi)))
  go_ret
  exact ⟨q_e, bq⟩

end Go.Proofs.Ytanegggacfmkcaa.PFnExactSettleOne
