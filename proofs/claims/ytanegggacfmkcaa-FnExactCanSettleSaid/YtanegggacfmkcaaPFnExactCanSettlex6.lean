/- The functions that a law reaches, each as a plain Lean function with the proof that the machine comes to its answer: written by program (the kit's print, turned by wip/gen). No conditions. -/
import Derived.Test.YtanegggacfmkcaaPFnExactCanSettlex0
import Derived.Test.YtanegggacfmkcaaPFnExactCanSettlex4
import Derived.Test.YtanegggacfmkcaaPFnExactCanSettlex5
namespace Go.Proofs.Ytanegggacfmkcaa.PFnExactCanSettle
open Go.RowKit Go.Proofs.YtanegggacfmkcaaW.PrintWords Go.Proofs.YtanegggacfmkcaaW.PrintLast Go.Proofs.YtanegggacfmkcaaW.PrintMore
attribute [local go_sem] max2_int min2_int max_two min_two max_three min_three max_four min_four   -- for this text's walks alone
set_option linter.unusedVariables false
set_option linter.unusedSimpArgs false

/-! ### spec_l2Legs: function 106 -/
def spec_l2Legs.l0 : Nat → List (S104) → List (S86) → Int → Option (Int)
  | 0, _, _, _ => none
  | k + 1, x0, x1, x5 => if x5 < (x1.length : Int) then (if 0 ≤ x5 then ((spec_l2Has.f k x0 ((rd_T86 x1 x5).f1) ((rd_T86 x1 x5).f2)).bind fun t204 => (if (wrap64 (t204 + ((rd_T86 x1 x5).f3))) < 0 then (some 6) else (if (wrap64 (t204 + ((rd_T86 x1 x5).f3))) > 1000000000000 then (some 3) else (spec_l2Legs.l0 k x0 x1 (wrap64 (x5 + 1)))))) else (none)) else (some 0)
def spec_l2Legs.f (k : Nat) (l0 : List (S104)) (l1 : List (S86)) : Option (Int) := spec_l2Legs.l0 k l0 l1 0
set_option maxHeartbeats 8000000 in
set_option maxRecDepth 100000 in
theorem spec_l2Legs.calls (k : Nat) (A0 : Option Addr) (c0 : Nat) (l0 : List (S104)) (A1 : Option Addr) (c1 : Nat) (l1 : List (S86)) (r : Int) (w : World) (hr0 : Kd.C k104 w A0 l0.length l0) (hc0 : l0.length ≤ c0) (hr1 : Kd.C k86 w A1 l1.length l1) (hc1 : l1.length ≤ c1) (h : spec_l2Legs.f k l0 l1 = some r) :
  Calls Try.prog 106 #[.slice A0 l0.length c0, .slice A1 l1.length c1] w fun e w' => e = .returned (.int .i64 r) ∧ Drawn0 w w' := by
 have HR0 := Aside0.mk hr0
 have HC0 := Aside0.mk hc0
 clear hr0 hc0
 have HR1 := Aside0.mk hr1
 have HC1 := Aside0.mk hc1
 clear hr1 hc1
 have H : (spec_l2Legs.l0 k l0 l1 0) = some r := h
 clear h
 have H' := Aside0.mk H
 clear H
 go_enter Try.func106, Try.ntmps106
 go_wp2
 repeat (go_quiet (fail); try go_wp2)
 go_loopg [5] k (fun kq v5 w' => ∃ (x5_1 : Int), v5 = .int .i64 x5_1 ∧ Aside0 (spec_l2Legs.l0 kq l0 l1 x5_1 = some r) ∧ Aside0 (kq ≤ k) ∧ Drawn0 w w')
 case atStart => exact ⟨(0), q_i, H', ⟨Nat.le_refl _⟩, q_0⟩
 case round =>
  clear H'
  (try clear c1); (try clear p2)
  obtain ⟨x5_1, rfl, HA, HK1, ⟨m1, rfl⟩⟩ := hrel
  cases gk with
  | zero => exact absurd HA.out (by simp [spec_l2Legs.l0])
  | succ k1 =>
   have H := HA.out
   clear HA
   simp only [spec_l2Legs.l0] at H
   by_cases c3 : x5_1 < (l1.length : Int)
   ·rw [if_pos c3] at H
    have c3b0 := decide_eq_true c3
    clear c3
    by_cases c4 : 0 ≤ x5_1
    ·rw [if_pos c4] at H
     have c4b0 := decide_eq_true c4
     clear c4
     replace H := Option.bind_eq_some_iff.mp H
     obtain ⟨t204, A50, H⟩ := H
     replace H : (if (wrap64 (t204 + ((rd_T86 l1 x5_1).f3))) < 0 then (some 6) else (if (wrap64 (t204 + ((rd_T86 l1 x5_1).f3))) > 1000000000000 then (some 3) else (spec_l2Legs.l0 k1 l0 l1 (wrap64 (x5_1 + 1))))) = some r := H
     have A5 := Aside0.mk A50
     clear A50
     by_cases c6 : (wrap64 (t204 + ((rd_T86 l1 x5_1).f3))) < 0
     ·rw [if_pos c6] at H
      have c6b0 := decide_eq_true c6
      have c6w0 : decide ((IntKind.i64.wrap (t204 + ((rd_T86 l1 x5_1).f3))) < 0) = true := by first | exact c6b0 | (simp only [i64_w]; exact c6b0)
      clear c6
      obtain rfl := Option.some.inj H
      have p202 : 0 ≤ (x5_1 : Int) := q_d
      have q202 : x5_1 < (l1.length : Int) := q_d
      obtain ⟨ad202, e202, hx202_0, hx202_1, hx202_2, hx202_3⟩ := at_T86 HR1.out x5_1 p202 q202
      cases e202
      replace p202 := eq_true p202
      replace q202 := eq_true q202
      have p203 : 0 ≤ (x5_1 : Int) := q_d
      have q203 : x5_1 < (l1.length : Int) := q_d
      obtain ⟨ad203, e203, hx203_0, hx203_1, hx203_2, hx203_3⟩ := at_T86 HR1.out x5_1 p203 q203
      obtain rfl : ad202 = ad203 := (by injection e203)
      replace p203 := eq_true p203
      replace q203 := eq_true q203
      go_wp2_with (first | (go_at_call 89; (with_reducible refine (spec_l2Has.calls k1 _ _ l0 ((rd_T86 l1 x5_1).f1) ((rd_T86 l1 x5_1).f2) t204 _ ?side1 ?side2 A5.out).mono ?_); (case side1 => exact q_c (HR0.out)); (case side2 => exact HC0.out); rintro e w' ⟨rfl, ⟨nd, rfl⟩⟩; (try first | exact ⟨rfl, _, World.drewN_drewN _ _ _⟩ | exact ⟨rfl, _, Eq.trans (World.drewN_drewN _ _ _) (congrArg (World.drewN _) (Nat.add_assoc _ _ _))⟩); have p205 : 0 ≤ (x5_1 : Int) := q_d; have q205 : x5_1 < (l1.length : Int) := q_d; obtain ⟨ad205, e205, hx205_0, hx205_1, hx205_2, hx205_3⟩ := at_T86 HR1.out x5_1 p205 q205; obtain rfl : ad202 = ad205 := (by injection e205); replace p205 := eq_true p205; replace q205 := eq_true q205))
      repeat (go_quiet (first | (go_at_call 89; (with_reducible refine (spec_l2Has.calls k1 _ _ l0 ((rd_T86 l1 x5_1).f1) ((rd_T86 l1 x5_1).f2) t204 _ ?side1 ?side2 A5.out).mono ?_); (case side1 => exact q_c (HR0.out)); (case side2 => exact HC0.out); rintro e w' ⟨rfl, ⟨nd, rfl⟩⟩; (try first | exact ⟨rfl, _, World.drewN_drewN _ _ _⟩ | exact ⟨rfl, _, Eq.trans (World.drewN_drewN _ _ _) (congrArg (World.drewN _) (Nat.add_assoc _ _ _))⟩); have p205 : 0 ≤ (x5_1 : Int) := q_d; have q205 : x5_1 < (l1.length : Int) := q_d; obtain ⟨ad205, e205, hx205_0, hx205_1, hx205_2, hx205_3⟩ := at_T86 HR1.out x5_1 p205 q205; obtain rfl : ad202 = ad205 := (by injection e205); replace p205 := eq_true p205; replace q205 := eq_true q205)); try go_wp2_with (first | (go_at_call 89; (with_reducible refine (spec_l2Has.calls k1 _ _ l0 ((rd_T86 l1 x5_1).f1) ((rd_T86 l1 x5_1).f2) t204 _ ?side1 ?side2 A5.out).mono ?_); (case side1 => exact q_c (HR0.out)); (case side2 => exact HC0.out); rintro e w' ⟨rfl, ⟨nd, rfl⟩⟩; (try first | exact ⟨rfl, _, World.drewN_drewN _ _ _⟩ | exact ⟨rfl, _, Eq.trans (World.drewN_drewN _ _ _) (congrArg (World.drewN _) (Nat.add_assoc _ _ _))⟩); have p205 : 0 ≤ (x5_1 : Int) := q_d; have q205 : x5_1 < (l1.length : Int) := q_d; obtain ⟨ad205, e205, hx205_0, hx205_1, hx205_2, hx205_3⟩ := at_T86 HR1.out x5_1 p205 q205; obtain rfl : ad202 = ad205 := (by injection e205); replace p205 := eq_true p205; replace q205 := eq_true q205)))
      go_ret
      exact ⟨by first | rfl | (simp; done) | (simp [*]; done), q_0⟩
     ·rw [if_neg c6] at H
      have c6b0 := decide_eq_false c6
      have c6w0 : decide ((IntKind.i64.wrap (t204 + ((rd_T86 l1 x5_1).f3))) < 0) = false := by first | exact c6b0 | (simp only [i64_w]; exact c6b0)
      clear c6
      by_cases c7 : (wrap64 (t204 + ((rd_T86 l1 x5_1).f3))) > 1000000000000
      ·rw [if_pos c7] at H
       have c7b0 := decide_eq_true c7
       have c7w0 : decide (1000000000000 < (IntKind.i64.wrap (t204 + ((rd_T86 l1 x5_1).f3)))) = true := by first | exact c7b0 | (simp only [i64_w]; exact c7b0)
       clear c7
       obtain rfl := Option.some.inj H
       have p202 : 0 ≤ (x5_1 : Int) := q_d
       have q202 : x5_1 < (l1.length : Int) := q_d
       obtain ⟨ad202, e202, hx202_0, hx202_1, hx202_2, hx202_3⟩ := at_T86 HR1.out x5_1 p202 q202
       cases e202
       replace p202 := eq_true p202
       replace q202 := eq_true q202
       have p203 : 0 ≤ (x5_1 : Int) := q_d
       have q203 : x5_1 < (l1.length : Int) := q_d
       obtain ⟨ad203, e203, hx203_0, hx203_1, hx203_2, hx203_3⟩ := at_T86 HR1.out x5_1 p203 q203
       obtain rfl : ad202 = ad203 := (by injection e203)
       replace p203 := eq_true p203
       replace q203 := eq_true q203
       go_wp2_with (first | (go_at_call 89; (with_reducible refine (spec_l2Has.calls k1 _ _ l0 ((rd_T86 l1 x5_1).f1) ((rd_T86 l1 x5_1).f2) t204 _ ?side1 ?side2 A5.out).mono ?_); (case side1 => exact q_c (HR0.out)); (case side2 => exact HC0.out); rintro e w' ⟨rfl, ⟨nd, rfl⟩⟩; (try first | exact ⟨rfl, _, World.drewN_drewN _ _ _⟩ | exact ⟨rfl, _, Eq.trans (World.drewN_drewN _ _ _) (congrArg (World.drewN _) (Nat.add_assoc _ _ _))⟩); have p205 : 0 ≤ (x5_1 : Int) := q_d; have q205 : x5_1 < (l1.length : Int) := q_d; obtain ⟨ad205, e205, hx205_0, hx205_1, hx205_2, hx205_3⟩ := at_T86 HR1.out x5_1 p205 q205; obtain rfl : ad202 = ad205 := (by injection e205); replace p205 := eq_true p205; replace q205 := eq_true q205))
       repeat (go_quiet (first | (go_at_call 89; (with_reducible refine (spec_l2Has.calls k1 _ _ l0 ((rd_T86 l1 x5_1).f1) ((rd_T86 l1 x5_1).f2) t204 _ ?side1 ?side2 A5.out).mono ?_); (case side1 => exact q_c (HR0.out)); (case side2 => exact HC0.out); rintro e w' ⟨rfl, ⟨nd, rfl⟩⟩; (try first | exact ⟨rfl, _, World.drewN_drewN _ _ _⟩ | exact ⟨rfl, _, Eq.trans (World.drewN_drewN _ _ _) (congrArg (World.drewN _) (Nat.add_assoc _ _ _))⟩); have p205 : 0 ≤ (x5_1 : Int) := q_d; have q205 : x5_1 < (l1.length : Int) := q_d; obtain ⟨ad205, e205, hx205_0, hx205_1, hx205_2, hx205_3⟩ := at_T86 HR1.out x5_1 p205 q205; obtain rfl : ad202 = ad205 := (by injection e205); replace p205 := eq_true p205; replace q205 := eq_true q205)); try go_wp2_with (first | (go_at_call 89; (with_reducible refine (spec_l2Has.calls k1 _ _ l0 ((rd_T86 l1 x5_1).f1) ((rd_T86 l1 x5_1).f2) t204 _ ?side1 ?side2 A5.out).mono ?_); (case side1 => exact q_c (HR0.out)); (case side2 => exact HC0.out); rintro e w' ⟨rfl, ⟨nd, rfl⟩⟩; (try first | exact ⟨rfl, _, World.drewN_drewN _ _ _⟩ | exact ⟨rfl, _, Eq.trans (World.drewN_drewN _ _ _) (congrArg (World.drewN _) (Nat.add_assoc _ _ _))⟩); have p205 : 0 ≤ (x5_1 : Int) := q_d; have q205 : x5_1 < (l1.length : Int) := q_d; obtain ⟨ad205, e205, hx205_0, hx205_1, hx205_2, hx205_3⟩ := at_T86 HR1.out x5_1 p205 q205; obtain rfl : ad202 = ad205 := (by injection e205); replace p205 := eq_true p205; replace q205 := eq_true q205)))
       go_ret
       exact ⟨by first | rfl | (simp; done) | (simp [*]; done), q_0⟩
      ·rw [if_neg c7] at H
       have c7b0 := decide_eq_false c7
       have c7w0 : decide (1000000000000 < (IntKind.i64.wrap (t204 + ((rd_T86 l1 x5_1).f3)))) = false := by first | exact c7b0 | (simp only [i64_w]; exact c7b0)
       clear c7
       have H' := Aside0.mk H
       clear H
       have p202 : 0 ≤ (x5_1 : Int) := q_d
       have q202 : x5_1 < (l1.length : Int) := q_d
       obtain ⟨ad202, e202, hx202_0, hx202_1, hx202_2, hx202_3⟩ := at_T86 HR1.out x5_1 p202 q202
       cases e202
       replace p202 := eq_true p202
       replace q202 := eq_true q202
       have p203 : 0 ≤ (x5_1 : Int) := q_d
       have q203 : x5_1 < (l1.length : Int) := q_d
       obtain ⟨ad203, e203, hx203_0, hx203_1, hx203_2, hx203_3⟩ := at_T86 HR1.out x5_1 p203 q203
       obtain rfl : ad202 = ad203 := (by injection e203)
       replace p203 := eq_true p203
       replace q203 := eq_true q203
       go_wp2_with (first | (go_at_call 89; (with_reducible refine (spec_l2Has.calls k1 _ _ l0 ((rd_T86 l1 x5_1).f1) ((rd_T86 l1 x5_1).f2) t204 _ ?side1 ?side2 A5.out).mono ?_); (case side1 => exact q_c (HR0.out)); (case side2 => exact HC0.out); rintro e w' ⟨rfl, ⟨nd, rfl⟩⟩; (try first | exact ⟨rfl, _, World.drewN_drewN _ _ _⟩ | exact ⟨rfl, _, Eq.trans (World.drewN_drewN _ _ _) (congrArg (World.drewN _) (Nat.add_assoc _ _ _))⟩); have p205 : 0 ≤ (x5_1 : Int) := q_d; have q205 : x5_1 < (l1.length : Int) := q_d; obtain ⟨ad205, e205, hx205_0, hx205_1, hx205_2, hx205_3⟩ := at_T86 HR1.out x5_1 p205 q205; obtain rfl : ad202 = ad205 := (by injection e205); replace p205 := eq_true p205; replace q205 := eq_true q205))
       repeat (go_quiet (first | (go_at_call 89; (with_reducible refine (spec_l2Has.calls k1 _ _ l0 ((rd_T86 l1 x5_1).f1) ((rd_T86 l1 x5_1).f2) t204 _ ?side1 ?side2 A5.out).mono ?_); (case side1 => exact q_c (HR0.out)); (case side2 => exact HC0.out); rintro e w' ⟨rfl, ⟨nd, rfl⟩⟩; (try first | exact ⟨rfl, _, World.drewN_drewN _ _ _⟩ | exact ⟨rfl, _, Eq.trans (World.drewN_drewN _ _ _) (congrArg (World.drewN _) (Nat.add_assoc _ _ _))⟩); have p205 : 0 ≤ (x5_1 : Int) := q_d; have q205 : x5_1 < (l1.length : Int) := q_d; obtain ⟨ad205, e205, hx205_0, hx205_1, hx205_2, hx205_3⟩ := at_T86 HR1.out x5_1 p205 q205; obtain rfl : ad202 = ad205 := (by injection e205); replace p205 := eq_true p205; replace q205 := eq_true q205)); try go_wp2_with (first | (go_at_call 89; (with_reducible refine (spec_l2Has.calls k1 _ _ l0 ((rd_T86 l1 x5_1).f1) ((rd_T86 l1 x5_1).f2) t204 _ ?side1 ?side2 A5.out).mono ?_); (case side1 => exact q_c (HR0.out)); (case side2 => exact HC0.out); rintro e w' ⟨rfl, ⟨nd, rfl⟩⟩; (try first | exact ⟨rfl, _, World.drewN_drewN _ _ _⟩ | exact ⟨rfl, _, Eq.trans (World.drewN_drewN _ _ _) (congrArg (World.drewN _) (Nat.add_assoc _ _ _))⟩); have p205 : 0 ≤ (x5_1 : Int) := q_d; have q205 : x5_1 < (l1.length : Int) := q_d; obtain ⟨ad205, e205, hx205_0, hx205_1, hx205_2, hx205_3⟩ := at_T86 HR1.out x5_1 p205 q205; obtain rfl : ad202 = ad205 := (by injection e205); replace p205 := eq_true p205; replace q205 := eq_true q205)))
       go_roundg k1
       case measure => have := HK1.out; omega
       case rel => exact ⟨(wrap64 (x5_1 + 1)), q_i, H', ⟨by have := HK1.out; omega⟩, q_0⟩
    ·rw [if_neg c4] at H
     exact absurd H (by simp)
   ·rw [if_neg c3] at H
    have c3b0 := decide_eq_false c3
    clear c3
    obtain rfl := Option.some.inj H
    go_wp2
    repeat (go_quiet (fail); try go_wp2)
    go_ret
    exact ⟨by first | rfl | (simp; done) | (simp [*]; done), q_0⟩

/-! ### spec_l2Can: function 64 -/
mutual
def spec_l2Can.l0 : Nat → Int → List (List (S104)) → Int → List (S86) → Option (Int)
  | 0, _, _, _, _ => none
  | k + 1, x6, x207000, x208000, x208001 => if x6 < (x208001.length : Int) then (if 0 ≤ x6 then (if ((rd_T86 x208001 x6).f0) ≥ (x207000.length : Int) then (some 4) else (spec_l2Can.l0 k (wrap64 (x6 + 1)) x207000 x208000 x208001)) else (none)) else (spec_l2Can.l1 k 0 x207000 x208000 x208001)
def spec_l2Can.l1 : Nat → Int → List (List (S104)) → Int → List (S86) → Option (Int)
  | 0, _, _, _, _ => none
  | k + 1, x7, x207000, x208000, x208001 => if x7 < (x208001.length : Int) then (if 0 ≤ x7 then (if 0 ≤ ((rd_T86 x208001 x7).f0) then (if ((rd_T86 x208001 x7).f0) < (x207000.length : Int) then (if x7 ≤ (wrap64 (x7 + 1)) then (if (wrap64 (x7 + 1)) ≤ (x208001.length : Int) then ((spec_l2Legs.f k (rd_L5 x207000 ((rd_T86 x208001 x7).f0)) ((x208001.take ((wrap64 (x7 + 1)) : Int).toNat).drop (x7 : Int).toNat)).bind fun t216 => (if t216 = 0 then (spec_l2Can.l1 k (wrap64 (x7 + 1)) x207000 x208000 x208001) else (some t216))) else (none)) else (none)) else (none)) else (none)) else (none)) else (some 0)
end
def spec_l2Can.f (k : Nat) (l0_0 : List (List (S104))) (a1_0 : Int) (l1_1 : List (S86)) : Option (Int) := (spec_ContractFault.f k a1_0 l1_1).bind fun t208 => (if t208 = 0 then (spec_l2Can.l0 k 0 l0_0 a1_0 l1_1) else (some t208))
set_option maxHeartbeats 8000000 in
set_option maxRecDepth 100000 in
theorem spec_l2Can.calls (k : Nat) (A0_0 : Option Addr) (c0_0 : Nat) (l0_0 : List (List (S104))) (a1_0 : Int) (A1_1 : Option Addr) (c1_1 : Nat) (l1_1 : List (S86)) (r : Int) (w : World) (hr0_0 : Kd.C (Kd.slice 104 k104) w A0_0 l0_0.length l0_0) (hc0_0 : l0_0.length ≤ c0_0) (hr1_1 : Kd.C k86 w A1_1 l1_1.length l1_1) (hc1_1 : l1_1.length ≤ c1_1) (h : spec_l2Can.f k l0_0 a1_0 l1_1 = some r) :
  Calls Try.prog 64 #[.agg #[.slice A0_0 l0_0.length c0_0], .agg #[.int .i64 a1_0, .slice A1_1 l1_1.length c1_1]] w fun e w' => e = .returned (.int .i64 r) ∧ Below w.heap.size w w' := by
 have hu26 := Try.underlying26
 have hu40 := Try.underlying40
 have HR0_0 := Aside0.mk hr0_0
 have HC0_0 := Aside0.mk hc0_0
 clear hr0_0 hc0_0
 have HR1_1 := Aside0.mk hr1_1
 have HC1_1 := Aside0.mk hc1_1
 clear hr1_1 hc1_1
 have HB := Aside0.mk (Below.refl w.heap.size w)
 have H : ((spec_ContractFault.f k a1_0 l1_1).bind fun t208 => (if t208 = 0 then (spec_l2Can.l0 k 0 l0_0 a1_0 l1_1) else (some t208))) = some r := h
 clear h
 replace H := Option.bind_eq_some_iff.mp H
 obtain ⟨t208, A30, H⟩ := H
 replace H : (if t208 = 0 then (spec_l2Can.l0 k 0 l0_0 a1_0 l1_1) else (some t208)) = some r := H
 have A3 := Aside0.mk A30
 clear A30
 by_cases c4 : t208 = 0
 ·rw [if_pos c4] at H
  have c4b0 : (t208 == 0) = true := beq_iff_eq.mpr c4
  have c4b1 : (t208 != 0) = false := bne_eq_false_iff_eq.mpr c4
  clear c4
  have H' := Aside0.mk H
  clear H
  go_enter Try.func64, Try.ntmps64
  go_wp2_with (first | ((with_reducible refine gate_dst (N := 2) rfl ?_); refine q_box (N := 2) (cs := #[.slice A0_0 l0_0.length c0_0]) (t := 26) ?_; intro gb206 hg w5 hbox hb; have n0_ := Aside0.mk (below_step bq hb); have n1_ := Aside0.mk (hbox); have n2_ := Aside0.mk ((q_g hg bq : w.heap.size ≤ gb206)); have n3_ := Aside0.mk ((q_g hg bq : w.heap.size ≤ gb206)); revert n0_ n1_ n2_ n3_; clear HB; intro HB BK206 GW206 GE206; clear hb hbox hg) | ((with_reducible refine gate_dst (N := 3) rfl ?_); refine q_box (N := 3) (cs := #[.int .i64 a1_0, .slice A1_1 l1_1.length c1_1]) (t := 40) ?_; intro gb207 hg w6 hbox hb; have n0_ := Aside0.mk (blk_below (q_b BK206.out) hb); have n1_ := Aside0.mk (below_step bq hb); have n2_ := Aside0.mk (hbox); have n3_ := Aside0.mk ((q_g hg bq : w.heap.size ≤ gb207)); have n4_ := Aside0.mk ((q_g hg bq : w.heap.size ≤ gb207)); have n5_ := Aside0.mk ((q_n hg (q_b BK206.out) : gb206 ≠ gb207)); have n6_ := Aside0.mk ((q_m hg (q_b BK206.out) : gb207 ≠ gb206)); revert n0_ n1_ n2_ n3_ n4_ n5_ n6_; clear BK206 HB; intro BK206 HB BK207 GW207 GE207 NB206_207 NB207_206; clear hb hbox hg; have hnb7 := NB207_206.out; have hnc7 := NB206_207.out; obtain ⟨hcz8_0, hcz8_1, hfz8_0, hfz8_1⟩ := q_2 BK207.out) | (go_at_call 105; (with_reducible refine (spec_ContractFault.calls k a1_0 _ _ l1_1 t208 _ ?side1 ?side2 A3.out).mono ?_); (case side1 => exact q_c ((Kd.C_below HR1_1.out HB.out))); (case side2 => exact HC1_1.out); rintro e w9 ⟨rfl, hb⟩; have n0_ := Aside0.mk (blk_below (q_b BK206.out) hb); have n1_ := Aside0.mk (blk_below (q_b BK207.out) hb); have n2_ := Aside0.mk (below_step bq hb); revert n0_ n1_ n2_; clear BK206 BK207 HB; intro BK206 BK207 HB; (try clear hb); (try clear hb2); (try clear hk); (try clear hi)))
  repeat (go_quiet (first | ((with_reducible refine gate_dst (N := 2) rfl ?_); refine q_box (N := 2) (cs := #[.slice A0_0 l0_0.length c0_0]) (t := 26) ?_; intro gb206 hg w5 hbox hb; have n0_ := Aside0.mk (below_step bq hb); have n1_ := Aside0.mk (hbox); have n2_ := Aside0.mk ((q_g hg bq : w.heap.size ≤ gb206)); have n3_ := Aside0.mk ((q_g hg bq : w.heap.size ≤ gb206)); revert n0_ n1_ n2_ n3_; clear HB; intro HB BK206 GW206 GE206; clear hb hbox hg) | ((with_reducible refine gate_dst (N := 3) rfl ?_); refine q_box (N := 3) (cs := #[.int .i64 a1_0, .slice A1_1 l1_1.length c1_1]) (t := 40) ?_; intro gb207 hg w6 hbox hb; have n0_ := Aside0.mk (blk_below (q_b BK206.out) hb); have n1_ := Aside0.mk (below_step bq hb); have n2_ := Aside0.mk (hbox); have n3_ := Aside0.mk ((q_g hg bq : w.heap.size ≤ gb207)); have n4_ := Aside0.mk ((q_g hg bq : w.heap.size ≤ gb207)); have n5_ := Aside0.mk ((q_n hg (q_b BK206.out) : gb206 ≠ gb207)); have n6_ := Aside0.mk ((q_m hg (q_b BK206.out) : gb207 ≠ gb206)); revert n0_ n1_ n2_ n3_ n4_ n5_ n6_; clear BK206 HB; intro BK206 HB BK207 GW207 GE207 NB206_207 NB207_206; clear hb hbox hg; have hnb7 := NB207_206.out; have hnc7 := NB206_207.out; obtain ⟨hcz8_0, hcz8_1, hfz8_0, hfz8_1⟩ := q_2 BK207.out) | (go_at_call 105; (with_reducible refine (spec_ContractFault.calls k a1_0 _ _ l1_1 t208 _ ?side1 ?side2 A3.out).mono ?_); (case side1 => exact q_c ((Kd.C_below HR1_1.out HB.out))); (case side2 => exact HC1_1.out); rintro e w9 ⟨rfl, hb⟩; have n0_ := Aside0.mk (blk_below (q_b BK206.out) hb); have n1_ := Aside0.mk (blk_below (q_b BK207.out) hb); have n2_ := Aside0.mk (below_step bq hb); revert n0_ n1_ n2_; clear BK206 BK207 HB; intro BK206 BK207 HB; (try clear hb); (try clear hb2); (try clear hk); (try clear hi))); try go_wp2_with (first | ((with_reducible refine gate_dst (N := 2) rfl ?_); refine q_box (N := 2) (cs := #[.slice A0_0 l0_0.length c0_0]) (t := 26) ?_; intro gb206 hg w5 hbox hb; have n0_ := Aside0.mk (below_step bq hb); have n1_ := Aside0.mk (hbox); have n2_ := Aside0.mk ((q_g hg bq : w.heap.size ≤ gb206)); have n3_ := Aside0.mk ((q_g hg bq : w.heap.size ≤ gb206)); revert n0_ n1_ n2_ n3_; clear HB; intro HB BK206 GW206 GE206; clear hb hbox hg) | ((with_reducible refine gate_dst (N := 3) rfl ?_); refine q_box (N := 3) (cs := #[.int .i64 a1_0, .slice A1_1 l1_1.length c1_1]) (t := 40) ?_; intro gb207 hg w6 hbox hb; have n0_ := Aside0.mk (blk_below (q_b BK206.out) hb); have n1_ := Aside0.mk (below_step bq hb); have n2_ := Aside0.mk (hbox); have n3_ := Aside0.mk ((q_g hg bq : w.heap.size ≤ gb207)); have n4_ := Aside0.mk ((q_g hg bq : w.heap.size ≤ gb207)); have n5_ := Aside0.mk ((q_n hg (q_b BK206.out) : gb206 ≠ gb207)); have n6_ := Aside0.mk ((q_m hg (q_b BK206.out) : gb207 ≠ gb206)); revert n0_ n1_ n2_ n3_ n4_ n5_ n6_; clear BK206 HB; intro BK206 HB BK207 GW207 GE207 NB206_207 NB207_206; clear hb hbox hg; have hnb7 := NB207_206.out; have hnc7 := NB206_207.out; obtain ⟨hcz8_0, hcz8_1, hfz8_0, hfz8_1⟩ := q_2 BK207.out) | (go_at_call 105; (with_reducible refine (spec_ContractFault.calls k a1_0 _ _ l1_1 t208 _ ?side1 ?side2 A3.out).mono ?_); (case side1 => exact q_c ((Kd.C_below HR1_1.out HB.out))); (case side2 => exact HC1_1.out); rintro e w9 ⟨rfl, hb⟩; have n0_ := Aside0.mk (blk_below (q_b BK206.out) hb); have n1_ := Aside0.mk (blk_below (q_b BK207.out) hb); have n2_ := Aside0.mk (below_step bq hb); revert n0_ n1_ n2_; clear BK206 BK207 HB; intro BK206 BK207 HB; (try clear hb); (try clear hb2); (try clear hk); (try clear hi))))
  go_loopg [6] k (fun kq v6 w' => ∃ (x6_1 : Int), v6 = .int .i64 x6_1 ∧ Aside0 (spec_l2Can.l0 kq x6_1 l0_0 a1_0 l1_1 = some r) ∧ Aside0 (kq ≤ k) ∧ Aside0 (w'.heap[gb206]? = some (.cells #[(.slice A0_0 l0_0.length c0_0)] 26 (0, 0))) ∧ Aside0 (w'.heap[gb207]? = some (.cells #[.int .i64 a1_0, (.slice A1_1 l1_1.length c1_1)] 40 (0, 0))) ∧ Aside0 (Below w.heap.size w w'))
  case atStart => exact ⟨(0), q_i, H', ⟨Nat.le_refl _⟩, ⟨q_b BK206.out⟩, ⟨q_b BK207.out⟩, ⟨bq⟩⟩
  case round =>
   clear H'
   (try clear c1); (try clear p2); (try clear c4); (try clear c4b0); (try clear c4b1); (try clear c6); (try clear c7); (try clear hcz8_0); (try clear hcz8_1); (try clear hfz8_0); (try clear hfz8_1)
   obtain ⟨x6_1, rfl, HA, HK1, BK206, BK207, HB⟩ := hrel
   cases gk with
   | zero => exact absurd HA.out (by simp [spec_l2Can.l0])
   | succ k1 =>
    have H := HA.out
    clear HA
    simp only [spec_l2Can.l0] at H
    by_cases c10 : x6_1 < (l1_1.length : Int)
    ·rw [if_pos c10] at H
     have c10b0 := decide_eq_true c10
     clear c10
     by_cases c11 : 0 ≤ x6_1
     ·rw [if_pos c11] at H
      have c11b0 := decide_eq_true c11
      clear c11
      by_cases c12 : ((rd_T86 l1_1 x6_1).f0) ≥ (l0_0.length : Int)
      ·rw [if_pos c12] at H
       have c12b0 := decide_eq_true c12
       clear c12
       obtain rfl := Option.some.inj H
       have hnb13 := NB207_206.out
       have hnc13 := NB206_207.out
       obtain ⟨hcz14_0, hcz14_1, hfz14_0, hfz14_1⟩ := q_2 BK207.out
       have p209 : 0 ≤ (x6_1 : Int) := q_d
       have q209 : x6_1 < (l1_1.length : Int) := q_d
       obtain ⟨ad209, e209, hx209_0, hx209_1, hx209_2, hx209_3⟩ := at_T86 HR1_1.out x6_1 p209 q209
       cases e209
       replace hx209_0 := q_x HB.out hx209_0
       replace hx209_1 := q_x HB.out hx209_1
       replace hx209_2 := q_x HB.out hx209_2
       replace hx209_3 := q_x HB.out hx209_3
       replace p209 := eq_true p209
       replace q209 := eq_true q209
       obtain ⟨hcz15_0, hfz15_0⟩ := q_1 BK206.out
       go_wp2
       repeat (go_quiet (fail); try go_wp2)
       go_ret
       exact ⟨q_e, bq⟩
      ·rw [if_neg c12] at H
       have c12b0 := decide_eq_false c12
       clear c12
       have H' := Aside0.mk H
       clear H
       have hnb16 := NB207_206.out
       have hnc16 := NB206_207.out
       obtain ⟨hcz17_0, hcz17_1, hfz17_0, hfz17_1⟩ := q_2 BK207.out
       have p209 : 0 ≤ (x6_1 : Int) := q_d
       have q209 : x6_1 < (l1_1.length : Int) := q_d
       obtain ⟨ad209, e209, hx209_0, hx209_1, hx209_2, hx209_3⟩ := at_T86 HR1_1.out x6_1 p209 q209
       cases e209
       replace hx209_0 := q_x HB.out hx209_0
       replace hx209_1 := q_x HB.out hx209_1
       replace hx209_2 := q_x HB.out hx209_2
       replace hx209_3 := q_x HB.out hx209_3
       replace p209 := eq_true p209
       replace q209 := eq_true q209
       obtain ⟨hcz18_0, hfz18_0⟩ := q_1 BK206.out
       go_wp2
       repeat (go_quiet (fail); try go_wp2)
       go_roundg k1
       case measure => have := HK1.out; omega
       case rel => exact ⟨(wrap64 (x6_1 + 1)), q_i, H', ⟨by have := HK1.out; omega⟩, ⟨q_b BK206.out⟩, ⟨q_b BK207.out⟩, ⟨bq⟩⟩
     ·rw [if_neg c11] at H
      exact absurd H (by simp)
    ·rw [if_neg c10] at H
     have c10b0 := decide_eq_false c10
     clear c10
     have H' := Aside0.mk H
     clear H
     have hnb19 := NB207_206.out
     have hnc19 := NB206_207.out
     obtain ⟨hcz20_0, hcz20_1, hfz20_0, hfz20_1⟩ := q_2 BK207.out
     go_wp2
     repeat (go_quiet (fail); try go_wp2)
     go_loopg [7] k1 (fun kq v7 w' => ∃ (x7_2 : Int), v7 = .int .i64 x7_2 ∧ Aside0 (spec_l2Can.l1 kq x7_2 l0_0 a1_0 l1_1 = some r) ∧ Aside0 (kq ≤ k1) ∧ Aside0 (w'.heap[gb206]? = some (.cells #[(.slice A0_0 l0_0.length c0_0)] 26 (0, 0))) ∧ Aside0 (w'.heap[gb207]? = some (.cells #[.int .i64 a1_0, (.slice A1_1 l1_1.length c1_1)] 40 (0, 0))) ∧ Aside0 (Below w.heap.size w w'))
     case atStart => exact ⟨(0), q_i, H', ⟨Nat.le_refl _⟩, ⟨q_b BK206.out⟩, ⟨q_b BK207.out⟩, ⟨bq⟩⟩
     case round =>
      clear H'
      (try clear c1); (try clear p2); (try clear q2); (try clear hx2); (try clear c4); (try clear c4b0); (try clear c4b1); (try clear c6); (try clear p6); (try clear c7); (try clear c10); (try clear c10b0)
      (try clear c11); (try clear c11b0); (try clear c12); (try clear c12b0); (try clear c13); (try clear c16); (try clear c19); (try clear p20); (try clear q20); (try clear hx20); (try clear hcz14_0)
      (try clear hcz14_1); (try clear hcz15_0); (try clear hcz17_0); (try clear hcz17_1); (try clear hcz18_0); (try clear hcz20_0); (try clear hcz20_1); (try clear hcz8_0); (try clear hcz8_1); (try clear hfz14_0)
      (try clear hfz14_1); (try clear hfz15_0); (try clear hfz17_0); (try clear hfz17_1); (try clear hfz18_0); (try clear hfz20_0); (try clear hfz20_1); (try clear hfz8_0); (try clear hfz8_1); (try clear hx209_0)
      (try clear hx209_1); (try clear hx209_2); (try clear hx209_3); (try clear p2); (try clear p209); (try clear q209)
      obtain ⟨x7_2, rfl, HA, HK2, BK206, BK207, HB⟩ := hrel
      cases gk with
      | zero => exact absurd HA.out (by simp [spec_l2Can.l1])
      | succ k2 =>
       have H := HA.out
       clear HA
       simp only [spec_l2Can.l1] at H
       by_cases c21 : x7_2 < (l1_1.length : Int)
       ·rw [if_pos c21] at H
        have c21b0 := decide_eq_true c21
        clear c21
        by_cases c22 : 0 ≤ x7_2
        ·rw [if_pos c22] at H
         have c22b0 := decide_eq_true c22
         clear c22
         by_cases c23 : 0 ≤ ((rd_T86 l1_1 x7_2).f0)
         ·rw [if_pos c23] at H
          have c23b0 := decide_eq_true c23
          clear c23
          by_cases c24 : ((rd_T86 l1_1 x7_2).f0) < (l0_0.length : Int)
          ·rw [if_pos c24] at H
           have c24b0 := decide_eq_true c24
           clear c24
           have c25b0 := eq_true (q_d : 0 ≤ x7_2)
           by_cases c26 : x7_2 ≤ (wrap64 (x7_2 + 1))
           ·rw [if_pos c26] at H
            have c26b0 := eq_true c26
            have c26b1 := decide_eq_true c26
            by_cases c27 : (wrap64 (x7_2 + 1)) ≤ (l1_1.length : Int)
            ·rw [if_pos c27] at H
             have c27b0 := eq_true c27
             have c27b1 := decide_eq_true c27
             obtain ⟨y212, hy212⟩ : ∃ y_ : List (S86), y_ = ((l1_1.take ((wrap64 (x7_2 + 1)) : Int).toNat).drop (x7_2 : Int).toNat) := ⟨_, rfl⟩
             replace H : ((spec_l2Legs.f k2 (rd_L5 l0_0 ((rd_T86 l1_1 x7_2).f0)) y212).bind fun t216 => (if t216 = 0 then (spec_l2Can.l1 k2 (wrap64 (x7_2 + 1)) l0_0 a1_0 l1_1) else (some t216))) = some r := q_h hy212 H
             have Ny212 := Aside0.mk hy212
             clear hy212
             replace H := Option.bind_eq_some_iff.mp H
             obtain ⟨t216, A280, H⟩ := H
             replace H : (if t216 = 0 then (spec_l2Can.l1 k2 (wrap64 (x7_2 + 1)) l0_0 a1_0 l1_1) else (some t216)) = some r := H
             have A28 := Aside0.mk A280
             clear A280
             by_cases c29 : t216 = 0
             ·rw [if_pos c29] at H
              have c29b0 : (t216 == 0) = true := beq_iff_eq.mpr c29
              have c29b1 : (t216 != 0) = false := bne_eq_false_iff_eq.mpr c29
              clear c29
              have H' := Aside0.mk H
              clear H
              have hnb30 := NB207_206.out
              have hnc30 := NB206_207.out
              obtain ⟨hcz31_0, hcz31_1, hfz31_0, hfz31_1⟩ := q_2 BK207.out
              obtain ⟨hcz32_0, hfz32_0⟩ := q_1 BK206.out
              have p210 : 0 ≤ (x7_2 : Int) := q_d
              have q210 : x7_2 < (l1_1.length : Int) := q_d
              obtain ⟨ad210, e210, hx210_0, hx210_1, hx210_2, hx210_3⟩ := at_T86 HR1_1.out x7_2 p210 q210
              cases e210
              replace hx210_0 := q_x HB.out hx210_0
              replace hx210_1 := q_x HB.out hx210_1
              replace hx210_2 := q_x HB.out hx210_2
              replace hx210_3 := q_x HB.out hx210_3
              replace p210 := eq_true p210
              replace q210 := eq_true q210
              have p211 : 0 ≤ (((rd_T86 l1_1 x7_2).f0) : Int) := q_d
              have q211 : ((rd_T86 l1_1 x7_2).f0) < (l0_0.length : Int) := q_d
              obtain ⟨ad211, A211_0, c211_0, e211, hx211_0, hl211_0, hi211_0⟩ := at_L5 HR0_0.out ((rd_T86 l1_1 x7_2).f0) p211 q211
              cases e211
              replace hx211_0 := q_x HB.out hx211_0
              have HR211_0 := Aside0.mk hi211_0
              have HC211_0 := Aside0.mk hl211_0
              clear hi211_0 hl211_0
              replace p211 := eq_true p211
              replace q211 := eq_true q211
              have q33 : ((wrap64 (x7_2 + 1)) : Int) ≤ ((l1_1.length : Int) : Int) := q_d
              obtain ⟨i033, hi033, _, hsz33, _⟩ := info_parts info86
              have hroom33 : l1_1.length ≤ c1_1 := HC1_1.out
              have hC33 : Kd.C k86 _ (some ad210) l1_1.length l1_1 := HR1_1.out
              have ql33 : (x7_2 : Int) ≤ ((wrap64 (x7_2 + 1)) : Int) := q_d
              have q033 : (0 : Int) ≤ (x7_2 : Int) := q_d
              have hcut33 := cut_mid (P := Try.prog) 38 86 .i64 .i64 Try.underlying38 hi033 4 hsz33 (some ad210) l1_1.length c1_1 x7_2 (wrap64 (x7_2 + 1)) q033 ql33 q33 hroom33
              have hr33 := Kd.C_mid (lo := (x7_2 : Int).toNat) (hi := ((wrap64 (x7_2 + 1)) : Int).toNat) (c := c1_1) hC33 (by omega) (by omega) hroom33
              obtain ⟨A33, hA33⟩ : ∃ A1, A1 = (if c1_1 = (x7_2 : Int).toNat then (some ad210) else ((some ad210) : Option Addr).map (·.add ((x7_2 : Int).toNat * 4))) := ⟨_, rfl⟩
              obtain ⟨c33, hc33⟩ : ∃ c1, c1 = c1_1 - (x7_2 : Int).toNat := ⟨_, rfl⟩
              have hy33 : y212.length = ((wrap64 (x7_2 + 1)) : Int).toNat - (x7_2 : Int).toNat := (by rw [Ny212.out, List.length_drop, List.length_take] <;> omega)
              rw [show ((l1_1).take ((wrap64 (x7_2 + 1)) : Int).toNat).drop (x7_2 : Int).toNat = y212 from Ny212.out.symm] at hr33
              replace hr33 : Kd.C k86 _ A33 y212.length y212 := (by rw [hA33]; exact hr33)
              rw [← hy33, ← hA33, ← hc33] at hcut33
              have HR215 := Aside0.mk hr33
              have HC215 := Aside0.mk (show y212.length ≤ c33 from by rw [hy33, hc33]; exact Nat.sub_le_sub_right (Nat.le_trans (by omega) hroom33) _)
              clear hr33 hC33 hroom33 hi033 hsz33 hc33
              have KY33 := Aside0.mk hy33
              have KA33 := Aside0.mk hA33
              clear hy33 hA33
              replace q33 := eq_true q33
              go_wp2_with (first | (go_at_call 106; (with_reducible refine (spec_l2Legs.calls k2 _ _ (rd_L5 l0_0 ((rd_T86 l1_1 x7_2).f0)) _ _ y212 t216 _ ?side1 ?side2 ?side3 ?side4 A28.out).mono ?_); (case side1 => exact q_c ((Kd.C_below HR211_0.out HB.out))); (case side2 => exact HC211_0.out); (case side3 => exact q_c ((Kd.C_below HR215.out HB.out))); (case side4 => exact HC215.out); rintro e w' ⟨rfl, ⟨nd, rfl⟩⟩; (try first | exact ⟨rfl, _, World.drewN_drewN _ _ _⟩ | exact ⟨rfl, _, Eq.trans (World.drewN_drewN _ _ _) (congrArg (World.drewN _) (Nat.add_assoc _ _ _))⟩)))
              repeat (go_quiet (first | (go_at_call 106; (with_reducible refine (spec_l2Legs.calls k2 _ _ (rd_L5 l0_0 ((rd_T86 l1_1 x7_2).f0)) _ _ y212 t216 _ ?side1 ?side2 ?side3 ?side4 A28.out).mono ?_); (case side1 => exact q_c ((Kd.C_below HR211_0.out HB.out))); (case side2 => exact HC211_0.out); (case side3 => exact q_c ((Kd.C_below HR215.out HB.out))); (case side4 => exact HC215.out); rintro e w' ⟨rfl, ⟨nd, rfl⟩⟩; (try first | exact ⟨rfl, _, World.drewN_drewN _ _ _⟩ | exact ⟨rfl, _, Eq.trans (World.drewN_drewN _ _ _) (congrArg (World.drewN _) (Nat.add_assoc _ _ _))⟩))); try go_wp2_with (first | (go_at_call 106; (with_reducible refine (spec_l2Legs.calls k2 _ _ (rd_L5 l0_0 ((rd_T86 l1_1 x7_2).f0)) _ _ y212 t216 _ ?side1 ?side2 ?side3 ?side4 A28.out).mono ?_); (case side1 => exact q_c ((Kd.C_below HR211_0.out HB.out))); (case side2 => exact HC211_0.out); (case side3 => exact q_c ((Kd.C_below HR215.out HB.out))); (case side4 => exact HC215.out); rintro e w' ⟨rfl, ⟨nd, rfl⟩⟩; (try first | exact ⟨rfl, _, World.drewN_drewN _ _ _⟩ | exact ⟨rfl, _, Eq.trans (World.drewN_drewN _ _ _) (congrArg (World.drewN _) (Nat.add_assoc _ _ _))⟩))))
              go_roundg k2
              case measure => have := HK1.out; have := HK2.out; omega
              case rel => exact ⟨(wrap64 (x7_2 + 1)), q_i, H', ⟨by have := HK1.out; have := HK2.out; omega⟩, ⟨q_b BK206.out⟩, ⟨q_b BK207.out⟩, ⟨bq⟩⟩
             ·rw [if_neg c29] at H
              have c29b0 : (t216 == 0) = false := beq_eq_false_iff_ne.mpr c29
              have c29b1 : (t216 != 0) = true := bne_iff_ne.mpr c29
              obtain rfl := Option.some.inj H
              have hnb34 := NB207_206.out
              have hnc34 := NB206_207.out
              obtain ⟨hcz35_0, hcz35_1, hfz35_0, hfz35_1⟩ := q_2 BK207.out
              obtain ⟨hcz36_0, hfz36_0⟩ := q_1 BK206.out
              have p210 : 0 ≤ (x7_2 : Int) := q_d
              have q210 : x7_2 < (l1_1.length : Int) := q_d
              obtain ⟨ad210, e210, hx210_0, hx210_1, hx210_2, hx210_3⟩ := at_T86 HR1_1.out x7_2 p210 q210
              cases e210
              replace hx210_0 := q_x HB.out hx210_0
              replace hx210_1 := q_x HB.out hx210_1
              replace hx210_2 := q_x HB.out hx210_2
              replace hx210_3 := q_x HB.out hx210_3
              replace p210 := eq_true p210
              replace q210 := eq_true q210
              have p211 : 0 ≤ (((rd_T86 l1_1 x7_2).f0) : Int) := q_d
              have q211 : ((rd_T86 l1_1 x7_2).f0) < (l0_0.length : Int) := q_d
              obtain ⟨ad211, A211_0, c211_0, e211, hx211_0, hl211_0, hi211_0⟩ := at_L5 HR0_0.out ((rd_T86 l1_1 x7_2).f0) p211 q211
              cases e211
              replace hx211_0 := q_x HB.out hx211_0
              have HR211_0 := Aside0.mk hi211_0
              have HC211_0 := Aside0.mk hl211_0
              clear hi211_0 hl211_0
              replace p211 := eq_true p211
              replace q211 := eq_true q211
              have q37 : ((wrap64 (x7_2 + 1)) : Int) ≤ ((l1_1.length : Int) : Int) := q_d
              obtain ⟨i037, hi037, _, hsz37, _⟩ := info_parts info86
              have hroom37 : l1_1.length ≤ c1_1 := HC1_1.out
              have hC37 : Kd.C k86 _ (some ad210) l1_1.length l1_1 := HR1_1.out
              have ql37 : (x7_2 : Int) ≤ ((wrap64 (x7_2 + 1)) : Int) := q_d
              have q037 : (0 : Int) ≤ (x7_2 : Int) := q_d
              have hcut37 := cut_mid (P := Try.prog) 38 86 .i64 .i64 Try.underlying38 hi037 4 hsz37 (some ad210) l1_1.length c1_1 x7_2 (wrap64 (x7_2 + 1)) q037 ql37 q37 hroom37
              have hr37 := Kd.C_mid (lo := (x7_2 : Int).toNat) (hi := ((wrap64 (x7_2 + 1)) : Int).toNat) (c := c1_1) hC37 (by omega) (by omega) hroom37
              obtain ⟨A37, hA37⟩ : ∃ A1, A1 = (if c1_1 = (x7_2 : Int).toNat then (some ad210) else ((some ad210) : Option Addr).map (·.add ((x7_2 : Int).toNat * 4))) := ⟨_, rfl⟩
              obtain ⟨c37, hc37⟩ : ∃ c1, c1 = c1_1 - (x7_2 : Int).toNat := ⟨_, rfl⟩
              have hy37 : y212.length = ((wrap64 (x7_2 + 1)) : Int).toNat - (x7_2 : Int).toNat := (by rw [Ny212.out, List.length_drop, List.length_take] <;> omega)
              rw [show ((l1_1).take ((wrap64 (x7_2 + 1)) : Int).toNat).drop (x7_2 : Int).toNat = y212 from Ny212.out.symm] at hr37
              replace hr37 : Kd.C k86 _ A37 y212.length y212 := (by rw [hA37]; exact hr37)
              rw [← hy37, ← hA37, ← hc37] at hcut37
              have HR215 := Aside0.mk hr37
              have HC215 := Aside0.mk (show y212.length ≤ c37 from by rw [hy37, hc37]; exact Nat.sub_le_sub_right (Nat.le_trans (by omega) hroom37) _)
              clear hr37 hC37 hroom37 hi037 hsz37 hc37
              have KY37 := Aside0.mk hy37
              have KA37 := Aside0.mk hA37
              clear hy37 hA37
              replace q37 := eq_true q37
              go_wp2_with (first | (go_at_call 106; (with_reducible refine (spec_l2Legs.calls k2 _ _ (rd_L5 l0_0 ((rd_T86 l1_1 x7_2).f0)) _ _ y212 t216 _ ?side1 ?side2 ?side3 ?side4 A28.out).mono ?_); (case side1 => exact q_c ((Kd.C_below HR211_0.out HB.out))); (case side2 => exact HC211_0.out); (case side3 => exact q_c ((Kd.C_below HR215.out HB.out))); (case side4 => exact HC215.out); rintro e w' ⟨rfl, ⟨nd, rfl⟩⟩; (try first | exact ⟨rfl, _, World.drewN_drewN _ _ _⟩ | exact ⟨rfl, _, Eq.trans (World.drewN_drewN _ _ _) (congrArg (World.drewN _) (Nat.add_assoc _ _ _))⟩)))
              repeat (go_quiet (first | (go_at_call 106; (with_reducible refine (spec_l2Legs.calls k2 _ _ (rd_L5 l0_0 ((rd_T86 l1_1 x7_2).f0)) _ _ y212 t216 _ ?side1 ?side2 ?side3 ?side4 A28.out).mono ?_); (case side1 => exact q_c ((Kd.C_below HR211_0.out HB.out))); (case side2 => exact HC211_0.out); (case side3 => exact q_c ((Kd.C_below HR215.out HB.out))); (case side4 => exact HC215.out); rintro e w' ⟨rfl, ⟨nd, rfl⟩⟩; (try first | exact ⟨rfl, _, World.drewN_drewN _ _ _⟩ | exact ⟨rfl, _, Eq.trans (World.drewN_drewN _ _ _) (congrArg (World.drewN _) (Nat.add_assoc _ _ _))⟩))); try go_wp2_with (first | (go_at_call 106; (with_reducible refine (spec_l2Legs.calls k2 _ _ (rd_L5 l0_0 ((rd_T86 l1_1 x7_2).f0)) _ _ y212 t216 _ ?side1 ?side2 ?side3 ?side4 A28.out).mono ?_); (case side1 => exact q_c ((Kd.C_below HR211_0.out HB.out))); (case side2 => exact HC211_0.out); (case side3 => exact q_c ((Kd.C_below HR215.out HB.out))); (case side4 => exact HC215.out); rintro e w' ⟨rfl, ⟨nd, rfl⟩⟩; (try first | exact ⟨rfl, _, World.drewN_drewN _ _ _⟩ | exact ⟨rfl, _, Eq.trans (World.drewN_drewN _ _ _) (congrArg (World.drewN _) (Nat.add_assoc _ _ _))⟩))))
              go_ret
              exact ⟨q_e, bq⟩
            ·rw [if_neg c27] at H
             exact absurd H (by simp)
           ·rw [if_neg c26] at H
            exact absurd H (by simp)
          ·rw [if_neg c24] at H
           exact absurd H (by simp)
         ·rw [if_neg c23] at H
          exact absurd H (by simp)
        ·rw [if_neg c22] at H
         exact absurd H (by simp)
       ·rw [if_neg c21] at H
        have c21b0 := decide_eq_false c21
        clear c21
        obtain rfl := Option.some.inj H
        have hnb38 := NB207_206.out
        have hnc38 := NB206_207.out
        obtain ⟨hcz39_0, hcz39_1, hfz39_0, hfz39_1⟩ := q_2 BK207.out
        go_wp2
        repeat (go_quiet (fail); try go_wp2)
        go_ret
        exact ⟨q_e, bq⟩
 ·rw [if_neg c4] at H
  have c4b0 : (t208 == 0) = false := beq_eq_false_iff_ne.mpr c4
  have c4b1 : (t208 != 0) = true := bne_iff_ne.mpr c4
  obtain rfl := Option.some.inj H
  go_enter Try.func64, Try.ntmps64
  go_wp2_with (first | ((with_reducible refine gate_dst (N := 2) rfl ?_); refine q_box (N := 2) (cs := #[.slice A0_0 l0_0.length c0_0]) (t := 26) ?_; intro gb206 hg w40 hbox hb; have n0_ := Aside0.mk (below_step bq hb); have n1_ := Aside0.mk (hbox); have n2_ := Aside0.mk ((q_g hg bq : w.heap.size ≤ gb206)); have n3_ := Aside0.mk ((q_g hg bq : w.heap.size ≤ gb206)); revert n0_ n1_ n2_ n3_; clear HB; intro HB BK206 GW206 GE206; clear hb hbox hg) | ((with_reducible refine gate_dst (N := 3) rfl ?_); refine q_box (N := 3) (cs := #[.int .i64 a1_0, .slice A1_1 l1_1.length c1_1]) (t := 40) ?_; intro gb207 hg w41 hbox hb; have n0_ := Aside0.mk (blk_below (q_b BK206.out) hb); have n1_ := Aside0.mk (below_step bq hb); have n2_ := Aside0.mk (hbox); have n3_ := Aside0.mk ((q_g hg bq : w.heap.size ≤ gb207)); have n4_ := Aside0.mk ((q_g hg bq : w.heap.size ≤ gb207)); have n5_ := Aside0.mk ((q_n hg (q_b BK206.out) : gb206 ≠ gb207)); have n6_ := Aside0.mk ((q_m hg (q_b BK206.out) : gb207 ≠ gb206)); revert n0_ n1_ n2_ n3_ n4_ n5_ n6_; clear BK206 HB; intro BK206 HB BK207 GW207 GE207 NB206_207 NB207_206; clear hb hbox hg; have hnb42 := NB207_206.out; have hnc42 := NB206_207.out; obtain ⟨hcz43_0, hcz43_1, hfz43_0, hfz43_1⟩ := q_2 BK207.out) | (go_at_call 105; (with_reducible refine (spec_ContractFault.calls k a1_0 _ _ l1_1 t208 _ ?side1 ?side2 A3.out).mono ?_); (case side1 => exact q_c ((Kd.C_below HR1_1.out HB.out))); (case side2 => exact HC1_1.out); rintro e w44 ⟨rfl, hb⟩; have n0_ := Aside0.mk (blk_below (q_b BK206.out) hb); have n1_ := Aside0.mk (blk_below (q_b BK207.out) hb); have n2_ := Aside0.mk (below_step bq hb); revert n0_ n1_ n2_; clear BK206 BK207 HB; intro BK206 BK207 HB; (try clear hb); (try clear hb2); (try clear hk); (try clear hi)))
  repeat (go_quiet (first | ((with_reducible refine gate_dst (N := 2) rfl ?_); refine q_box (N := 2) (cs := #[.slice A0_0 l0_0.length c0_0]) (t := 26) ?_; intro gb206 hg w40 hbox hb; have n0_ := Aside0.mk (below_step bq hb); have n1_ := Aside0.mk (hbox); have n2_ := Aside0.mk ((q_g hg bq : w.heap.size ≤ gb206)); have n3_ := Aside0.mk ((q_g hg bq : w.heap.size ≤ gb206)); revert n0_ n1_ n2_ n3_; clear HB; intro HB BK206 GW206 GE206; clear hb hbox hg) | ((with_reducible refine gate_dst (N := 3) rfl ?_); refine q_box (N := 3) (cs := #[.int .i64 a1_0, .slice A1_1 l1_1.length c1_1]) (t := 40) ?_; intro gb207 hg w41 hbox hb; have n0_ := Aside0.mk (blk_below (q_b BK206.out) hb); have n1_ := Aside0.mk (below_step bq hb); have n2_ := Aside0.mk (hbox); have n3_ := Aside0.mk ((q_g hg bq : w.heap.size ≤ gb207)); have n4_ := Aside0.mk ((q_g hg bq : w.heap.size ≤ gb207)); have n5_ := Aside0.mk ((q_n hg (q_b BK206.out) : gb206 ≠ gb207)); have n6_ := Aside0.mk ((q_m hg (q_b BK206.out) : gb207 ≠ gb206)); revert n0_ n1_ n2_ n3_ n4_ n5_ n6_; clear BK206 HB; intro BK206 HB BK207 GW207 GE207 NB206_207 NB207_206; clear hb hbox hg; have hnb42 := NB207_206.out; have hnc42 := NB206_207.out; obtain ⟨hcz43_0, hcz43_1, hfz43_0, hfz43_1⟩ := q_2 BK207.out) | (go_at_call 105; (with_reducible refine (spec_ContractFault.calls k a1_0 _ _ l1_1 t208 _ ?side1 ?side2 A3.out).mono ?_); (case side1 => exact q_c ((Kd.C_below HR1_1.out HB.out))); (case side2 => exact HC1_1.out); rintro e w44 ⟨rfl, hb⟩; have n0_ := Aside0.mk (blk_below (q_b BK206.out) hb); have n1_ := Aside0.mk (blk_below (q_b BK207.out) hb); have n2_ := Aside0.mk (below_step bq hb); revert n0_ n1_ n2_; clear BK206 BK207 HB; intro BK206 BK207 HB; (try clear hb); (try clear hb2); (try clear hk); (try clear hi))); try go_wp2_with (first | ((with_reducible refine gate_dst (N := 2) rfl ?_); refine q_box (N := 2) (cs := #[.slice A0_0 l0_0.length c0_0]) (t := 26) ?_; intro gb206 hg w40 hbox hb; have n0_ := Aside0.mk (below_step bq hb); have n1_ := Aside0.mk (hbox); have n2_ := Aside0.mk ((q_g hg bq : w.heap.size ≤ gb206)); have n3_ := Aside0.mk ((q_g hg bq : w.heap.size ≤ gb206)); revert n0_ n1_ n2_ n3_; clear HB; intro HB BK206 GW206 GE206; clear hb hbox hg) | ((with_reducible refine gate_dst (N := 3) rfl ?_); refine q_box (N := 3) (cs := #[.int .i64 a1_0, .slice A1_1 l1_1.length c1_1]) (t := 40) ?_; intro gb207 hg w41 hbox hb; have n0_ := Aside0.mk (blk_below (q_b BK206.out) hb); have n1_ := Aside0.mk (below_step bq hb); have n2_ := Aside0.mk (hbox); have n3_ := Aside0.mk ((q_g hg bq : w.heap.size ≤ gb207)); have n4_ := Aside0.mk ((q_g hg bq : w.heap.size ≤ gb207)); have n5_ := Aside0.mk ((q_n hg (q_b BK206.out) : gb206 ≠ gb207)); have n6_ := Aside0.mk ((q_m hg (q_b BK206.out) : gb207 ≠ gb206)); revert n0_ n1_ n2_ n3_ n4_ n5_ n6_; clear BK206 HB; intro BK206 HB BK207 GW207 GE207 NB206_207 NB207_206; clear hb hbox hg; have hnb42 := NB207_206.out; have hnc42 := NB206_207.out; obtain ⟨hcz43_0, hcz43_1, hfz43_0, hfz43_1⟩ := q_2 BK207.out) | (go_at_call 105; (with_reducible refine (spec_ContractFault.calls k a1_0 _ _ l1_1 t208 _ ?side1 ?side2 A3.out).mono ?_); (case side1 => exact q_c ((Kd.C_below HR1_1.out HB.out))); (case side2 => exact HC1_1.out); rintro e w44 ⟨rfl, hb⟩; have n0_ := Aside0.mk (blk_below (q_b BK206.out) hb); have n1_ := Aside0.mk (blk_below (q_b BK207.out) hb); have n2_ := Aside0.mk (below_step bq hb); revert n0_ n1_ n2_; clear BK206 BK207 HB; intro BK206 BK207 HB; (try clear hb); (try clear hb2); (try clear hk); (try clear hi))))
  go_ret
  exact ⟨q_e, bq⟩

/-! ### spec_CanSettle: function 51 -/
def spec_CanSettle.f (k : Nat) (l0_0 : List (List (S104))) (a1_0 : Int) (l1_1 : List (S86)) : Option (Int) := (spec_LedgerFault.f k l0_0).bind fun t219 => (if t219 = 0 then ((spec_l2Can.f k l0_0 a1_0 l1_1).bind fun t220 => (some t220)) else (some t219))
set_option maxHeartbeats 8000000 in
set_option maxRecDepth 100000 in
theorem spec_CanSettle.calls (k : Nat) (A0_0 : Option Addr) (c0_0 : Nat) (l0_0 : List (List (S104))) (a1_0 : Int) (A1_1 : Option Addr) (c1_1 : Nat) (l1_1 : List (S86)) (r : Int) (w : World) (hr0_0 : Kd.C (Kd.slice 104 k104) w A0_0 l0_0.length l0_0) (hc0_0 : l0_0.length ≤ c0_0) (hr1_1 : Kd.C k86 w A1_1 l1_1.length l1_1) (hc1_1 : l1_1.length ≤ c1_1) (h : spec_CanSettle.f k l0_0 a1_0 l1_1 = some r) :
  Calls Try.prog 51 #[.agg #[.slice A0_0 l0_0.length c0_0], .agg #[.int .i64 a1_0, .slice A1_1 l1_1.length c1_1]] w fun e w' => e = .returned (.int .i64 r) ∧ Below w.heap.size w w' := by
 have hu26 := Try.underlying26
 have hu40 := Try.underlying40
 have HR0_0 := Aside0.mk hr0_0
 have HC0_0 := Aside0.mk hc0_0
 clear hr0_0 hc0_0
 have HR1_1 := Aside0.mk hr1_1
 have HC1_1 := Aside0.mk hc1_1
 clear hr1_1 hc1_1
 have HB := Aside0.mk (Below.refl w.heap.size w)
 have H : ((spec_LedgerFault.f k l0_0).bind fun t219 => (if t219 = 0 then ((spec_l2Can.f k l0_0 a1_0 l1_1).bind fun t220 => (some t220)) else (some t219))) = some r := h
 clear h
 replace H := Option.bind_eq_some_iff.mp H
 obtain ⟨t219, A30, H⟩ := H
 replace H : (if t219 = 0 then ((spec_l2Can.f k l0_0 a1_0 l1_1).bind fun t220 => (some t220)) else (some t219)) = some r := H
 have A3 := Aside0.mk A30
 clear A30
 by_cases c4 : t219 = 0
 ·rw [if_pos c4] at H
  have c4b0 : (t219 == 0) = true := beq_iff_eq.mpr c4
  have c4b1 : (t219 != 0) = false := bne_eq_false_iff_eq.mpr c4
  clear c4
  replace H := Option.bind_eq_some_iff.mp H
  obtain ⟨t220, A50, H⟩ := H
  replace H : (some t220) = some r := H
  have A5 := Aside0.mk A50
  clear A50
  obtain rfl := Option.some.inj H
  go_enter Try.func51, Try.ntmps51
  go_wp2_with (first | ((with_reducible refine gate_dst (N := 2) rfl ?_); refine q_box (N := 2) (cs := #[.slice A0_0 l0_0.length c0_0]) (t := 26) ?_; intro gb217 hg w6 hbox hb; have n0_ := Aside0.mk (below_step bq hb); have n1_ := Aside0.mk (hbox); have n2_ := Aside0.mk ((q_g hg bq : w.heap.size ≤ gb217)); have n3_ := Aside0.mk ((q_g hg bq : w.heap.size ≤ gb217)); revert n0_ n1_ n2_ n3_; clear HB; intro HB BK217 GW217 GE217; clear hb hbox hg) | ((with_reducible refine gate_dst (N := 3) rfl ?_); refine q_box (N := 3) (cs := #[.int .i64 a1_0, .slice A1_1 l1_1.length c1_1]) (t := 40) ?_; intro gb218 hg w7 hbox hb; have n0_ := Aside0.mk (blk_below (q_b BK217.out) hb); have n1_ := Aside0.mk (below_step bq hb); have n2_ := Aside0.mk (hbox); have n3_ := Aside0.mk ((q_g hg bq : w.heap.size ≤ gb218)); have n4_ := Aside0.mk ((q_g hg bq : w.heap.size ≤ gb218)); have n5_ := Aside0.mk ((q_n hg (q_b BK217.out) : gb217 ≠ gb218)); have n6_ := Aside0.mk ((q_m hg (q_b BK217.out) : gb218 ≠ gb217)); revert n0_ n1_ n2_ n3_ n4_ n5_ n6_; clear BK217 HB; intro BK217 HB BK218 GW218 GE218 NB217_218 NB218_217; clear hb hbox hg; have hnb8 := NB217_218.out; have hnc8 := NB218_217.out; obtain ⟨hcz9_0, hfz9_0⟩ := q_1 BK217.out) | ((with_reducible refine gate_callee (f := 46) rfl ?_); refine goesLq (some 7) rfl rfl Try.func46 (by kernel_rfl) rfl #[.agg #[.slice A0_0 l0_0.length c0_0]] rfl ?_; (with_reducible refine (spec_LedgerFault.calls k _ _ l0_0 t219 _ ?side1 ?side2 A3.out).mono ?_); (case side1 => exact q_c ((Kd.C_below HR0_0.out HB.out))); (case side2 => exact HC0_0.out); rintro e w10 ⟨rfl, hb⟩; refine ⟨_, rfl, ?_⟩; have n0_ := Aside0.mk (blk_below (q_b BK217.out) hb); have n1_ := Aside0.mk (blk_below (q_b BK218.out) hb); have n2_ := Aside0.mk (below_step bq hb); revert n0_ n1_ n2_; clear BK217 BK218 HB; intro BK217 BK218 HB; (try clear hb); (try clear hb2); (try clear hk); (try clear hi); obtain ⟨hcz11_0, hfz11_0⟩ := q_1 BK217.out; obtain ⟨hcz12_0, hcz12_1, hfz12_0, hfz12_1⟩ := q_2 BK218.out) | ((with_reducible refine gate_callee (f := 64) rfl ?_); refine goesLq (some 13) rfl rfl Try.func64 (by kernel_rfl) rfl #[.agg #[.slice A0_0 l0_0.length c0_0], .agg #[.int .i64 a1_0, .slice A1_1 l1_1.length c1_1]] rfl ?_; (with_reducible refine (spec_l2Can.calls k _ _ l0_0 a1_0 _ _ l1_1 t220 _ ?side1 ?side2 ?side3 ?side4 A5.out).mono ?_); (case side1 => exact q_c ((Kd.C_below HR0_0.out HB.out))); (case side2 => exact HC0_0.out); (case side3 => exact q_c ((Kd.C_below HR1_1.out HB.out))); (case side4 => exact HC1_1.out); rintro e w13 ⟨rfl, hb⟩; refine ⟨_, rfl, ?_⟩; have n0_ := Aside0.mk (blk_below (q_b BK217.out) hb); have n1_ := Aside0.mk (blk_below (q_b BK218.out) hb); have n2_ := Aside0.mk (below_step bq hb); revert n0_ n1_ n2_; clear BK217 BK218 HB; intro BK217 BK218 HB; (try clear hb); (try clear hb2); (try clear hk); (try clear hi)))
  go_ret
  exact ⟨q_e, bq⟩
 ·rw [if_neg c4] at H
  have c4b0 : (t219 == 0) = false := beq_eq_false_iff_ne.mpr c4
  have c4b1 : (t219 != 0) = true := bne_iff_ne.mpr c4
  obtain rfl := Option.some.inj H
  go_enter Try.func51, Try.ntmps51
  go_wp2_with (first | ((with_reducible refine gate_dst (N := 2) rfl ?_); refine q_box (N := 2) (cs := #[.slice A0_0 l0_0.length c0_0]) (t := 26) ?_; intro gb217 hg w14 hbox hb; have n0_ := Aside0.mk (below_step bq hb); have n1_ := Aside0.mk (hbox); have n2_ := Aside0.mk ((q_g hg bq : w.heap.size ≤ gb217)); have n3_ := Aside0.mk ((q_g hg bq : w.heap.size ≤ gb217)); revert n0_ n1_ n2_ n3_; clear HB; intro HB BK217 GW217 GE217; clear hb hbox hg) | ((with_reducible refine gate_dst (N := 3) rfl ?_); refine q_box (N := 3) (cs := #[.int .i64 a1_0, .slice A1_1 l1_1.length c1_1]) (t := 40) ?_; intro gb218 hg w15 hbox hb; have n0_ := Aside0.mk (blk_below (q_b BK217.out) hb); have n1_ := Aside0.mk (below_step bq hb); have n2_ := Aside0.mk (hbox); have n3_ := Aside0.mk ((q_g hg bq : w.heap.size ≤ gb218)); have n4_ := Aside0.mk ((q_g hg bq : w.heap.size ≤ gb218)); have n5_ := Aside0.mk ((q_n hg (q_b BK217.out) : gb217 ≠ gb218)); have n6_ := Aside0.mk ((q_m hg (q_b BK217.out) : gb218 ≠ gb217)); revert n0_ n1_ n2_ n3_ n4_ n5_ n6_; clear BK217 HB; intro BK217 HB BK218 GW218 GE218 NB217_218 NB218_217; clear hb hbox hg; have hnb16 := NB217_218.out; have hnc16 := NB218_217.out; obtain ⟨hcz17_0, hfz17_0⟩ := q_1 BK217.out) | ((with_reducible refine gate_callee (f := 46) rfl ?_); refine goesLq (some 7) rfl rfl Try.func46 (by kernel_rfl) rfl #[.agg #[.slice A0_0 l0_0.length c0_0]] rfl ?_; (with_reducible refine (spec_LedgerFault.calls k _ _ l0_0 t219 _ ?side1 ?side2 A3.out).mono ?_); (case side1 => exact q_c ((Kd.C_below HR0_0.out HB.out))); (case side2 => exact HC0_0.out); rintro e w18 ⟨rfl, hb⟩; refine ⟨_, rfl, ?_⟩; have n0_ := Aside0.mk (blk_below (q_b BK217.out) hb); have n1_ := Aside0.mk (blk_below (q_b BK218.out) hb); have n2_ := Aside0.mk (below_step bq hb); revert n0_ n1_ n2_; clear BK217 BK218 HB; intro BK217 BK218 HB; (try clear hb); (try clear hb2); (try clear hk); (try clear hi)))
  go_ret
  exact ⟨q_e, bq⟩

/-! ### impl_within: function 65 -/
def impl_within.f (a0 : Int) (a1 : Int) (a2 : Int) : Option (Bool) := if a0 ≥ a1 then (some (decide (a0 ≤ a2))) else (some false)
set_option maxHeartbeats 8000000 in
set_option maxRecDepth 100000 in
theorem impl_within.calls (a0 : Int) (a1 : Int) (a2 : Int) (r : Bool) (w : World) (h : impl_within.f a0 a1 a2 = some r) :
  Calls Try.prog 65 #[.int .i64 a0, .int .i64 a1, .int .i64 a2] w fun e w' => e = .returned (.bool r) ∧ Drawn0 w w' := by
 have H : (if a0 ≥ a1 then (some (decide (a0 ≤ a2))) else (some false)) = some r := h
 clear h
 by_cases c4 : a0 ≥ a1
 ·rw [if_pos c4] at H
  have c4b0 := decide_eq_true c4
  clear c4
  obtain rfl := Option.some.inj H
  go_enter Try.func65, Try.ntmps65
  go_wp2
  go_ret
  exact ⟨by first | rfl | (simp; done) | (simp [*]; done), q_0⟩
 ·rw [if_neg c4] at H
  have c4b0 := decide_eq_false c4
  clear c4
  obtain rfl := Option.some.inj H
  go_enter Try.func65, Try.ntmps65
  go_wp2
  go_ret
  exact ⟨by first | rfl | (simp; done) | (simp [*]; done), q_0⟩

/-! ### impl_isAsset: function 67 -/
def impl_isAsset.f (a0 : Int) : Option (Bool) := (impl_within.f a0 0 2).bind fun t221 => (some t221)
set_option maxHeartbeats 8000000 in
set_option maxRecDepth 100000 in
theorem impl_isAsset.calls (a0 : Int) (r : Bool) (w : World) (h : impl_isAsset.f a0 = some r) :
  Calls Try.prog 67 #[.int .i64 a0] w fun e w' => e = .returned (.bool r) ∧ Drawn0 w w' := by
 have H : ((impl_within.f a0 0 2).bind fun t221 => (some t221)) = some r := h
 clear h
 replace H := Option.bind_eq_some_iff.mp H
 obtain ⟨t221, A20, H⟩ := H
 replace H : (some t221) = some r := H
 have A2 := Aside0.mk A20
 clear A20
 obtain rfl := Option.some.inj H
 go_enter Try.func67, Try.ntmps67
 go_wp2_with (first | ((with_reducible refine gate_callee (f := 65) rfl ?_); refine goesLq (some 4) rfl rfl Try.func65 (by kernel_rfl) rfl #[.int .i64 a0, .int .i64 0, .int .i64 2] rfl ?_; (with_reducible refine (impl_within.calls a0 0 2 t221 _ A2.out).mono ?_); rintro e w' ⟨rfl, ⟨nd, rfl⟩⟩; refine ⟨_, rfl, ?_⟩))
 go_ret
 exact ⟨by first | rfl | (simp; done) | (simp [*]; done), q_0⟩

/-! ### impl_isPlace: function 83 -/
def impl_isPlace.f (a0 : Int) (a1 : Int) : Option (Bool) := (impl_within.f a0 0 5).bind fun t222 => (if t222 = true then ((impl_isAsset.f a1).bind fun t223 => (some t223)) else (some false))
set_option maxHeartbeats 8000000 in
set_option maxRecDepth 100000 in
theorem impl_isPlace.calls (a0 : Int) (a1 : Int) (r : Bool) (w : World) (h : impl_isPlace.f a0 a1 = some r) :
  Calls Try.prog 83 #[.int .i64 a0, .int .i64 a1] w fun e w' => e = .returned (.bool r) ∧ Drawn0 w w' := by
 have H : ((impl_within.f a0 0 5).bind fun t222 => (if t222 = true then ((impl_isAsset.f a1).bind fun t223 => (some t223)) else (some false))) = some r := h
 clear h
 replace H := Option.bind_eq_some_iff.mp H
 obtain ⟨t222, A30, H⟩ := H
 replace H : (if t222 = true then ((impl_isAsset.f a1).bind fun t223 => (some t223)) else (some false)) = some r := H
 have A3 := Aside0.mk A30
 clear A30
 by_cases c4 : t222 = true
 ·subst c4
  have H1 : ((impl_isAsset.f a1).bind fun t223 => (some t223)) = some r := by rw [if_pos rfl] at H; exact H
  clear H
  have H := H1
  clear H1
  replace H := Option.bind_eq_some_iff.mp H
  obtain ⟨t223, A50, H⟩ := H
  replace H : (some t223) = some r := H
  have A5 := Aside0.mk A50
  clear A50
  obtain rfl := Option.some.inj H
  go_enter Try.func83, Try.ntmps83
  go_wp2_with (first | ((with_reducible refine gate_callee (f := 65) rfl ?_); refine goesLq (some 6) rfl rfl Try.func65 (by kernel_rfl) rfl #[.int .i64 a0, .int .i64 0, .int .i64 5] rfl ?_; (with_reducible refine (impl_within.calls a0 0 5 true _ A3.out).mono ?_); rintro e w' ⟨rfl, ⟨nd, rfl⟩⟩; refine ⟨_, rfl, ?_⟩) | (go_at_call 67; (with_reducible refine (impl_isAsset.calls a1 t223 _ A5.out).mono ?_); rintro e w' ⟨rfl, ⟨nd, rfl⟩⟩))
  go_ret
  exact ⟨by first | rfl | (simp; done) | (simp [*]; done), q_0⟩
 ·replace c4 := Bool.eq_false_iff.mpr c4
  subst c4
  have H1 : (some false) = some r := by rw [if_neg (show ¬ (false = true) by decide)] at H; exact H
  clear H
  have H := H1
  clear H1
  obtain rfl := Option.some.inj H
  go_enter Try.func83, Try.ntmps83
  go_wp2_with (first | ((with_reducible refine gate_callee (f := 65) rfl ?_); refine goesLq (some 6) rfl rfl Try.func65 (by kernel_rfl) rfl #[.int .i64 a0, .int .i64 0, .int .i64 5] rfl ?_; (with_reducible refine (impl_within.calls a0 0 5 false _ A3.out).mono ?_); rintro e w' ⟨rfl, ⟨nd, rfl⟩⟩; refine ⟨_, rfl, ?_⟩))
  go_ret
  exact ⟨by first | rfl | (simp; done) | (simp [*]; done), q_0⟩

/-! ### cmp_Or_int: function 111 -/
def cmp_Or_int.l0 : Nat → Int → List Int → Int → Int → Option (Int)
  | 0, _, _, _, _ => none
  | k + 1, x3, x6, x7, x8 => if x8 < x7 then (if 0 ≤ x8 then (if x8 < (x6.length : Int) then (if (rd x6 x8) = x3 then (cmp_Or_int.l0 k x3 x6 x7 (wrap64 (x8 + 1))) else (some (rd x6 x8))) else (none)) else (none)) else (some x3)
def cmp_Or_int.f (k : Nat) (l0 : List Int) : Option (Int) := cmp_Or_int.l0 k 0 l0 (l0.length : Int) 0
set_option maxHeartbeats 8000000 in
set_option maxRecDepth 100000 in
theorem cmp_Or_int.calls (k : Nat) (A0 : Option Addr) (c0 : Nat) (l0 : List Int) (r : Int) (w : World) (hr0 : Kd.C (Kd.int .i64) w A0 l0.length l0) (hc0 : l0.length ≤ c0) (h : cmp_Or_int.f k l0 = some r) :
  Calls Try.prog 111 #[.slice A0 l0.length c0] w fun e w' => e = .returned (.int .i64 r) ∧ Drawn0 w w' := by
 have HR0 := Aside0.mk hr0
 have HC0 := Aside0.mk hc0
 clear hr0 hc0
 have H : (cmp_Or_int.l0 k 0 l0 (l0.length : Int) 0) = some r := h
 clear h
 have H' := Aside0.mk H
 clear H
 go_enter Try.func111, Try.ntmps111
 go_wp2
 go_loopg [8] k (fun kq v8 w' => ∃ (x8_1 : Int), v8 = .int .i64 x8_1 ∧ Aside0 (cmp_Or_int.l0 kq 0 l0 (l0.length : Int) x8_1 = some r) ∧ Aside0 (kq ≤ k) ∧ Drawn0 w w')
 case atStart => exact ⟨(0), q_i, H', ⟨Nat.le_refl _⟩, q_0⟩
 case round =>
  clear H'
  (try clear c1)
  obtain ⟨x8_1, rfl, HA, HK1, ⟨m1, rfl⟩⟩ := hrel
  cases gk with
  | zero => exact absurd HA.out (by simp [cmp_Or_int.l0])
  | succ k1 =>
   have H := HA.out
   clear HA
   simp only [cmp_Or_int.l0] at H
   by_cases c2 : x8_1 < (l0.length : Int)
   ·rw [if_pos c2] at H
    have c2b0 := decide_eq_true c2
    clear c2
    by_cases c3 : 0 ≤ x8_1
    ·rw [if_pos c3] at H
     have c3b0 := decide_eq_true c3
     clear c3
     by_cases c4 : x8_1 < (l0.length : Int)
     ·rw [if_pos c4] at H
      have c4b0 := decide_eq_true c4
      clear c4
      by_cases c5 : (rd l0 x8_1) = 0
      ·rw [if_pos c5] at H
       have c5b0 : ((rd l0 x8_1) == 0) = true := beq_iff_eq.mpr c5
       have c5b1 : ((rd l0 x8_1) != 0) = false := bne_eq_false_iff_eq.mpr c5
       clear c5
       have H' := Aside0.mk H
       clear H
       have p224 : 0 ≤ (x8_1 : Int) := q_d
       have q224 : x8_1 < (l0.length : Int) := q_d
       obtain ⟨ad224, e224, hx224_0⟩ := Kd.at_int HR0.out x8_1 p224 q224
       cases e224
       replace p224 := eq_true p224
       replace q224 := eq_true q224
       go_wp2
       go_roundg k1
       case measure => have := HK1.out; omega
       case rel => exact ⟨(wrap64 (x8_1 + 1)), q_i, H', ⟨by have := HK1.out; omega⟩, q_0⟩
      ·rw [if_neg c5] at H
       have c5b0 : ((rd l0 x8_1) == 0) = false := beq_eq_false_iff_ne.mpr c5
       have c5b1 : ((rd l0 x8_1) != 0) = true := bne_iff_ne.mpr c5
       obtain rfl := Option.some.inj H
       have p224 : 0 ≤ (x8_1 : Int) := q_d
       have q224 : x8_1 < (l0.length : Int) := q_d
       obtain ⟨ad224, e224, hx224_0⟩ := Kd.at_int HR0.out x8_1 p224 q224
       cases e224
       replace p224 := eq_true p224
       replace q224 := eq_true q224
       go_wp2
       go_ret
       exact ⟨by first | rfl | (simp; done) | (simp [*]; done), q_0⟩
     ·rw [if_neg c4] at H
      exact absurd H (by simp)
    ·rw [if_neg c3] at H
     exact absurd H (by simp)
   ·rw [if_neg c2] at H
    have c2b0 := decide_eq_false c2
    clear c2
    obtain rfl := Option.some.inj H
    go_wp2
    go_ret
    exact ⟨by first | rfl | (simp; done) | (simp [*]; done), q_0⟩

/-! ### cmp_isNaN_int64: function 126 -/
def cmp_isNaN_int64.f (a0 : Int) : Option (Bool) := some (a0 != a0)
set_option maxHeartbeats 8000000 in
set_option maxRecDepth 100000 in
theorem cmp_isNaN_int64.calls (a0 : Int) (r : Bool) (w : World) (h : cmp_isNaN_int64.f a0 = some r) :
  Calls Try.prog 126 #[.int .i64 a0] w fun e w' => e = .returned (.bool r) ∧ Drawn0 w w' := by
 have H : (some (a0 != a0)) = some r := h
 clear h
 obtain rfl := Option.some.inj H
 go_enter Try.func126, Try.ntmps126
 go_wp2
 go_ret
 exact ⟨by first | rfl | (simp; done) | (simp [*]; done), q_0⟩

end Go.Proofs.Ytanegggacfmkcaa.PFnExactCanSettle
