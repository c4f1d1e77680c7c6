/- The functions that a law reaches, each as a plain Lean function with the proof that the machine comes to its answer: written by program (the kit's print, turned by wip/gen). No conditions. -/
import Derived.Test.YtanegggacfmkcaaPFnExactSettleOnex0
import Derived.Test.YtanegggacfmkcaaPFnExactSettleOnex11
import Derived.Test.YtanegggacfmkcaaPFnExactSettleOnex12
namespace Go.Proofs.Ytanegggacfmkcaa.PFnExactSettleOne
open Go.RowKit Go.Proofs.YtanegggacfmkcaaW.PrintWords Go.Proofs.YtanegggacfmkcaaW.PrintLast Go.Proofs.YtanegggacfmkcaaW.PrintMore
attribute [local go_sem] max2_int min2_int max_two min_two max_three min_three max_four min_four   -- for this text's walks alone
set_option linter.unusedVariables false
set_option linter.unusedSimpArgs false

/-! ### spec_l2Legs: function 106 -/
def spec_l2Legs.l0 : Nat → List (S104) → List (S86) → Int → Option (Int)
  | 0, _, _, _ => none
  | k + 1, x0, x1, x5 => if x5 < (x1.length : Int) then (if 0 ≤ x5 then ((spec_l2Has.f k x0 ((rd_T86 x1 x5).f1) ((rd_T86 x1 x5).f2)).bind fun t278 => (if (wrap64 (t278 + ((rd_T86 x1 x5).f3))) < 0 then (some 6) else (if (wrap64 (t278 + ((rd_T86 x1 x5).f3))) > 1000000000000 then (some 3) else (spec_l2Legs.l0 k x0 x1 (wrap64 (x5 + 1)))))) else (none)) else (some 0)
def spec_l2Legs.f (k : Nat) (l0 : List (S104)) (l1 : List (S86)) : Option (Int) := spec_l2Legs.l0 k l0 l1 0
set_option maxHeartbeats 8000000 in
set_option maxRecDepth 100000 in
theorem spec_l2Legs.calls (k : Nat) (A0 : Option Addr) (c0 : Nat) (l0 : List (S104)) (A1 : Option Addr) (c1 : Nat) (l1 : List (S86)) (r : Int) (w : World) (hr0 : Kd.C k104 w A0 l0.length l0) (hc0 : l0.length ≤ c0) (hr1 : Kd.C k86 w A1 l1.length l1) (hc1 : l1.length ≤ c1) (h : spec_l2Legs.f k l0 l1 = some r) :
  Calls Try.prog 106 #[.slice A0 l0.length c0, .slice A1 l1.length c1] w fun e w' => e = .returned (.int .i64 r) ∧ Drawn0 w w' := by
 have HR0 := Aside0.mk hr0
 have HC0 := Aside0.mk hc0
 clear hr0 hc0
 have HR1 := Aside0.mk hr1
 have HC1 := Aside0.mk hc1
 clear hr1 hc1
 have H : (spec_l2Legs.l0 k l0 l1 0) = some r := h
 clear h
 have H' := Aside0.mk H
 clear H
 go_enter Try.func106, Try.ntmps106
 go_wp2
 repeat (go_quiet (fail); try go_wp2)
 go_loopg [5] k (fun kq v5 w' => ∃ (x5_1 : Int), v5 = .int .i64 x5_1 ∧ Aside0 (spec_l2Legs.l0 kq l0 l1 x5_1 = some r) ∧ Aside0 (kq ≤ k) ∧ Drawn0 w w')
 case atStart => exact ⟨(0), q_i, H', ⟨Nat.le_refl _⟩, q_0⟩
 case round =>
  clear H'
  (try clear c1); (try clear p2)
  obtain ⟨x5_1, rfl, HA, HK1, ⟨m1, rfl⟩⟩ := hrel
  cases gk with
  | zero => exact absurd HA.out (by simp [spec_l2Legs.l0])
  | succ k1 =>
   have H := HA.out
   clear HA
   simp only [spec_l2Legs.l0] at H
   by_cases c3 : x5_1 < (l1.length : Int)
   ·rw [if_pos c3] at H
    have c3b0 := decide_eq_true c3
    clear c3
    by_cases c4 : 0 ≤ x5_1
    ·rw [if_pos c4] at H
     have c4b0 := decide_eq_true c4
     clear c4
     replace H := Option.bind_eq_some_iff.mp H
     obtain ⟨t278, A50, H⟩ := H
     replace H : (if (wrap64 (t278 + ((rd_T86 l1 x5_1).f3))) < 0 then (some 6) else (if (wrap64 (t278 + ((rd_T86 l1 x5_1).f3))) > 1000000000000 then (some 3) else (spec_l2Legs.l0 k1 l0 l1 (wrap64 (x5_1 + 1))))) = some r := H
     have A5 := Aside0.mk A50
     clear A50
     by_cases c6 : (wrap64 (t278 + ((rd_T86 l1 x5_1).f3))) < 0
     ·rw [if_pos c6] at H
      have c6b0 := decide_eq_true c6
      have c6w0 : decide ((IntKind.i64.wrap (t278 + ((rd_T86 l1 x5_1).f3))) < 0) = true := by first | exact c6b0 | (simp only [i64_w]; exact c6b0)
      clear c6
      obtain rfl := Option.some.inj H
      have p276 : 0 ≤ (x5_1 : Int) := q_d
      have q276 : x5_1 < (l1.length : Int) := q_d
      obtain ⟨ad276, e276, hx276_0, hx276_1, hx276_2, hx276_3⟩ := at_T86 HR1.out x5_1 p276 q276
      cases e276
      replace p276 := eq_true p276
      replace q276 := eq_true q276
      have p277 : 0 ≤ (x5_1 : Int) := q_d
      have q277 : x5_1 < (l1.length : Int) := q_d
      obtain ⟨ad277, e277, hx277_0, hx277_1, hx277_2, hx277_3⟩ := at_T86 HR1.out x5_1 p277 q277
      obtain rfl : ad276 = ad277 := (by injection e277)
      replace p277 := eq_true p277
      replace q277 := eq_true q277
      go_wp2_with (first | (go_at_call 89; (with_reducible refine (spec_l2Has.calls k1 _ _ l0 ((rd_T86 l1 x5_1).f1) ((rd_T86 l1 x5_1).f2) t278 _ ?side1 ?side2 A5.out).mono ?_); (case side1 => exact q_c (HR0.out)); (case side2 => exact HC0.out); rintro e w' ⟨rfl, ⟨nd, rfl⟩⟩; (try first | exact ⟨rfl, _, World.drewN_drewN _ _ _⟩ | exact ⟨rfl, _, Eq.trans (World.drewN_drewN _ _ _) (congrArg (World.drewN _) (Nat.add_assoc _ _ _))⟩); have p279 : 0 ≤ (x5_1 : Int) := q_d; have q279 : x5_1 < (l1.length : Int) := q_d; obtain ⟨ad279, e279, hx279_0, hx279_1, hx279_2, hx279_3⟩ := at_T86 HR1.out x5_1 p279 q279; obtain rfl : ad276 = ad279 := (by injection e279); replace p279 := eq_true p279; replace q279 := eq_true q279))
      repeat (go_quiet (first | (go_at_call 89; (with_reducible refine (spec_l2Has.calls k1 _ _ l0 ((rd_T86 l1 x5_1).f1) ((rd_T86 l1 x5_1).f2) t278 _ ?side1 ?side2 A5.out).mono ?_); (case side1 => exact q_c (HR0.out)); (case side2 => exact HC0.out); rintro e w' ⟨rfl, ⟨nd, rfl⟩⟩; (try first | exact ⟨rfl, _, World.drewN_drewN _ _ _⟩ | exact ⟨rfl, _, Eq.trans (World.drewN_drewN _ _ _) (congrArg (World.drewN _) (Nat.add_assoc _ _ _))⟩); have p279 : 0 ≤ (x5_1 : Int) := q_d; have q279 : x5_1 < (l1.length : Int) := q_d; obtain ⟨ad279, e279, hx279_0, hx279_1, hx279_2, hx279_3⟩ := at_T86 HR1.out x5_1 p279 q279; obtain rfl : ad276 = ad279 := (by injection e279); replace p279 := eq_true p279; replace q279 := eq_true q279)); try go_wp2_with (first | (go_at_call 89; (with_reducible refine (spec_l2Has.calls k1 _ _ l0 ((rd_T86 l1 x5_1).f1) ((rd_T86 l1 x5_1).f2) t278 _ ?side1 ?side2 A5.out).mono ?_); (case side1 => exact q_c (HR0.out)); (case side2 => exact HC0.out); rintro e w' ⟨rfl, ⟨nd, rfl⟩⟩; (try first | exact ⟨rfl, _, World.drewN_drewN _ _ _⟩ | exact ⟨rfl, _, Eq.trans (World.drewN_drewN _ _ _) (congrArg (World.drewN _) (Nat.add_assoc _ _ _))⟩); have p279 : 0 ≤ (x5_1 : Int) := q_d; have q279 : x5_1 < (l1.length : Int) := q_d; obtain ⟨ad279, e279, hx279_0, hx279_1, hx279_2, hx279_3⟩ := at_T86 HR1.out x5_1 p279 q279; obtain rfl : ad276 = ad279 := (by injection e279); replace p279 := eq_true p279; replace q279 := eq_true q279)))
      go_ret
      exact ⟨by first | rfl | (simp; done) | (simp [*]; done), q_0⟩
     ·rw [if_neg c6] at H
      have c6b0 := decide_eq_false c6
      have c6w0 : decide ((IntKind.i64.wrap (t278 + ((rd_T86 l1 x5_1).f3))) < 0) = false := by first | exact c6b0 | (simp only [i64_w]; exact c6b0)
      clear c6
      by_cases c7 : (wrap64 (t278 + ((rd_T86 l1 x5_1).f3))) > 1000000000000
      ·rw [if_pos c7] at H
       have c7b0 := decide_eq_true c7
       have c7w0 : decide (1000000000000 < (IntKind.i64.wrap (t278 + ((rd_T86 l1 x5_1).f3)))) = true := by first | exact c7b0 | (simp only [i64_w]; exact c7b0)
       clear c7
       obtain rfl := Option.some.inj H
       have p276 : 0 ≤ (x5_1 : Int) := q_d
       have q276 : x5_1 < (l1.length : Int) := q_d
       obtain ⟨ad276, e276, hx276_0, hx276_1, hx276_2, hx276_3⟩ := at_T86 HR1.out x5_1 p276 q276
       cases e276
       replace p276 := eq_true p276
       replace q276 := eq_true q276
       have p277 : 0 ≤ (x5_1 : Int) := q_d
       have q277 : x5_1 < (l1.length : Int) := q_d
       obtain ⟨ad277, e277, hx277_0, hx277_1, hx277_2, hx277_3⟩ := at_T86 HR1.out x5_1 p277 q277
       obtain rfl : ad276 = ad277 := (by injection e277)
       replace p277 := eq_true p277
       replace q277 := eq_true q277
       go_wp2_with (first | (go_at_call 89; (with_reducible refine (spec_l2Has.calls k1 _ _ l0 ((rd_T86 l1 x5_1).f1) ((rd_T86 l1 x5_1).f2) t278 _ ?side1 ?side2 A5.out).mono ?_); (case side1 => exact q_c (HR0.out)); (case side2 => exact HC0.out); rintro e w' ⟨rfl, ⟨nd, rfl⟩⟩; (try first | exact ⟨rfl, _, World.drewN_drewN _ _ _⟩ | exact ⟨rfl, _, Eq.trans (World.drewN_drewN _ _ _) (congrArg (World.drewN _) (Nat.add_assoc _ _ _))⟩); have p279 : 0 ≤ (x5_1 : Int) := q_d; have q279 : x5_1 < (l1.length : Int) := q_d; obtain ⟨ad279, e279, hx279_0, hx279_1, hx279_2, hx279_3⟩ := at_T86 HR1.out x5_1 p279 q279; obtain rfl : ad276 = ad279 := (by injection e279); replace p279 := eq_true p279; replace q279 := eq_true q279))
       repeat (go_quiet (first | (go_at_call 89; (with_reducible refine (spec_l2Has.calls k1 _ _ l0 ((rd_T86 l1 x5_1).f1) ((rd_T86 l1 x5_1).f2) t278 _ ?side1 ?side2 A5.out).mono ?_); (case side1 => exact q_c (HR0.out)); (case side2 => exact HC0.out); rintro e w' ⟨rfl, ⟨nd, rfl⟩⟩; (try first | exact ⟨rfl, _, World.drewN_drewN _ _ _⟩ | exact ⟨rfl, _, Eq.trans (World.drewN_drewN _ _ _) (congrArg (World.drewN _) (Nat.add_assoc _ _ _))⟩); have p279 : 0 ≤ (x5_1 : Int) := q_d; have q279 : x5_1 < (l1.length : Int) := q_d; obtain ⟨ad279, e279, hx279_0, hx279_1, hx279_2, hx279_3⟩ := at_T86 HR1.out x5_1 p279 q279; obtain rfl : ad276 = ad279 := (by injection e279); replace p279 := eq_true p279; replace q279 := eq_true q279)); try go_wp2_with (first | (go_at_call 89; (with_reducible refine (spec_l2Has.calls k1 _ _ l0 ((rd_T86 l1 x5_1).f1) ((rd_T86 l1 x5_1).f2) t278 _ ?side1 ?side2 A5.out).mono ?_); (case side1 => exact q_c (HR0.out)); (case side2 => exact HC0.out); rintro e w' ⟨rfl, ⟨nd, rfl⟩⟩; (try first | exact ⟨rfl, _, World.drewN_drewN _ _ _⟩ | exact ⟨rfl, _, Eq.trans (World.drewN_drewN _ _ _) (congrArg (World.drewN _) (Nat.add_assoc _ _ _))⟩); have p279 : 0 ≤ (x5_1 : Int) := q_d; have q279 : x5_1 < (l1.length : Int) := q_d; obtain ⟨ad279, e279, hx279_0, hx279_1, hx279_2, hx279_3⟩ := at_T86 HR1.out x5_1 p279 q279; obtain rfl : ad276 = ad279 := (by injection e279); replace p279 := eq_true p279; replace q279 := eq_true q279)))
       go_ret
       exact ⟨by first | rfl | (simp; done) | (simp [*]; done), q_0⟩
      ·rw [if_neg c7] at H
       have c7b0 := decide_eq_false c7
       have c7w0 : decide (1000000000000 < (IntKind.i64.wrap (t278 + ((rd_T86 l1 x5_1).f3)))) = false := by first | exact c7b0 | (simp only [i64_w]; exact c7b0)
       clear c7
       have H' := Aside0.mk H
       clear H
       have p276 : 0 ≤ (x5_1 : Int) := q_d
       have q276 : x5_1 < (l1.length : Int) := q_d
       obtain ⟨ad276, e276, hx276_0, hx276_1, hx276_2, hx276_3⟩ := at_T86 HR1.out x5_1 p276 q276
       cases e276
       replace p276 := eq_true p276
       replace q276 := eq_true q276
       have p277 : 0 ≤ (x5_1 : Int) := q_d
       have q277 : x5_1 < (l1.length : Int) := q_d
       obtain ⟨ad277, e277, hx277_0, hx277_1, hx277_2, hx277_3⟩ := at_T86 HR1.out x5_1 p277 q277
       obtain rfl : ad276 = ad277 := (by injection e277)
       replace p277 := eq_true p277
       replace q277 := eq_true q277
       go_wp2_with (first | (go_at_call 89; (with_reducible refine (spec_l2Has.calls k1 _ _ l0 ((rd_T86 l1 x5_1).f1) ((rd_T86 l1 x5_1).f2) t278 _ ?side1 ?side2 A5.out).mono ?_); (case side1 => exact q_c (HR0.out)); (case side2 => exact HC0.out); rintro e w' ⟨rfl, ⟨nd, rfl⟩⟩; (try first | exact ⟨rfl, _, World.drewN_drewN _ _ _⟩ | exact ⟨rfl, _, Eq.trans (World.drewN_drewN _ _ _) (congrArg (World.drewN _) (Nat.add_assoc _ _ _))⟩); have p279 : 0 ≤ (x5_1 : Int) := q_d; have q279 : x5_1 < (l1.length : Int) := q_d; obtain ⟨ad279, e279, hx279_0, hx279_1, hx279_2, hx279_3⟩ := at_T86 HR1.out x5_1 p279 q279; obtain rfl : ad276 = ad279 := (by injection e279); replace p279 := eq_true p279; replace q279 := eq_true q279))
       repeat (go_quiet (first | (go_at_call 89; (with_reducible refine (spec_l2Has.calls k1 _ _ l0 ((rd_T86 l1 x5_1).f1) ((rd_T86 l1 x5_1).f2) t278 _ ?side1 ?side2 A5.out).mono ?_); (case side1 => exact q_c (HR0.out)); (case side2 => exact HC0.out); rintro e w' ⟨rfl, ⟨nd, rfl⟩⟩; (try first | exact ⟨rfl, _, World.drewN_drewN _ _ _⟩ | exact ⟨rfl, _, Eq.trans (World.drewN_drewN _ _ _) (congrArg (World.drewN _) (Nat.add_assoc _ _ _))⟩); have p279 : 0 ≤ (x5_1 : Int) := q_d; have q279 : x5_1 < (l1.length : Int) := q_d; obtain ⟨ad279, e279, hx279_0, hx279_1, hx279_2, hx279_3⟩ := at_T86 HR1.out x5_1 p279 q279; obtain rfl : ad276 = ad279 := (by injection e279); replace p279 := eq_true p279; replace q279 := eq_true q279)); try go_wp2_with (first | (go_at_call 89; (with_reducible refine (spec_l2Has.calls k1 _ _ l0 ((rd_T86 l1 x5_1).f1) ((rd_T86 l1 x5_1).f2) t278 _ ?side1 ?side2 A5.out).mono ?_); (case side1 => exact q_c (HR0.out)); (case side2 => exact HC0.out); rintro e w' ⟨rfl, ⟨nd, rfl⟩⟩; (try first | exact ⟨rfl, _, World.drewN_drewN _ _ _⟩ | exact ⟨rfl, _, Eq.trans (World.drewN_drewN _ _ _) (congrArg (World.drewN _) (Nat.add_assoc _ _ _))⟩); have p279 : 0 ≤ (x5_1 : Int) := q_d; have q279 : x5_1 < (l1.length : Int) := q_d; obtain ⟨ad279, e279, hx279_0, hx279_1, hx279_2, hx279_3⟩ := at_T86 HR1.out x5_1 p279 q279; obtain rfl : ad276 = ad279 := (by injection e279); replace p279 := eq_true p279; replace q279 := eq_true q279)))
       go_roundg k1
       case measure => have := HK1.out; omega
       case rel => exact ⟨(wrap64 (x5_1 + 1)), q_i, H', ⟨by have := HK1.out; omega⟩, q_0⟩
    ·rw [if_neg c4] at H
     exact absurd H (by simp)
   ·rw [if_neg c3] at H
    have c3b0 := decide_eq_false c3
    clear c3
    obtain rfl := Option.some.inj H
    go_wp2
    repeat (go_quiet (fail); try go_wp2)
    go_ret
    exact ⟨by first | rfl | (simp; done) | (simp [*]; done), q_0⟩

/-! ### spec_l2Can: function 64 -/
mutual
def spec_l2Can.l0 : Nat → Int → List (List (S104)) → Int → List (S86) → Option (Int)
  | 0, _, _, _, _ => none
  | k + 1, x6, x281000, x282000, x282001 => if x6 < (x282001.length : Int) then (if 0 ≤ x6 then (if ((rd_T86 x282001 x6).f0) ≥ (x281000.length : Int) then (some 4) else (spec_l2Can.l0 k (wrap64 (x6 + 1)) x281000 x282000 x282001)) else (none)) else (spec_l2Can.l1 k 0 x281000 x282000 x282001)
def spec_l2Can.l1 : Nat → Int → List (List (S104)) → Int → List (S86) → Option (Int)
  | 0, _, _, _, _ => none
  | k + 1, x7, x281000, x282000, x282001 => if x7 < (x282001.length : Int) then (if 0 ≤ x7 then (if 0 ≤ ((rd_T86 x282001 x7).f0) then (if ((rd_T86 x282001 x7).f0) < (x281000.length : Int) then (if x7 ≤ (wrap64 (x7 + 1)) then (if (wrap64 (x7 + 1)) ≤ (x282001.length : Int) then ((spec_l2Legs.f k (rd_L2 x281000 ((rd_T86 x282001 x7).f0)) ((x282001.take ((wrap64 (x7 + 1)) : Int).toNat).drop (x7 : Int).toNat)).bind fun t290 => (if t290 = 0 then (spec_l2Can.l1 k (wrap64 (x7 + 1)) x281000 x282000 x282001) else (some t290))) else (none)) else (none)) else (none)) else (none)) else (none)) else (some 0)
end
def spec_l2Can.f (k : Nat) (l0_0 : List (List (S104))) (a1_0 : Int) (l1_1 : List (S86)) : Option (Int) := (spec_ContractFault.f k a1_0 l1_1).bind fun t282 => (if t282 = 0 then (spec_l2Can.l0 k 0 l0_0 a1_0 l1_1) else (some t282))
set_option maxHeartbeats 8000000 in
set_option maxRecDepth 100000 in
theorem spec_l2Can.calls (k : Nat) (A0_0 : Option Addr) (c0_0 : Nat) (l0_0 : List (List (S104))) (a1_0 : Int) (A1_1 : Option Addr) (c1_1 : Nat) (l1_1 : List (S86)) (r : Int) (w : World) (hr0_0 : Kd.C (Kd.slice 104 k104) w A0_0 l0_0.length l0_0) (hc0_0 : l0_0.length ≤ c0_0) (hr1_1 : Kd.C k86 w A1_1 l1_1.length l1_1) (hc1_1 : l1_1.length ≤ c1_1) (h : spec_l2Can.f k l0_0 a1_0 l1_1 = some r) :
  Calls Try.prog 64 #[.agg #[.slice A0_0 l0_0.length c0_0], .agg #[.int .i64 a1_0, .slice A1_1 l1_1.length c1_1]] w fun e w' => e = .returned (.int .i64 r) ∧ Below w.heap.size w w' := by
 have hu26 := Try.underlying26
 have hu40 := Try.underlying40
 have HR0_0 := Aside0.mk hr0_0
 have HC0_0 := Aside0.mk hc0_0
 clear hr0_0 hc0_0
 have HR1_1 := Aside0.mk hr1_1
 have HC1_1 := Aside0.mk hc1_1
 clear hr1_1 hc1_1
 have HB := Aside0.mk (Below.refl w.heap.size w)
 have H : ((spec_ContractFault.f k a1_0 l1_1).bind fun t282 => (if t282 = 0 then (spec_l2Can.l0 k 0 l0_0 a1_0 l1_1) else (some t282))) = some r := h
 clear h
 replace H := Option.bind_eq_some_iff.mp H
 obtain ⟨t282, A30, H⟩ := H
 replace H : (if t282 = 0 then (spec_l2Can.l0 k 0 l0_0 a1_0 l1_1) else (some t282)) = some r := H
 have A3 := Aside0.mk A30
 clear A30
 by_cases c4 : t282 = 0
 ·rw [if_pos c4] at H
  have c4b0 : (t282 == 0) = true := beq_iff_eq.mpr c4
  have c4b1 : (t282 != 0) = false := bne_eq_false_iff_eq.mpr c4
  clear c4
  have H' := Aside0.mk H
  clear H
  go_enter Try.func64, Try.ntmps64
  go_wp2_with (first | ((with_reducible refine gate_dst (N := 2) rfl ?_); refine q_box (N := 2) (cs := #[.slice A0_0 l0_0.length c0_0]) (t := 26) ?_; intro gb280 hg w5 hbox hb; have n0_ := Aside0.mk (below_step bq hb); have n1_ := Aside0.mk (hbox); have n2_ := Aside0.mk ((q_g hg bq : w.heap.size ≤ gb280)); have n3_ := Aside0.mk ((q_g hg bq : w.heap.size ≤ gb280)); revert n0_ n1_ n2_ n3_; clear HB; intro HB BK280 GW280 GE280; clear hb hbox hg) | ((with_reducible refine gate_dst (N := 3) rfl ?_); refine q_box (N := 3) (cs := #[.int .i64 a1_0, .slice A1_1 l1_1.length c1_1]) (t := 40) ?_; intro gb281 hg w6 hbox hb; have n0_ := Aside0.mk (blk_below (q_b BK280.out) hb); have n1_ := Aside0.mk (below_step bq hb); have n2_ := Aside0.mk (hbox); have n3_ := Aside0.mk ((q_g hg bq : w.heap.size ≤ gb281)); have n4_ := Aside0.mk ((q_g hg bq : w.heap.size ≤ gb281)); have n5_ := Aside0.mk ((q_n hg (q_b BK280.out) : gb280 ≠ gb281)); have n6_ := Aside0.mk ((q_m hg (q_b BK280.out) : gb281 ≠ gb280)); revert n0_ n1_ n2_ n3_ n4_ n5_ n6_; clear BK280 HB; intro BK280 HB BK281 GW281 GE281 NB280_281 NB281_280; clear hb hbox hg; have hnb7 := NB281_280.out; have hnc7 := NB280_281.out; obtain ⟨hcz8_0, hcz8_1, hfz8_0, hfz8_1⟩ := q_2 BK281.out) | (go_at_call 105; (with_reducible refine (spec_ContractFault.calls k a1_0 _ _ l1_1 t282 _ ?side1 ?side2 A3.out).mono ?_); (case side1 => exact q_c ((Kd.C_below HR1_1.out HB.out))); (case side2 => exact HC1_1.out); rintro e w9 ⟨rfl, hb⟩; have n0_ := Aside0.mk (blk_below (q_b BK280.out) hb); have n1_ := Aside0.mk (blk_below (q_b BK281.out) hb); have n2_ := Aside0.mk (below_step bq hb); revert n0_ n1_ n2_; clear BK280 BK281 HB; intro BK280 BK281 HB; (try clear hb); (try clear hb2); (try clear hk); (try clear hi)))
  repeat (go_quiet (first | ((with_reducible refine gate_dst (N := 2) rfl ?_); refine q_box (N := 2) (cs := #[.slice A0_0 l0_0.length c0_0]) (t := 26) ?_; intro gb280 hg w5 hbox hb; have n0_ := Aside0.mk (below_step bq hb); have n1_ := Aside0.mk (hbox); have n2_ := Aside0.mk ((q_g hg bq : w.heap.size ≤ gb280)); have n3_ := Aside0.mk ((q_g hg bq : w.heap.size ≤ gb280)); revert n0_ n1_ n2_ n3_; clear HB; intro HB BK280 GW280 GE280; clear hb hbox hg) | ((with_reducible refine gate_dst (N := 3) rfl ?_); refine q_box (N := 3) (cs := #[.int .i64 a1_0, .slice A1_1 l1_1.length c1_1]) (t := 40) ?_; intro gb281 hg w6 hbox hb; have n0_ := Aside0.mk (blk_below (q_b BK280.out) hb); have n1_ := Aside0.mk (below_step bq hb); have n2_ := Aside0.mk (hbox); have n3_ := Aside0.mk ((q_g hg bq : w.heap.size ≤ gb281)); have n4_ := Aside0.mk ((q_g hg bq : w.heap.size ≤ gb281)); have n5_ := Aside0.mk ((q_n hg (q_b BK280.out) : gb280 ≠ gb281)); have n6_ := Aside0.mk ((q_m hg (q_b BK280.out) : gb281 ≠ gb280)); revert n0_ n1_ n2_ n3_ n4_ n5_ n6_; clear BK280 HB; intro BK280 HB BK281 GW281 GE281 NB280_281 NB281_280; clear hb hbox hg; have hnb7 := NB281_280.out; have hnc7 := NB280_281.out; obtain ⟨hcz8_0, hcz8_1, hfz8_0, hfz8_1⟩ := q_2 BK281.out) | (go_at_call 105; (with_reducible refine (spec_ContractFault.calls k a1_0 _ _ l1_1 t282 _ ?side1 ?side2 A3.out).mono ?_); (case side1 => exact q_c ((Kd.C_below HR1_1.out HB.out))); (case side2 => exact HC1_1.out); rintro e w9 ⟨rfl, hb⟩; have n0_ := Aside0.mk (blk_below (q_b BK280.out) hb); have n1_ := Aside0.mk (blk_below (q_b BK281.out) hb); have n2_ := Aside0.mk (below_step bq hb); revert n0_ n1_ n2_; clear BK280 BK281 HB; intro BK280 BK281 HB; (try clear hb); (try clear hb2); (try clear hk); (try clear hi))); try go_wp2_with (first | ((with_reducible refine gate_dst (N := 2) rfl ?_); refine q_box (N := 2) (cs := #[.slice A0_0 l0_0.length c0_0]) (t := 26) ?_; intro gb280 hg w5 hbox hb; have n0_ := Aside0.mk (below_step bq hb); have n1_ := Aside0.mk (hbox); have n2_ := Aside0.mk ((q_g hg bq : w.heap.size ≤ gb280)); have n3_ := Aside0.mk ((q_g hg bq : w.heap.size ≤ gb280)); revert n0_ n1_ n2_ n3_; clear HB; intro HB BK280 GW280 GE280; clear hb hbox hg) | ((with_reducible refine gate_dst (N := 3) rfl ?_); refine q_box (N := 3) (cs := #[.int .i64 a1_0, .slice A1_1 l1_1.length c1_1]) (t := 40) ?_; intro gb281 hg w6 hbox hb; have n0_ := Aside0.mk (blk_below (q_b BK280.out) hb); have n1_ := Aside0.mk (below_step bq hb); have n2_ := Aside0.mk (hbox); have n3_ := Aside0.mk ((q_g hg bq : w.heap.size ≤ gb281)); have n4_ := Aside0.mk ((q_g hg bq : w.heap.size ≤ gb281)); have n5_ := Aside0.mk ((q_n hg (q_b BK280.out) : gb280 ≠ gb281)); have n6_ := Aside0.mk ((q_m hg (q_b BK280.out) : gb281 ≠ gb280)); revert n0_ n1_ n2_ n3_ n4_ n5_ n6_; clear BK280 HB; intro BK280 HB BK281 GW281 GE281 NB280_281 NB281_280; clear hb hbox hg; have hnb7 := NB281_280.out; have hnc7 := NB280_281.out; obtain ⟨hcz8_0, hcz8_1, hfz8_0, hfz8_1⟩ := q_2 BK281.out) | (go_at_call 105; (with_reducible refine (spec_ContractFault.calls k a1_0 _ _ l1_1 t282 _ ?side1 ?side2 A3.out).mono ?_); (case side1 => exact q_c ((Kd.C_below HR1_1.out HB.out))); (case side2 => exact HC1_1.out); rintro e w9 ⟨rfl, hb⟩; have n0_ := Aside0.mk (blk_below (q_b BK280.out) hb); have n1_ := Aside0.mk (blk_below (q_b BK281.out) hb); have n2_ := Aside0.mk (below_step bq hb); revert n0_ n1_ n2_; clear BK280 BK281 HB; intro BK280 BK281 HB; (try clear hb); (try clear hb2); (try clear hk); (try clear hi))))
  go_loopg [6] k (fun kq v6 w' => ∃ (x6_1 : Int), v6 = .int .i64 x6_1 ∧ Aside0 (spec_l2Can.l0 kq x6_1 l0_0 a1_0 l1_1 = some r) ∧ Aside0 (kq ≤ k) ∧ Aside0 (w'.heap[gb280]? = some (.cells #[(.slice A0_0 l0_0.length c0_0)] 26 (0, 0))) ∧ Aside0 (w'.heap[gb281]? = some (.cells #[.int .i64 a1_0, (.slice A1_1 l1_1.length c1_1)] 40 (0, 0))) ∧ Aside0 (Below w.heap.size w w'))
  case atStart => exact ⟨(0), q_i, H', ⟨Nat.le_refl _⟩, ⟨q_b BK280.out⟩, ⟨q_b BK281.out⟩, ⟨bq⟩⟩
  case round =>
   clear H'
   (try clear c1); (try clear p2); (try clear c4); (try clear c4b0); (try clear c4b1); (try clear c6); (try clear c7); (try clear hcz8_0); (try clear hcz8_1); (try clear hfz8_0); (try clear hfz8_1)
   obtain ⟨x6_1, rfl, HA, HK1, BK280, BK281, HB⟩ := hrel
   cases gk with
   | zero => exact absurd HA.out (by simp [spec_l2Can.l0])
   | succ k1 =>
    have H := HA.out
    clear HA
    simp only [spec_l2Can.l0] at H
    by_cases c10 : x6_1 < (l1_1.length : Int)
    ·rw [if_pos c10] at H
     have c10b0 := decide_eq_true c10
     clear c10
     by_cases c11 : 0 ≤ x6_1
     ·rw [if_pos c11] at H
      have c11b0 := decide_eq_true c11
      clear c11
      by_cases c12 : ((rd_T86 l1_1 x6_1).f0) ≥ (l0_0.length : Int)
      ·rw [if_pos c12] at H
       have c12b0 := decide_eq_true c12
       clear c12
       obtain rfl := Option.some.inj H
       have hnb13 := NB281_280.out
       have hnc13 := NB280_281.out
       obtain ⟨hcz14_0, hcz14_1, hfz14_0, hfz14_1⟩ := q_2 BK281.out
       have p283 : 0 ≤ (x6_1 : Int) := q_d
       have q283 : x6_1 < (l1_1.length : Int) := q_d
       obtain ⟨ad283, e283, hx283_0, hx283_1, hx283_2, hx283_3⟩ := at_T86 HR1_1.out x6_1 p283 q283
       cases e283
       replace hx283_0 := q_x HB.out hx283_0
       replace hx283_1 := q_x HB.out hx283_1
       replace hx283_2 := q_x HB.out hx283_2
       replace hx283_3 := q_x HB.out hx283_3
       replace p283 := eq_true p283
       replace q283 := eq_true q283
       obtain ⟨hcz15_0, hfz15_0⟩ := q_1 BK280.out
       go_wp2
       repeat (go_quiet (fail); try go_wp2)
       go_ret
       exact ⟨q_e, bq⟩
      ·rw [if_neg c12] at H
       have c12b0 := decide_eq_false c12
       clear c12
       have H' := Aside0.mk H
       clear H
       have hnb16 := NB281_280.out
       have hnc16 := NB280_281.out
       obtain ⟨hcz17_0, hcz17_1, hfz17_0, hfz17_1⟩ := q_2 BK281.out
       have p283 : 0 ≤ (x6_1 : Int) := q_d
       have q283 : x6_1 < (l1_1.length : Int) := q_d
       obtain ⟨ad283, e283, hx283_0, hx283_1, hx283_2, hx283_3⟩ := at_T86 HR1_1.out x6_1 p283 q283
       cases e283
       replace hx283_0 := q_x HB.out hx283_0
       replace hx283_1 := q_x HB.out hx283_1
       replace hx283_2 := q_x HB.out hx283_2
       replace hx283_3 := q_x HB.out hx283_3
       replace p283 := eq_true p283
       replace q283 := eq_true q283
       obtain ⟨hcz18_0, hfz18_0⟩ := q_1 BK280.out
       go_wp2
       repeat (go_quiet (fail); try go_wp2)
       go_roundg k1
       case measure => have := HK1.out; omega
       case rel => exact ⟨(wrap64 (x6_1 + 1)), q_i, H', ⟨by have := HK1.out; omega⟩, ⟨q_b BK280.out⟩, ⟨q_b BK281.out⟩, ⟨bq⟩⟩
     ·rw [if_neg c11] at H
      exact absurd H (by simp)
    ·rw [if_neg c10] at H
     have c10b0 := decide_eq_false c10
     clear c10
     have H' := Aside0.mk H
     clear H
     have hnb19 := NB281_280.out
     have hnc19 := NB280_281.out
     obtain ⟨hcz20_0, hcz20_1, hfz20_0, hfz20_1⟩ := q_2 BK281.out
     go_wp2
     repeat (go_quiet (fail); try go_wp2)
     go_loopg [7] k1 (fun kq v7 w' => ∃ (x7_2 : Int), v7 = .int .i64 x7_2 ∧ Aside0 (spec_l2Can.l1 kq x7_2 l0_0 a1_0 l1_1 = some r) ∧ Aside0 (kq ≤ k1) ∧ Aside0 (w'.heap[gb280]? = some (.cells #[(.slice A0_0 l0_0.length c0_0)] 26 (0, 0))) ∧ Aside0 (w'.heap[gb281]? = some (.cells #[.int .i64 a1_0, (.slice A1_1 l1_1.length c1_1)] 40 (0, 0))) ∧ Aside0 (Below w.heap.size w w'))
     case atStart => exact ⟨(0), q_i, H', ⟨Nat.le_refl _⟩, ⟨q_b BK280.out⟩, ⟨q_b BK281.out⟩, ⟨bq⟩⟩
     case round =>
      clear H'
      (try clear c1); (try clear p2); (try clear q2); (try clear hx2); (try clear c4); (try clear c4b0); (try clear c4b1); (try clear c6); (try clear p6); (try clear c7); (try clear c10); (try clear c10b0)
      (try clear c11); (try clear c11b0); (try clear c12); (try clear c12b0); (try clear c13); (try clear c16); (try clear c19); (try clear hcz14_0); (try clear hcz14_1); (try clear hcz15_0); (try clear hcz17_0)
      (try clear hcz17_1); (try clear hcz18_0); (try clear hcz20_0); (try clear hcz20_1); (try clear hcz8_0); (try clear hcz8_1); (try clear hfz14_0); (try clear hfz14_1); (try clear hfz15_0); (try clear hfz17_0)
      (try clear hfz17_1); (try clear hfz18_0); (try clear hfz20_0); (try clear hfz20_1); (try clear hfz8_0); (try clear hfz8_1); (try clear hx283_0); (try clear hx283_1); (try clear hx283_2); (try clear hx283_3)
      (try clear p2); (try clear p283); (try clear q283)
      obtain ⟨x7_2, rfl, HA, HK2, BK280, BK281, HB⟩ := hrel
      cases gk with
      | zero => exact absurd HA.out (by simp [spec_l2Can.l1])
      | succ k2 =>
       have H := HA.out
       clear HA
       simp only [spec_l2Can.l1] at H
       by_cases c21 : x7_2 < (l1_1.length : Int)
       ·rw [if_pos c21] at H
        have c21b0 := decide_eq_true c21
        clear c21
        by_cases c22 : 0 ≤ x7_2
        ·rw [if_pos c22] at H
         have c22b0 := decide_eq_true c22
         clear c22
         by_cases c23 : 0 ≤ ((rd_T86 l1_1 x7_2).f0)
         ·rw [if_pos c23] at H
          have c23b0 := decide_eq_true c23
          clear c23
          by_cases c24 : ((rd_T86 l1_1 x7_2).f0) < (l0_0.length : Int)
          ·rw [if_pos c24] at H
           have c24b0 := decide_eq_true c24
           clear c24
           have c25b0 := eq_true (q_d : 0 ≤ x7_2)
           by_cases c26 : x7_2 ≤ (wrap64 (x7_2 + 1))
           ·rw [if_pos c26] at H
            have c26b0 := eq_true c26
            have c26b1 := decide_eq_true c26
            by_cases c27 : (wrap64 (x7_2 + 1)) ≤ (l1_1.length : Int)
            ·rw [if_pos c27] at H
             have c27b0 := eq_true c27
             have c27b1 := decide_eq_true c27
             obtain ⟨y286, hy286⟩ : ∃ y_ : List (S86), y_ = ((l1_1.take ((wrap64 (x7_2 + 1)) : Int).toNat).drop (x7_2 : Int).toNat) := ⟨_, rfl⟩
             replace H : ((spec_l2Legs.f k2 (rd_L2 l0_0 ((rd_T86 l1_1 x7_2).f0)) y286).bind fun t290 => (if t290 = 0 then (spec_l2Can.l1 k2 (wrap64 (x7_2 + 1)) l0_0 a1_0 l1_1) else (some t290))) = some r := q_h hy286 H
             have Ny286 := Aside0.mk hy286
             clear hy286
             replace H := Option.bind_eq_some_iff.mp H
             obtain ⟨t290, A280, H⟩ := H
             replace H : (if t290 = 0 then (spec_l2Can.l1 k2 (wrap64 (x7_2 + 1)) l0_0 a1_0 l1_1) else (some t290)) = some r := H
             have A28 := Aside0.mk A280
             clear A280
             by_cases c29 : t290 = 0
             ·rw [if_pos c29] at H
              have c29b0 : (t290 == 0) = true := beq_iff_eq.mpr c29
              have c29b1 : (t290 != 0) = false := bne_eq_false_iff_eq.mpr c29
              clear c29
              have H' := Aside0.mk H
              clear H
              have hnb30 := NB281_280.out
              have hnc30 := NB280_281.out
              obtain ⟨hcz31_0, hcz31_1, hfz31_0, hfz31_1⟩ := q_2 BK281.out
              obtain ⟨hcz32_0, hfz32_0⟩ := q_1 BK280.out
              have p284 : 0 ≤ (x7_2 : Int) := q_d
              have q284 : x7_2 < (l1_1.length : Int) := q_d
              obtain ⟨ad284, e284, hx284_0, hx284_1, hx284_2, hx284_3⟩ := at_T86 HR1_1.out x7_2 p284 q284
              cases e284
              replace hx284_0 := q_x HB.out hx284_0
              replace hx284_1 := q_x HB.out hx284_1
              replace hx284_2 := q_x HB.out hx284_2
              replace hx284_3 := q_x HB.out hx284_3
              replace p284 := eq_true p284
              replace q284 := eq_true q284
              have p285 : 0 ≤ (((rd_T86 l1_1 x7_2).f0) : Int) := q_d
              have q285 : ((rd_T86 l1_1 x7_2).f0) < (l0_0.length : Int) := q_d
              obtain ⟨ad285, A285_0, c285_0, e285, hx285_0, hl285_0, hi285_0⟩ := at_L2 HR0_0.out ((rd_T86 l1_1 x7_2).f0) p285 q285
              cases e285
              replace hx285_0 := q_x HB.out hx285_0
              have HR285_0 := Aside0.mk hi285_0
              have HC285_0 := Aside0.mk hl285_0
              clear hi285_0 hl285_0
              replace p285 := eq_true p285
              replace q285 := eq_true q285
              have q33 : ((wrap64 (x7_2 + 1)) : Int) ≤ ((l1_1.length : Int) : Int) := q_d
              obtain ⟨i033, hi033, _, hsz33, _⟩ := info_parts info86
              have hroom33 : l1_1.length ≤ c1_1 := HC1_1.out
              have hC33 : Kd.C k86 _ (some ad284) l1_1.length l1_1 := HR1_1.out
              have ql33 : (x7_2 : Int) ≤ ((wrap64 (x7_2 + 1)) : Int) := q_d
              have q033 : (0 : Int) ≤ (x7_2 : Int) := q_d
              have hcut33 := cut_mid (P := Try.prog) 38 86 .i64 .i64 Try.underlying38 hi033 4 hsz33 (some ad284) l1_1.length c1_1 x7_2 (wrap64 (x7_2 + 1)) q033 ql33 q33 hroom33
              have hr33 := Kd.C_mid (lo := (x7_2 : Int).toNat) (hi := ((wrap64 (x7_2 + 1)) : Int).toNat) (c := c1_1) hC33 (by omega) (by omega) hroom33
              obtain ⟨A33, hA33⟩ : ∃ A1, A1 = (if c1_1 = (x7_2 : Int).toNat then (some ad284) else ((some ad284) : Option Addr).map (·.add ((x7_2 : Int).toNat * 4))) := ⟨_, rfl⟩
              obtain ⟨c33, hc33⟩ : ∃ c1, c1 = c1_1 - (x7_2 : Int).toNat := ⟨_, rfl⟩
              have hy33 : y286.length = ((wrap64 (x7_2 + 1)) : Int).toNat - (x7_2 : Int).toNat := (by rw [Ny286.out, List.length_drop, List.length_take] <;> omega)
              rw [show ((l1_1).take ((wrap64 (x7_2 + 1)) : Int).toNat).drop (x7_2 : Int).toNat = y286 from Ny286.out.symm] at hr33
              replace hr33 : Kd.C k86 _ A33 y286.length y286 := (by rw [hA33]; exact hr33)
              rw [← hy33, ← hA33, ← hc33] at hcut33
              have HR289 := Aside0.mk hr33
              have HC289 := Aside0.mk (show y286.length ≤ c33 from by rw [hy33, hc33]; exact Nat.sub_le_sub_right (Nat.le_trans (by omega) hroom33) _)
              clear hr33 hC33 hroom33 hi033 hsz33 hc33
              have KY33 := Aside0.mk hy33
              have KA33 := Aside0.mk hA33
              clear hy33 hA33
              replace q33 := eq_true q33
              go_wp2_with (first | (go_at_call 106; (with_reducible refine (spec_l2Legs.calls k2 _ _ (rd_L2 l0_0 ((rd_T86 l1_1 x7_2).f0)) _ _ y286 t290 _ ?side1 ?side2 ?side3 ?side4 A28.out).mono ?_); (case side1 => exact q_c ((Kd.C_below HR285_0.out HB.out))); (case side2 => exact HC285_0.out); (case side3 => exact q_c ((Kd.C_below HR289.out HB.out))); (case side4 => exact HC289.out); rintro e w' ⟨rfl, ⟨nd, rfl⟩⟩; (try first | exact ⟨rfl, _, World.drewN_drewN _ _ _⟩ | exact ⟨rfl, _, Eq.trans (World.drewN_drewN _ _ _) (congrArg (World.drewN _) (Nat.add_assoc _ _ _))⟩)))
              repeat (go_quiet (first | (go_at_call 106; (with_reducible refine (spec_l2Legs.calls k2 _ _ (rd_L2 l0_0 ((rd_T86 l1_1 x7_2).f0)) _ _ y286 t290 _ ?side1 ?side2 ?side3 ?side4 A28.out).mono ?_); (case side1 => exact q_c ((Kd.C_below HR285_0.out HB.out))); (case side2 => exact HC285_0.out); (case side3 => exact q_c ((Kd.C_below HR289.out HB.out))); (case side4 => exact HC289.out); rintro e w' ⟨rfl, ⟨nd, rfl⟩⟩; (try first | exact ⟨rfl, _, World.drewN_drewN _ _ _⟩ | exact ⟨rfl, _, Eq.trans (World.drewN_drewN _ _ _) (congrArg (World.drewN _) (Nat.add_assoc _ _ _))⟩))); try go_wp2_with (first | (go_at_call 106; (with_reducible refine (spec_l2Legs.calls k2 _ _ (rd_L2 l0_0 ((rd_T86 l1_1 x7_2).f0)) _ _ y286 t290 _ ?side1 ?side2 ?side3 ?side4 A28.out).mono ?_); (case side1 => exact q_c ((Kd.C_below HR285_0.out HB.out))); (case side2 => exact HC285_0.out); (case side3 => exact q_c ((Kd.C_below HR289.out HB.out))); (case side4 => exact HC289.out); rintro e w' ⟨rfl, ⟨nd, rfl⟩⟩; (try first | exact ⟨rfl, _, World.drewN_drewN _ _ _⟩ | exact ⟨rfl, _, Eq.trans (World.drewN_drewN _ _ _) (congrArg (World.drewN _) (Nat.add_assoc _ _ _))⟩))))
              go_roundg k2
              case measure => have := HK1.out; have := HK2.out; omega
              case rel => exact ⟨(wrap64 (x7_2 + 1)), q_i, H', ⟨by have := HK1.out; have := HK2.out; omega⟩, ⟨q_b BK280.out⟩, ⟨q_b BK281.out⟩, ⟨bq⟩⟩
             ·rw [if_neg c29] at H
              have c29b0 : (t290 == 0) = false := beq_eq_false_iff_ne.mpr c29
              have c29b1 : (t290 != 0) = true := bne_iff_ne.mpr c29
              obtain rfl := Option.some.inj H
              have hnb34 := NB281_280.out
              have hnc34 := NB280_281.out
              obtain ⟨hcz35_0, hcz35_1, hfz35_0, hfz35_1⟩ := q_2 BK281.out
              obtain ⟨hcz36_0, hfz36_0⟩ := q_1 BK280.out
              have p284 : 0 ≤ (x7_2 : Int) := q_d
              have q284 : x7_2 < (l1_1.length : Int) := q_d
              obtain ⟨ad284, e284, hx284_0, hx284_1, hx284_2, hx284_3⟩ := at_T86 HR1_1.out x7_2 p284 q284
              cases e284
              replace hx284_0 := q_x HB.out hx284_0
              replace hx284_1 := q_x HB.out hx284_1
              replace hx284_2 := q_x HB.out hx284_2
              replace hx284_3 := q_x HB.out hx284_3
              replace p284 := eq_true p284
              replace q284 := eq_true q284
              have p285 : 0 ≤ (((rd_T86 l1_1 x7_2).f0) : Int) := q_d
              have q285 : ((rd_T86 l1_1 x7_2).f0) < (l0_0.length : Int) := q_d
              obtain ⟨ad285, A285_0, c285_0, e285, hx285_0, hl285_0, hi285_0⟩ := at_L2 HR0_0.out ((rd_T86 l1_1 x7_2).f0) p285 q285
              cases e285
              replace hx285_0 := q_x HB.out hx285_0
              have HR285_0 := Aside0.mk hi285_0
              have HC285_0 := Aside0.mk hl285_0
              clear hi285_0 hl285_0
              replace p285 := eq_true p285
              replace q285 := eq_true q285
              have q37 : ((wrap64 (x7_2 + 1)) : Int) ≤ ((l1_1.length : Int) : Int) := q_d
              obtain ⟨i037, hi037, _, hsz37, _⟩ := info_parts info86
              have hroom37 : l1_1.length ≤ c1_1 := HC1_1.out
              have hC37 : Kd.C k86 _ (some ad284) l1_1.length l1_1 := HR1_1.out
              have ql37 : (x7_2 : Int) ≤ ((wrap64 (x7_2 + 1)) : Int) := q_d
              have q037 : (0 : Int) ≤ (x7_2 : Int) := q_d
              have hcut37 := cut_mid (P := Try.prog) 38 86 .i64 .i64 Try.underlying38 hi037 4 hsz37 (some ad284) l1_1.length c1_1 x7_2 (wrap64 (x7_2 + 1)) q037 ql37 q37 hroom37
              have hr37 := Kd.C_mid (lo := (x7_2 : Int).toNat) (hi := ((wrap64 (x7_2 + 1)) : Int).toNat) (c := c1_1) hC37 (by omega) (by omega) hroom37
              obtain ⟨A37, hA37⟩ : ∃ A1, A1 = (if c1_1 = (x7_2 : Int).toNat then (some ad284) else ((some ad284) : Option Addr).map (·.add ((x7_2 : Int).toNat * 4))) := ⟨_, rfl⟩
              obtain ⟨c37, hc37⟩ : ∃ c1, c1 = c1_1 - (x7_2 : Int).toNat := ⟨_, rfl⟩
              have hy37 : y286.length = ((wrap64 (x7_2 + 1)) : Int).toNat - (x7_2 : Int).toNat := (by rw [Ny286.out, List.length_drop, List.length_take] <;> omega)
              rw [show ((l1_1).take ((wrap64 (x7_2 + 1)) : Int).toNat).drop (x7_2 : Int).toNat = y286 from Ny286.out.symm] at hr37
              replace hr37 : Kd.C k86 _ A37 y286.length y286 := (by rw [hA37]; exact hr37)
              rw [← hy37, ← hA37, ← hc37] at hcut37
              have HR289 := Aside0.mk hr37
              have HC289 := Aside0.mk (show y286.length ≤ c37 from by rw [hy37, hc37]; exact Nat.sub_le_sub_right (Nat.le_trans (by omega) hroom37) _)
              clear hr37 hC37 hroom37 hi037 hsz37 hc37
              have KY37 := Aside0.mk hy37
              have KA37 := Aside0.mk hA37
              clear hy37 hA37
              replace q37 := eq_true q37
              go_wp2_with (first | (go_at_call 106; (with_reducible refine (spec_l2Legs.calls k2 _ _ (rd_L2 l0_0 ((rd_T86 l1_1 x7_2).f0)) _ _ y286 t290 _ ?side1 ?side2 ?side3 ?side4 A28.out).mono ?_); (case side1 => exact q_c ((Kd.C_below HR285_0.out HB.out))); (case side2 => exact HC285_0.out); (case side3 => exact q_c ((Kd.C_below HR289.out HB.out))); (case side4 => exact HC289.out); rintro e w' ⟨rfl, ⟨nd, rfl⟩⟩; (try first | exact ⟨rfl, _, World.drewN_drewN _ _ _⟩ | exact ⟨rfl, _, Eq.trans (World.drewN_drewN _ _ _) (congrArg (World.drewN _) (Nat.add_assoc _ _ _))⟩)))
              repeat (go_quiet (first | (go_at_call 106; (with_reducible refine (spec_l2Legs.calls k2 _ _ (rd_L2 l0_0 ((rd_T86 l1_1 x7_2).f0)) _ _ y286 t290 _ ?side1 ?side2 ?side3 ?side4 A28.out).mono ?_); (case side1 => exact q_c ((Kd.C_below HR285_0.out HB.out))); (case side2 => exact HC285_0.out); (case side3 => exact q_c ((Kd.C_below HR289.out HB.out))); (case side4 => exact HC289.out); rintro e w' ⟨rfl, ⟨nd, rfl⟩⟩; (try first | exact ⟨rfl, _, World.drewN_drewN _ _ _⟩ | exact ⟨rfl, _, Eq.trans (World.drewN_drewN _ _ _) (congrArg (World.drewN _) (Nat.add_assoc _ _ _))⟩))); try go_wp2_with (first | (go_at_call 106; (with_reducible refine (spec_l2Legs.calls k2 _ _ (rd_L2 l0_0 ((rd_T86 l1_1 x7_2).f0)) _ _ y286 t290 _ ?side1 ?side2 ?side3 ?side4 A28.out).mono ?_); (case side1 => exact q_c ((Kd.C_below HR285_0.out HB.out))); (case side2 => exact HC285_0.out); (case side3 => exact q_c ((Kd.C_below HR289.out HB.out))); (case side4 => exact HC289.out); rintro e w' ⟨rfl, ⟨nd, rfl⟩⟩; (try first | exact ⟨rfl, _, World.drewN_drewN _ _ _⟩ | exact ⟨rfl, _, Eq.trans (World.drewN_drewN _ _ _) (congrArg (World.drewN _) (Nat.add_assoc _ _ _))⟩))))
              go_ret
              exact ⟨q_e, bq⟩
            ·rw [if_neg c27] at H
             exact absurd H (by simp)
           ·rw [if_neg c26] at H
            exact absurd H (by simp)
          ·rw [if_neg c24] at H
           exact absurd H (by simp)
         ·rw [if_neg c23] at H
          exact absurd H (by simp)
        ·rw [if_neg c22] at H
         exact absurd H (by simp)
       ·rw [if_neg c21] at H
        have c21b0 := decide_eq_false c21
        clear c21
        obtain rfl := Option.some.inj H
        have hnb38 := NB281_280.out
        have hnc38 := NB280_281.out
        obtain ⟨hcz39_0, hcz39_1, hfz39_0, hfz39_1⟩ := q_2 BK281.out
        go_wp2
        repeat (go_quiet (fail); try go_wp2)
        go_ret
        exact ⟨q_e, bq⟩
 ·rw [if_neg c4] at H
  have c4b0 : (t282 == 0) = false := beq_eq_false_iff_ne.mpr c4
  have c4b1 : (t282 != 0) = true := bne_iff_ne.mpr c4
  obtain rfl := Option.some.inj H
  go_enter Try.func64, Try.ntmps64
  go_wp2_with (first | ((with_reducible refine gate_dst (N := 2) rfl ?_); refine q_box (N := 2) (cs := #[.slice A0_0 l0_0.length c0_0]) (t := 26) ?_; intro gb280 hg w40 hbox hb; have n0_ := Aside0.mk (below_step bq hb); have n1_ := Aside0.mk (hbox); have n2_ := Aside0.mk ((q_g hg bq : w.heap.size ≤ gb280)); have n3_ := Aside0.mk ((q_g hg bq : w.heap.size ≤ gb280)); revert n0_ n1_ n2_ n3_; clear HB; intro HB BK280 GW280 GE280; clear hb hbox hg) | ((with_reducible refine gate_dst (N := 3) rfl ?_); refine q_box (N := 3) (cs := #[.int .i64 a1_0, .slice A1_1 l1_1.length c1_1]) (t := 40) ?_; intro gb281 hg w41 hbox hb; have n0_ := Aside0.mk (blk_below (q_b BK280.out) hb); have n1_ := Aside0.mk (below_step bq hb); have n2_ := Aside0.mk (hbox); have n3_ := Aside0.mk ((q_g hg bq : w.heap.size ≤ gb281)); have n4_ := Aside0.mk ((q_g hg bq : w.heap.size ≤ gb281)); have n5_ := Aside0.mk ((q_n hg (q_b BK280.out) : gb280 ≠ gb281)); have n6_ := Aside0.mk ((q_m hg (q_b BK280.out) : gb281 ≠ gb280)); revert n0_ n1_ n2_ n3_ n4_ n5_ n6_; clear BK280 HB; intro BK280 HB BK281 GW281 GE281 NB280_281 NB281_280; clear hb hbox hg; have hnb42 := NB281_280.out; have hnc42 := NB280_281.out; obtain ⟨hcz43_0, hcz43_1, hfz43_0, hfz43_1⟩ := q_2 BK281.out) | (go_at_call 105; (with_reducible refine (spec_ContractFault.calls k a1_0 _ _ l1_1 t282 _ ?side1 ?side2 A3.out).mono ?_); (case side1 => exact q_c ((Kd.C_below HR1_1.out HB.out))); (case side2 => exact HC1_1.out); rintro e w44 ⟨rfl, hb⟩; have n0_ := Aside0.mk (blk_below (q_b BK280.out) hb); have n1_ := Aside0.mk (blk_below (q_b BK281.out) hb); have n2_ := Aside0.mk (below_step bq hb); revert n0_ n1_ n2_; clear BK280 BK281 HB; intro BK280 BK281 HB; (try clear hb); (try clear hb2); (try clear hk); (try clear hi)))
  repeat (go_quiet (first | ((with_reducible refine gate_dst (N := 2) rfl ?_); refine q_box (N := 2) (cs := #[.slice A0_0 l0_0.length c0_0]) (t := 26) ?_; intro gb280 hg w40 hbox hb; have n0_ := Aside0.mk (below_step bq hb); have n1_ := Aside0.mk (hbox); have n2_ := Aside0.mk ((q_g hg bq : w.heap.size ≤ gb280)); have n3_ := Aside0.mk ((q_g hg bq : w.heap.size ≤ gb280)); revert n0_ n1_ n2_ n3_; clear HB; intro HB BK280 GW280 GE280; clear hb hbox hg) | ((with_reducible refine gate_dst (N := 3) rfl ?_); refine q_box (N := 3) (cs := #[.int .i64 a1_0, .slice A1_1 l1_1.length c1_1]) (t := 40) ?_; intro gb281 hg w41 hbox hb; have n0_ := Aside0.mk (blk_below (q_b BK280.out) hb); have n1_ := Aside0.mk (below_step bq hb); have n2_ := Aside0.mk (hbox); have n3_ := Aside0.mk ((q_g hg bq : w.heap.size ≤ gb281)); have n4_ := Aside0.mk ((q_g hg bq : w.heap.size ≤ gb281)); have n5_ := Aside0.mk ((q_n hg (q_b BK280.out) : gb280 ≠ gb281)); have n6_ := Aside0.mk ((q_m hg (q_b BK280.out) : gb281 ≠ gb280)); revert n0_ n1_ n2_ n3_ n4_ n5_ n6_; clear BK280 HB; intro BK280 HB BK281 GW281 GE281 NB280_281 NB281_280; clear hb hbox hg; have hnb42 := NB281_280.out; have hnc42 := NB280_281.out; obtain ⟨hcz43_0, hcz43_1, hfz43_0, hfz43_1⟩ := q_2 BK281.out) | (go_at_call 105; (with_reducible refine (spec_ContractFault.calls k a1_0 _ _ l1_1 t282 _ ?side1 ?side2 A3.out).mono ?_); (case side1 => exact q_c ((Kd.C_below HR1_1.out HB.out))); (case side2 => exact HC1_1.out); rintro e w44 ⟨rfl, hb⟩; have n0_ := Aside0.mk (blk_below (q_b BK280.out) hb); have n1_ := Aside0.mk (blk_below (q_b BK281.out) hb); have n2_ := Aside0.mk (below_step bq hb); revert n0_ n1_ n2_; clear BK280 BK281 HB; intro BK280 BK281 HB; (try clear hb); (try clear hb2); (try clear hk); (try clear hi))); try go_wp2_with (first | ((with_reducible refine gate_dst (N := 2) rfl ?_); refine q_box (N := 2) (cs := #[.slice A0_0 l0_0.length c0_0]) (t := 26) ?_; intro gb280 hg w40 hbox hb; have n0_ := Aside0.mk (below_step bq hb); have n1_ := Aside0.mk (hbox); have n2_ := Aside0.mk ((q_g hg bq : w.heap.size ≤ gb280)); have n3_ := Aside0.mk ((q_g hg bq : w.heap.size ≤ gb280)); revert n0_ n1_ n2_ n3_; clear HB; intro HB BK280 GW280 GE280; clear hb hbox hg) | ((with_reducible refine gate_dst (N := 3) rfl ?_); refine q_box (N := 3) (cs := #[.int .i64 a1_0, .slice A1_1 l1_1.length c1_1]) (t := 40) ?_; intro gb281 hg w41 hbox hb; have n0_ := Aside0.mk (blk_below (q_b BK280.out) hb); have n1_ := Aside0.mk (below_step bq hb); have n2_ := Aside0.mk (hbox); have n3_ := Aside0.mk ((q_g hg bq : w.heap.size ≤ gb281)); have n4_ := Aside0.mk ((q_g hg bq : w.heap.size ≤ gb281)); have n5_ := Aside0.mk ((q_n hg (q_b BK280.out) : gb280 ≠ gb281)); have n6_ := Aside0.mk ((q_m hg (q_b BK280.out) : gb281 ≠ gb280)); revert n0_ n1_ n2_ n3_ n4_ n5_ n6_; clear BK280 HB; intro BK280 HB BK281 GW281 GE281 NB280_281 NB281_280; clear hb hbox hg; have hnb42 := NB281_280.out; have hnc42 := NB280_281.out; obtain ⟨hcz43_0, hcz43_1, hfz43_0, hfz43_1⟩ := q_2 BK281.out) | (go_at_call 105; (with_reducible refine (spec_ContractFault.calls k a1_0 _ _ l1_1 t282 _ ?side1 ?side2 A3.out).mono ?_); (case side1 => exact q_c ((Kd.C_below HR1_1.out HB.out))); (case side2 => exact HC1_1.out); rintro e w44 ⟨rfl, hb⟩; have n0_ := Aside0.mk (blk_below (q_b BK280.out) hb); have n1_ := Aside0.mk (blk_below (q_b BK281.out) hb); have n2_ := Aside0.mk (below_step bq hb); revert n0_ n1_ n2_; clear BK280 BK281 HB; intro BK280 BK281 HB; (try clear hb); (try clear hb2); (try clear hk); (try clear hi))))
  go_ret
  exact ⟨q_e, bq⟩

/-! ### spec_CanSettle: function 51 -/
def spec_CanSettle.f (k : Nat) (l0_0 : List (List (S104))) (a1_0 : Int) (l1_1 : List (S86)) : Option (Int) := (spec_LedgerFault.f k l0_0).bind fun t293 => (if t293 = 0 then ((spec_l2Can.f k l0_0 a1_0 l1_1).bind fun t294 => (some t294)) else (some t293))
set_option maxHeartbeats 8000000 in
set_option maxRecDepth 100000 in
theorem spec_CanSettle.calls (k : Nat) (A0_0 : Option Addr) (c0_0 : Nat) (l0_0 : List (List (S104))) (a1_0 : Int) (A1_1 : Option Addr) (c1_1 : Nat) (l1_1 : List (S86)) (r : Int) (w : World) (hr0_0 : Kd.C (Kd.slice 104 k104) w A0_0 l0_0.length l0_0) (hc0_0 : l0_0.length ≤ c0_0) (hr1_1 : Kd.C k86 w A1_1 l1_1.length l1_1) (hc1_1 : l1_1.length ≤ c1_1) (h : spec_CanSettle.f k l0_0 a1_0 l1_1 = some r) :
  Calls Try.prog 51 #[.agg #[.slice A0_0 l0_0.length c0_0], .agg #[.int .i64 a1_0, .slice A1_1 l1_1.length c1_1]] w fun e w' => e = .returned (.int .i64 r) ∧ Below w.heap.size w w' := by
 have hu26 := Try.underlying26
 have hu40 := Try.underlying40
 have HR0_0 := Aside0.mk hr0_0
 have HC0_0 := Aside0.mk hc0_0
 clear hr0_0 hc0_0
 have HR1_1 := Aside0.mk hr1_1
 have HC1_1 := Aside0.mk hc1_1
 clear hr1_1 hc1_1
 have HB := Aside0.mk (Below.refl w.heap.size w)
 have H : ((spec_LedgerFault.f k l0_0).bind fun t293 => (if t293 = 0 then ((spec_l2Can.f k l0_0 a1_0 l1_1).bind fun t294 => (some t294)) else (some t293))) = some r := h
 clear h
 replace H := Option.bind_eq_some_iff.mp H
 obtain ⟨t293, A30, H⟩ := H
 replace H : (if t293 = 0 then ((spec_l2Can.f k l0_0 a1_0 l1_1).bind fun t294 => (some t294)) else (some t293)) = some r := H
 have A3 := Aside0.mk A30
 clear A30
 by_cases c4 : t293 = 0
 ·rw [if_pos c4] at H
  have c4b0 : (t293 == 0) = true := beq_iff_eq.mpr c4
  have c4b1 : (t293 != 0) = false := bne_eq_false_iff_eq.mpr c4
  clear c4
  replace H := Option.bind_eq_some_iff.mp H
  obtain ⟨t294, A50, H⟩ := H
  replace H : (some t294) = some r := H
  have A5 := Aside0.mk A50
  clear A50
  obtain rfl := Option.some.inj H
  go_enter Try.func51, Try.ntmps51
  go_wp2_with (first | ((with_reducible refine gate_dst (N := 2) rfl ?_); refine q_box (N := 2) (cs := #[.slice A0_0 l0_0.length c0_0]) (t := 26) ?_; intro gb291 hg w6 hbox hb; have n0_ := Aside0.mk (below_step bq hb); have n1_ := Aside0.mk (hbox); have n2_ := Aside0.mk ((q_g hg bq : w.heap.size ≤ gb291)); have n3_ := Aside0.mk ((q_g hg bq : w.heap.size ≤ gb291)); revert n0_ n1_ n2_ n3_; clear HB; intro HB BK291 GW291 GE291; clear hb hbox hg) | ((with_reducible refine gate_dst (N := 3) rfl ?_); refine q_box (N := 3) (cs := #[.int .i64 a1_0, .slice A1_1 l1_1.length c1_1]) (t := 40) ?_; intro gb292 hg w7 hbox hb; have n0_ := Aside0.mk (blk_below (q_b BK291.out) hb); have n1_ := Aside0.mk (below_step bq hb); have n2_ := Aside0.mk (hbox); have n3_ := Aside0.mk ((q_g hg bq : w.heap.size ≤ gb292)); have n4_ := Aside0.mk ((q_g hg bq : w.heap.size ≤ gb292)); have n5_ := Aside0.mk ((q_n hg (q_b BK291.out) : gb291 ≠ gb292)); have n6_ := Aside0.mk ((q_m hg (q_b BK291.out) : gb292 ≠ gb291)); revert n0_ n1_ n2_ n3_ n4_ n5_ n6_; clear BK291 HB; intro BK291 HB BK292 GW292 GE292 NB291_292 NB292_291; clear hb hbox hg; have hnb8 := NB291_292.out; have hnc8 := NB292_291.out; obtain ⟨hcz9_0, hfz9_0⟩ := q_1 BK291.out) | ((with_reducible refine gate_callee (f := 46) rfl ?_); refine goesLq (some 7) rfl rfl Try.func46 (by kernel_rfl) rfl #[.agg #[.slice A0_0 l0_0.length c0_0]] rfl ?_; (with_reducible refine (spec_LedgerFault.calls k _ _ l0_0 t293 _ ?side1 ?side2 A3.out).mono ?_); (case side1 => exact q_c ((Kd.C_below HR0_0.out HB.out))); (case side2 => exact HC0_0.out); rintro e w10 ⟨rfl, hb⟩; refine ⟨_, rfl, ?_⟩; have n0_ := Aside0.mk (blk_below (q_b BK291.out) hb); have n1_ := Aside0.mk (blk_below (q_b BK292.out) hb); have n2_ := Aside0.mk (below_step bq hb); revert n0_ n1_ n2_; clear BK291 BK292 HB; intro BK291 BK292 HB; (try clear hb); (try clear hb2); (try clear hk); (try clear hi); obtain ⟨hcz11_0, hfz11_0⟩ := q_1 BK291.out; obtain ⟨hcz12_0, hcz12_1, hfz12_0, hfz12_1⟩ := q_2 BK292.out) | ((with_reducible refine gate_callee (f := 64) rfl ?_); refine goesLq (some 13) rfl rfl Try.func64 (by kernel_rfl) rfl #[.agg #[.slice A0_0 l0_0.length c0_0], .agg #[.int .i64 a1_0, .slice A1_1 l1_1.length c1_1]] rfl ?_; (with_reducible refine (spec_l2Can.calls k _ _ l0_0 a1_0 _ _ l1_1 t294 _ ?side1 ?side2 ?side3 ?side4 A5.out).mono ?_); (case side1 => exact q_c ((Kd.C_below HR0_0.out HB.out))); (case side2 => exact HC0_0.out); (case side3 => exact q_c ((Kd.C_below HR1_1.out HB.out))); (case side4 => exact HC1_1.out); rintro e w13 ⟨rfl, hb⟩; refine ⟨_, rfl, ?_⟩; have n0_ := Aside0.mk (blk_below (q_b BK291.out) hb); have n1_ := Aside0.mk (blk_below (q_b BK292.out) hb); have n2_ := Aside0.mk (below_step bq hb); revert n0_ n1_ n2_; clear BK291 BK292 HB; intro BK291 BK292 HB; (try clear hb); (try clear hb2); (try clear hk); (try clear hi)))
  go_ret
  exact ⟨q_e, bq⟩
 ·rw [if_neg c4] at H
  have c4b0 : (t293 == 0) = false := beq_eq_false_iff_ne.mpr c4
  have c4b1 : (t293 != 0) = true := bne_iff_ne.mpr c4
  obtain rfl := Option.some.inj H
  go_enter Try.func51, Try.ntmps51
  go_wp2_with (first | ((with_reducible refine gate_dst (N := 2) rfl ?_); refine q_box (N := 2) (cs := #[.slice A0_0 l0_0.length c0_0]) (t := 26) ?_; intro gb291 hg w14 hbox hb; have n0_ := Aside0.mk (below_step bq hb); have n1_ := Aside0.mk (hbox); have n2_ := Aside0.mk ((q_g hg bq : w.heap.size ≤ gb291)); have n3_ := Aside0.mk ((q_g hg bq : w.heap.size ≤ gb291)); revert n0_ n1_ n2_ n3_; clear HB; intro HB BK291 GW291 GE291; clear hb hbox hg) | ((with_reducible refine gate_dst (N := 3) rfl ?_); refine q_box (N := 3) (cs := #[.int .i64 a1_0, .slice A1_1 l1_1.length c1_1]) (t := 40) ?_; intro gb292 hg w15 hbox hb; have n0_ := Aside0.mk (blk_below (q_b BK291.out) hb); have n1_ := Aside0.mk (below_step bq hb); have n2_ := Aside0.mk (hbox); have n3_ := Aside0.mk ((q_g hg bq : w.heap.size ≤ gb292)); have n4_ := Aside0.mk ((q_g hg bq : w.heap.size ≤ gb292)); have n5_ := Aside0.mk ((q_n hg (q_b BK291.out) : gb291 ≠ gb292)); have n6_ := Aside0.mk ((q_m hg (q_b BK291.out) : gb292 ≠ gb291)); revert n0_ n1_ n2_ n3_ n4_ n5_ n6_; clear BK291 HB; intro BK291 HB BK292 GW292 GE292 NB291_292 NB292_291; clear hb hbox hg; have hnb16 := NB291_292.out; have hnc16 := NB292_291.out; obtain ⟨hcz17_0, hfz17_0⟩ := q_1 BK291.out) | ((with_reducible refine gate_callee (f := 46) rfl ?_); refine goesLq (some 7) rfl rfl Try.func46 (by kernel_rfl) rfl #[.agg #[.slice A0_0 l0_0.length c0_0]] rfl ?_; (with_reducible refine (spec_LedgerFault.calls k _ _ l0_0 t293 _ ?side1 ?side2 A3.out).mono ?_); (case side1 => exact q_c ((Kd.C_below HR0_0.out HB.out))); (case side2 => exact HC0_0.out); rintro e w18 ⟨rfl, hb⟩; refine ⟨_, rfl, ?_⟩; have n0_ := Aside0.mk (blk_below (q_b BK291.out) hb); have n1_ := Aside0.mk (blk_below (q_b BK292.out) hb); have n2_ := Aside0.mk (below_step bq hb); revert n0_ n1_ n2_; clear BK291 BK292 HB; intro BK291 BK292 HB; (try clear hb); (try clear hb2); (try clear hk); (try clear hi)))
  go_ret
  exact ⟨q_e, bq⟩

end Go.Proofs.Ytanegggacfmkcaa.PFnExactSettleOne
