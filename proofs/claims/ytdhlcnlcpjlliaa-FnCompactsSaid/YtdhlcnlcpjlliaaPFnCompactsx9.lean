/- The functions that a law reaches, each as a plain Lean function with the proof that the machine comes to its answer: written by program (the kit's print, turned by wip/gen). No conditions. -/
import Derived.Test.YtdhlcnlcpjlliaaPFnCompactsx0
import Derived.Test.YtdhlcnlcpjlliaaPFnCompactsx8
namespace Go.Proofs.Ytdhlcnlcpjlliaa.PFnCompacts
open Go.RowKit Go.Proofs.YtdhlcnlcpjlliaaW.PrintWords Go.Proofs.YtdhlcnlcpjlliaaW.PrintLast Go.Proofs.YtdhlcnlcpjlliaaW.PrintMore
attribute [local go_sem] max2_int min2_int max_two min_two max_three min_three max_four min_four   -- for this text's walks alone
set_option linter.unusedVariables false
set_option linter.unusedSimpArgs false

/-! ### spec_l5Compact: function 86 -/
mutual
def spec_l5Compact.l0 : Nat → List (S49) → Int → List (S49) → Int → Option ((List (S49)))
  | 0, _, _, _, _ => none
  | k + 1, x0, x1, x5, x6 => if x6 < (x0.length : Int) then (spec_l5Compact.l1 k x0 x1 x5 x6 false 0) else (spec_l5Compact.l2 k x1 x5 (([] : List (S49))) 0)
def spec_l5Compact.l1 : Nat → List (S49) → Int → List (S49) → Int → Bool → Int → Option ((List (S49)))
  | 0, _, _, _, _, _, _ => none
  | k + 1, x0, x1, x5, x6, x7, x8 => if x8 < x6 then (if x7 = true then (spec_l5Compact.l1 k x0 x1 x5 x6 true (wrap64 (x8 + 1))) else (if 0 ≤ x8 then (if x8 < (x0.length : Int) then (if 0 ≤ x6 then (if x6 < (x0.length : Int) then (if ((rd_T49 x0 x8).f0).toList = ((rd_T49 x0 x6).f0).toList then (spec_l5Compact.l1 k x0 x1 x5 x6 (decide (((rd_T49 x0 x8).f1) ≤ x1)) (wrap64 (x8 + 1))) else (spec_l5Compact.l1 k x0 x1 x5 x6 false (wrap64 (x8 + 1)))) else (none)) else (none)) else (none)) else (none))) else (if x7 = true then (spec_l5Compact.l0 k x0 x1 x5 (wrap64 (x6 + 1))) else (if 0 ≤ x6 then (if x6 < (x0.length : Int) then (if x5.length < 2932031007402 then (spec_l5Compact.l0 k x0 x1 (x5 ++ [(⟨(rd_T49 x0 x6).f0, (rd_T49 x0 x6).f1, (rd_T49 x0 x6).f2, (rd_T49 x0 x6).f3⟩ : S49)]) (wrap64 (x6 + 1))) else (none)) else (none)) else (none)))
def spec_l5Compact.l2 : Nat → Int → List (S49) → List (S49) → Int → Option ((List (S49)))
  | 0, _, _, _, _ => none
  | k + 1, x1, x5, x9, x10 => if x10 < (x5.length : Int) then (if x10 = (wrap64 ((x5.length : Int) - 1)) then (if 0 ≤ x10 then (if ((rd_T49 x5 x10).f3 = true) then (if ((rd_T49 x5 x10).f1) > x1 then (if x9.length < 2932031007402 then (spec_l5Compact.l2 k x1 x5 (x9 ++ [(⟨(rd_T49 x5 x10).f0, (rd_T49 x5 x10).f1, (rd_T49 x5 x10).f2, (rd_T49 x5 x10).f3⟩ : S49)]) (wrap64 (x10 + 1))) else (none)) else (spec_l5Compact.l2 k x1 x5 x9 (wrap64 (x10 + 1)))) else (if x9.length < 2932031007402 then (spec_l5Compact.l2 k x1 x5 (x9 ++ [(⟨(rd_T49 x5 x10).f0, (rd_T49 x5 x10).f1, (rd_T49 x5 x10).f2, (rd_T49 x5 x10).f3⟩ : S49)]) (wrap64 (x10 + 1))) else (none))) else (none)) else (if 0 ≤ (wrap64 (x10 + 1)) then (if (wrap64 (x10 + 1)) < (x5.length : Int) then (if 0 ≤ x10 then (if ((rd_T49 x5 x10).f3 = true) then (if ((rd_T49 x5 x10).f1) > x1 then (if x9.length < 2932031007402 then (spec_l5Compact.l2 k x1 x5 (x9 ++ [(⟨(rd_T49 x5 x10).f0, (rd_T49 x5 x10).f1, (rd_T49 x5 x10).f2, (rd_T49 x5 x10).f3⟩ : S49)]) (wrap64 (x10 + 1))) else (none)) else (if (¬ ((rd_T49 x5 (wrap64 (x10 + 1))).f0).toList = ((rd_T49 x5 x10).f0).toList) then (spec_l5Compact.l2 k x1 x5 x9 (wrap64 (x10 + 1))) else (if x9.length < 2932031007402 then (spec_l5Compact.l2 k x1 x5 (x9 ++ [(⟨(rd_T49 x5 x10).f0, (rd_T49 x5 x10).f1, (rd_T49 x5 x10).f2, (rd_T49 x5 x10).f3⟩ : S49)]) (wrap64 (x10 + 1))) else (none)))) else (if x9.length < 2932031007402 then (spec_l5Compact.l2 k x1 x5 (x9 ++ [(⟨(rd_T49 x5 x10).f0, (rd_T49 x5 x10).f1, (rd_T49 x5 x10).f2, (rd_T49 x5 x10).f3⟩ : S49)]) (wrap64 (x10 + 1))) else (none))) else (none)) else (none)) else (none))) else (some x9)
end
def spec_l5Compact.f (k : Nat) (l0 : List (S49)) (a1 : Int) : Option ((List (S49))) := spec_l5Compact.l0 k l0 a1 (([] : List (S49))) 0
set_option maxHeartbeats 8000000 in
set_option maxRecDepth 100000 in
theorem spec_l5Compact.calls (k : Nat) (A0 : Option Addr) (c0 : Nat) (l0 : List (S49)) (a1 : Int) (r : List (S49)) (w : World) (hr0 : Kd.C k49 w A0 l0.length l0) (hc0 : l0.length ≤ c0) (h : spec_l5Compact.f k l0 a1 = some r) :
  Calls Try.prog 86 #[.slice A0 l0.length c0, .int .i64 a1] w fun e w' => ∃ v0_ : Value, e = .returned (v0_) ∧ Kd.R k49 49 w' w.heap.size (fun _ => True) v0_ r ∧ Below w.heap.size w w' := by
 have hu49 := Try.underlying49
 have HR0 := Aside0.mk hr0
 have HC0 := Aside0.mk hc0
 clear hr0 hc0
 have HB := Aside0.mk (Below.refl w.heap.size w)
 have H : (spec_l5Compact.l0 k l0 a1 (([] : List (S49))) 0) = some r := h
 clear h
 obtain ⟨y332, hy332⟩ : ∃ y_ : List (S49), y_ = (([] : List (S49))) := ⟨_, rfl⟩
 replace H : (spec_l5Compact.l0 k l0 a1 y332 0) = some r := q_h hy332 H
 have Ny332 := Aside0.mk hy332
 clear hy332
 have H' := Aside0.mk H
 clear H
 go_enter Try.func86, Try.ntmps86
 go_wp2_with (first | ((with_reducible refine gate_dst (N := 12) rfl ?_); refine Kd.R_lit k49 _ 49 ?hg (N := 12) ?hd (xs := ([] : List (S49))) (inner := []) (ok := fun _ => True) (okp := fun _ => True) ?hr ?hp (fun _ hk => hk) trivial (Below.refl _ _) (Nat.le_refl _) (by simp) ?_; (case hd => rfl); (case hg => rfl); (case hr => first | (go_simp; done) | (go_simp; rfl)); (case hp => exact (Reps.none _ _)); intro v333 w3 ho4 hb hg_ hnew_; clear hg_ hnew_; (first | rw [← Ny332.out] at ho4 | (simp only [Int.reduceToNat] at ho4; rw [← Ny332.out] at ho4)); have n0_ := Aside0.mk (Kd.R_lower ho4 (below_size bq)); have n1_ := Aside0.mk (below_step bq hb); revert n0_ n1_; clear HB; intro HO334 HB; clear hb ho4))
 repeat (go_quiet (first | ((with_reducible refine gate_dst (N := 12) rfl ?_); refine Kd.R_lit k49 _ 49 ?hg (N := 12) ?hd (xs := ([] : List (S49))) (inner := []) (ok := fun _ => True) (okp := fun _ => True) ?hr ?hp (fun _ hk => hk) trivial (Below.refl _ _) (Nat.le_refl _) (by simp) ?_; (case hd => rfl); (case hg => rfl); (case hr => first | (go_simp; done) | (go_simp; rfl)); (case hp => exact (Reps.none _ _)); intro v333 w3 ho4 hb hg_ hnew_; clear hg_ hnew_; (first | rw [← Ny332.out] at ho4 | (simp only [Int.reduceToNat] at ho4; rw [← Ny332.out] at ho4)); have n0_ := Aside0.mk (Kd.R_lower ho4 (below_size bq)); have n1_ := Aside0.mk (below_step bq hb); revert n0_ n1_; clear HB; intro HO334 HB; clear hb ho4)); try go_wp2_with (first | ((with_reducible refine gate_dst (N := 12) rfl ?_); refine Kd.R_lit k49 _ 49 ?hg (N := 12) ?hd (xs := ([] : List (S49))) (inner := []) (ok := fun _ => True) (okp := fun _ => True) ?hr ?hp (fun _ hk => hk) trivial (Below.refl _ _) (Nat.le_refl _) (by simp) ?_; (case hd => rfl); (case hg => rfl); (case hr => first | (go_simp; done) | (go_simp; rfl)); (case hp => exact (Reps.none _ _)); intro v333 w3 ho4 hb hg_ hnew_; clear hg_ hnew_; (first | rw [← Ny332.out] at ho4 | (simp only [Int.reduceToNat] at ho4; rw [← Ny332.out] at ho4)); have n0_ := Aside0.mk (Kd.R_lower ho4 (below_size bq)); have n1_ := Aside0.mk (below_step bq hb); revert n0_ n1_; clear HB; intro HO334 HB; clear hb ho4)))
 go_loopg [5, 6] k (fun kq v5 v6 w' => ∃ (x5_1 : List (S49)) (x6_1 : Int), v6 = .int .i64 x6_1 ∧ Aside0 (spec_l5Compact.l0 kq l0 a1 x5_1 x6_1 = some r) ∧ Aside0 (kq ≤ k) ∧ Aside0 (Kd.R k49 49 w' w.heap.size (fun _ => True) v5 x5_1) ∧ Aside0 (Below w.heap.size w w'))
 case atStart => exact ⟨(y332), (0), q_i, H', ⟨Nat.le_refl _⟩, ⟨q_r (HO334.out)⟩, ⟨bq⟩⟩
 case round =>
  clear H'
  (try clear p2)
  obtain ⟨x5_1, x6_1, rfl, HA, HK1, HO_5, HB⟩ := hrel
  cases gk with
  | zero => exact absurd HA.out (by simp [spec_l5Compact.l0])
  | succ k1 =>
   have H := HA.out
   clear HA
   simp only [spec_l5Compact.l0] at H
   by_cases c5 : x6_1 < (l0.length : Int)
   ·rw [if_pos c5] at H
    have c5b0 := decide_eq_true c5
    clear c5
    have H' := Aside0.mk H
    clear H
    go_wp2
    repeat (go_quiet (fail); try go_wp2)
    go_loopg [7, 8] k1 (fun kq v7 v8 w' => ∃ (x7_2 : Bool) (x8_2 : Int), v7 = .bool x7_2 ∧ v8 = .int .i64 x8_2 ∧ Aside0 (spec_l5Compact.l1 kq l0 a1 x5_1 x6_1 x7_2 x8_2 = some r) ∧ Aside0 (kq ≤ k1) ∧ Aside0 (Kd.R k49 49 w' w.heap.size (fun _ => True) u5 x5_1) ∧ Aside0 (Below w.heap.size w w'))
    case atStart => exact ⟨(false), (0), q_i, q_i, H', ⟨Nat.le_refl _⟩, ⟨q_r (HO_5.out)⟩, ⟨bq⟩⟩
    case round =>
     clear H'
     (try clear p2); (try clear c5); (try clear c5b0); (try clear p2)
     obtain ⟨x7_2, x8_2, rfl, rfl, HA, HK2, HO_5, HB⟩ := hrel
     cases gk with
     | zero => exact absurd HA.out (by simp [spec_l5Compact.l1])
     | succ k2 =>
      have H := HA.out
      clear HA
      simp only [spec_l5Compact.l1] at H
      by_cases c6 : x8_2 < x6_1
      ·rw [if_pos c6] at H
       have c6b0 := decide_eq_true c6
       clear c6
       by_cases c7 : x7_2 = true
       ·subst c7
        have H1 : (spec_l5Compact.l1 k2 l0 a1 x5_1 x6_1 true (wrap64 (x8_2 + 1))) = some r := by rw [if_pos rfl] at H; exact H
        clear H
        have H := H1
        clear H1
        have H' := Aside0.mk H
        clear H
        go_wp2
        repeat (go_quiet (fail); try go_wp2)
        go_roundg k2
        case measure => have := HK1.out; have := HK2.out; omega
        case rel => (try rw [← Nbq23.out]); (try rw [← Nbq37.out]); exact ⟨(true), (wrap64 (x8_2 + 1)), q_i, q_i, H', ⟨by have := HK1.out; have := HK2.out; omega⟩, ⟨q_r (HO_5.out)⟩, ⟨bq⟩⟩
       ·replace c7 := Bool.eq_false_iff.mpr c7
        subst c7
        have H1 : (if 0 ≤ x8_2 then (if x8_2 < (l0.length : Int) then (if 0 ≤ x6_1 then (if x6_1 < (l0.length : Int) then (if ((rd_T49 l0 x8_2).f0).toList = ((rd_T49 l0 x6_1).f0).toList then (spec_l5Compact.l1 k2 l0 a1 x5_1 x6_1 (decide (((rd_T49 l0 x8_2).f1) ≤ a1)) (wrap64 (x8_2 + 1))) else (spec_l5Compact.l1 k2 l0 a1 x5_1 x6_1 false (wrap64 (x8_2 + 1)))) else (none)) else (none)) else (none)) else (none)) = some r := by rw [if_neg (show ¬ (false = true) by decide)] at H; exact H
        clear H
        have H := H1
        clear H1
        by_cases c8 : 0 ≤ x8_2
        ·rw [if_pos c8] at H
         have c8b0 := decide_eq_true c8
         clear c8
         by_cases c9 : x8_2 < (l0.length : Int)
         ·rw [if_pos c9] at H
          have c9b0 := decide_eq_true c9
          clear c9
          by_cases c10 : 0 ≤ x6_1
          ·rw [if_pos c10] at H
           have c10b0 := decide_eq_true c10
           clear c10
           by_cases c11 : x6_1 < (l0.length : Int)
           ·rw [if_pos c11] at H
            have c11b0 := decide_eq_true c11
            clear c11
            by_cases c12 : ((rd_T49 l0 x8_2).f0).toList = ((rd_T49 l0 x6_1).f0).toList
            ·rw [if_pos c12] at H
             have c12b0 : (((rd_T49 l0 x8_2).f0).toList == ((rd_T49 l0 x6_1).f0).toList) = true := beq_iff_eq.mpr c12
             have c12b1 : (((rd_T49 l0 x8_2).f0).toList != ((rd_T49 l0 x6_1).f0).toList) = false := bne_eq_false_iff_eq.mpr c12
             clear c12
             have H' := Aside0.mk H
             clear H
             have p335 : 0 ≤ (x8_2 : Int) := q_d
             have q335 : x8_2 < (l0.length : Int) := q_d
             obtain ⟨ad335, e335, hx335_0, hx335_1, hx335_2, hx335_3⟩ := at_T49 HR0.out x8_2 p335 q335
             cases e335
             replace hx335_0 := q_x HB.out hx335_0
             replace hx335_1 := q_x HB.out hx335_1
             replace hx335_2 := q_x HB.out hx335_2
             replace hx335_3 := q_x HB.out hx335_3
             replace p335 := eq_true p335
             replace q335 := eq_true q335
             have p336 : 0 ≤ (x6_1 : Int) := q_d
             have q336 : x6_1 < (l0.length : Int) := q_d
             obtain ⟨ad336, e336, hx336_0, hx336_1, hx336_2, hx336_3⟩ := at_T49 HR0.out x6_1 p336 q336
             obtain rfl : ad335 = ad336 := (by injection e336)
             replace hx336_0 := q_x HB.out hx336_0
             replace hx336_1 := q_x HB.out hx336_1
             replace hx336_2 := q_x HB.out hx336_2
             replace hx336_3 := q_x HB.out hx336_3
             replace p336 := eq_true p336
             replace q336 := eq_true q336
             have p337 : 0 ≤ (x8_2 : Int) := q_d
             have q337 : x8_2 < (l0.length : Int) := q_d
             obtain ⟨ad337, e337, hx337_0, hx337_1, hx337_2, hx337_3⟩ := at_T49 HR0.out x8_2 p337 q337
             obtain rfl : ad335 = ad337 := (by injection e337)
             replace hx337_0 := q_x HB.out hx337_0
             replace hx337_1 := q_x HB.out hx337_1
             replace hx337_2 := q_x HB.out hx337_2
             replace hx337_3 := q_x HB.out hx337_3
             replace p337 := eq_true p337
             replace q337 := eq_true q337
             go_wp2
             repeat (go_quiet (fail); try go_wp2)
             go_roundg k2
             case measure => have := HK1.out; have := HK2.out; omega
             case rel => (try rw [← Nbq23.out]); (try rw [← Nbq37.out]); exact ⟨(decide (((rd_T49 l0 x8_2).f1) ≤ a1)), (wrap64 (x8_2 + 1)), q_i, q_i, H', ⟨by have := HK1.out; have := HK2.out; omega⟩, ⟨q_r (HO_5.out)⟩, ⟨bq⟩⟩
            ·rw [if_neg c12] at H
             have c12b0 : (((rd_T49 l0 x8_2).f0).toList == ((rd_T49 l0 x6_1).f0).toList) = false := beq_eq_false_iff_ne.mpr c12
             have c12b1 : (((rd_T49 l0 x8_2).f0).toList != ((rd_T49 l0 x6_1).f0).toList) = true := bne_iff_ne.mpr c12
             have H' := Aside0.mk H
             clear H
             have p335 : 0 ≤ (x8_2 : Int) := q_d
             have q335 : x8_2 < (l0.length : Int) := q_d
             obtain ⟨ad335, e335, hx335_0, hx335_1, hx335_2, hx335_3⟩ := at_T49 HR0.out x8_2 p335 q335
             cases e335
             replace hx335_0 := q_x HB.out hx335_0
             replace hx335_1 := q_x HB.out hx335_1
             replace hx335_2 := q_x HB.out hx335_2
             replace hx335_3 := q_x HB.out hx335_3
             replace p335 := eq_true p335
             replace q335 := eq_true q335
             have p336 : 0 ≤ (x6_1 : Int) := q_d
             have q336 : x6_1 < (l0.length : Int) := q_d
             obtain ⟨ad336, e336, hx336_0, hx336_1, hx336_2, hx336_3⟩ := at_T49 HR0.out x6_1 p336 q336
             obtain rfl : ad335 = ad336 := (by injection e336)
             replace hx336_0 := q_x HB.out hx336_0
             replace hx336_1 := q_x HB.out hx336_1
             replace hx336_2 := q_x HB.out hx336_2
             replace hx336_3 := q_x HB.out hx336_3
             replace p336 := eq_true p336
             replace q336 := eq_true q336
             go_wp2
             repeat (go_quiet (fail); try go_wp2)
             go_roundg k2
             case measure => have := HK1.out; have := HK2.out; omega
             case rel => (try rw [← Nbq23.out]); (try rw [← Nbq37.out]); exact ⟨(false), (wrap64 (x8_2 + 1)), q_i, q_i, H', ⟨by have := HK1.out; have := HK2.out; omega⟩, ⟨q_r (HO_5.out)⟩, ⟨bq⟩⟩
           ·rw [if_neg c11] at H
            exact absurd H (by simp)
          ·rw [if_neg c10] at H
           exact absurd H (by simp)
         ·rw [if_neg c9] at H
          exact absurd H (by simp)
        ·rw [if_neg c8] at H
         exact absurd H (by simp)
      ·rw [if_neg c6] at H
       have c6b0 := decide_eq_false c6
       clear c6
       by_cases c13 : x7_2 = true
       ·subst c13
        have H1 : (spec_l5Compact.l0 k2 l0 a1 x5_1 (wrap64 (x6_1 + 1))) = some r := by rw [if_pos rfl] at H; exact H
        clear H
        have H := H1
        clear H1
        have H' := Aside0.mk H
        clear H
        go_wp2
        repeat (go_quiet (fail); try go_wp2)
        go_roundg k2
        case measure => have := HK1.out; have := HK2.out; omega
        case rel => (try rw [← Nbq23.out]); (try rw [← Nbq37.out]); exact ⟨(x5_1), (wrap64 (x6_1 + 1)), q_i, H', ⟨by have := HK1.out; have := HK2.out; omega⟩, ⟨q_r (HO_5.out)⟩, ⟨bq⟩⟩
       ·replace c13 := Bool.eq_false_iff.mpr c13
        subst c13
        have H1 : (if 0 ≤ x6_1 then (if x6_1 < (l0.length : Int) then (if x5_1.length < 2932031007402 then (spec_l5Compact.l0 k2 l0 a1 (x5_1 ++ [(⟨(rd_T49 l0 x6_1).f0, (rd_T49 l0 x6_1).f1, (rd_T49 l0 x6_1).f2, (rd_T49 l0 x6_1).f3⟩ : S49)]) (wrap64 (x6_1 + 1))) else (none)) else (none)) else (none)) = some r := by rw [if_neg (show ¬ (false = true) by decide)] at H; exact H
        clear H
        have H := H1
        clear H1
        by_cases c14 : 0 ≤ x6_1
        ·rw [if_pos c14] at H
         have c14b0 := decide_eq_true c14
         clear c14
         by_cases c15 : x6_1 < (l0.length : Int)
         ·rw [if_pos c15] at H
          have c15b0 := decide_eq_true c15
          clear c15
          by_cases c16 : x5_1.length < 2932031007402
          ·rw [if_pos c16] at H
           have LMc16 := Aside0.mk c16
           clear c16
           obtain ⟨y339, hy339⟩ : ∃ y_ : List (S49), y_ = (x5_1 ++ [(⟨(rd_T49 l0 x6_1).f0, (rd_T49 l0 x6_1).f1, (rd_T49 l0 x6_1).f2, (rd_T49 l0 x6_1).f3⟩ : S49)]) := ⟨_, rfl⟩
           replace H : (spec_l5Compact.l0 k2 l0 a1 y339 (wrap64 (x6_1 + 1))) = some r := q_h hy339 H
           have Ny339 := Aside0.mk hy339
           clear hy339
           have H' := Aside0.mk H
           clear H
           have p338 : 0 ≤ (x6_1 : Int) := q_d
           have q338 : x6_1 < (l0.length : Int) := q_d
           obtain ⟨ad338, e338, hx338_0, hx338_1, hx338_2, hx338_3⟩ := at_T49 HR0.out x6_1 p338 q338
           cases e338
           replace hx338_0 := q_x HB.out hx338_0
           replace hx338_1 := q_x HB.out hx338_1
           replace hx338_2 := q_x HB.out hx338_2
           replace hx338_3 := q_x HB.out hx338_3
           replace p338 := eq_true p338
           replace q338 := eq_true q338
           go_wp2_with (first | ((with_reducible refine gate_builtin (b := .append) (xs := #[.tmp 49, .tmp 54]) rfl ?_); at_builtin; refine Kd.R_append k49 (w0 := w) w.heap.size rfl (.tmp 49) (.tmp 54) 25 49 (.agg #[(.string ⟨#[]⟩), (.int .i64 0), (.string ⟨#[]⟩), (.bool false)]) 48 rfl Try.underlying25 info49 rfl (by decide) (by omega) u5 x5_1 (⟨(rd_T49 l0 x6_1).f0, (rd_T49 l0 x6_1).f1, (rd_T49 l0 x6_1).f2, (rd_T49 l0 x6_1).f3⟩ : S49) [.string ((rd_T49 l0 x6_1).f0), .int .i64 ((rd_T49 l0 x6_1).f1), .string ((rd_T49 l0 x6_1).f2), .bool ((rd_T49 l0 x6_1).f3)] (fun _ => True) (fun _ => False) rfl rfl ?aP (fun _ hk => hk.elim) ?aF ?aO ?aB ?aS ?aL ?_; (case aP => exact k49_mkM _ _ _ (⟨(rd_T49 l0 x6_1).f0, (rd_T49 l0 x6_1).f1, (rd_T49 l0 x6_1).f2, (rd_T49 l0 x6_1).f3⟩ : S49)); (case aB => exact bq); (case aF => exact (fun _ _ => trivial)); (case aO => exact (q_r (HO_5.out))); (case aS => exact (below_size bq)); (case aL => have := LMc16.out; omega); intro v340 w17 ho hb hg hat; rw [← Ny339.out] at ho; have n0_ := Aside0.mk (hb); have n1_ := Aside0.mk (ho); revert n0_ n1_; clear HB HO_5; intro HB HO341; clear ho hb hg hat))
           repeat (go_quiet (first | ((with_reducible refine gate_builtin (b := .append) (xs := #[.tmp 49, .tmp 54]) rfl ?_); at_builtin; refine Kd.R_append k49 (w0 := w) w.heap.size rfl (.tmp 49) (.tmp 54) 25 49 (.agg #[(.string ⟨#[]⟩), (.int .i64 0), (.string ⟨#[]⟩), (.bool false)]) 48 rfl Try.underlying25 info49 rfl (by decide) (by omega) u5 x5_1 (⟨(rd_T49 l0 x6_1).f0, (rd_T49 l0 x6_1).f1, (rd_T49 l0 x6_1).f2, (rd_T49 l0 x6_1).f3⟩ : S49) [.string ((rd_T49 l0 x6_1).f0), .int .i64 ((rd_T49 l0 x6_1).f1), .string ((rd_T49 l0 x6_1).f2), .bool ((rd_T49 l0 x6_1).f3)] (fun _ => True) (fun _ => False) rfl rfl ?aP (fun _ hk => hk.elim) ?aF ?aO ?aB ?aS ?aL ?_; (case aP => exact k49_mkM _ _ _ (⟨(rd_T49 l0 x6_1).f0, (rd_T49 l0 x6_1).f1, (rd_T49 l0 x6_1).f2, (rd_T49 l0 x6_1).f3⟩ : S49)); (case aB => exact bq); (case aF => exact (fun _ _ => trivial)); (case aO => exact (q_r (HO_5.out))); (case aS => exact (below_size bq)); (case aL => have := LMc16.out; omega); intro v340 w17 ho hb hg hat; rw [← Ny339.out] at ho; have n0_ := Aside0.mk (hb); have n1_ := Aside0.mk (ho); revert n0_ n1_; clear HB HO_5; intro HB HO341; clear ho hb hg hat)); try go_wp2_with (first | ((with_reducible refine gate_builtin (b := .append) (xs := #[.tmp 49, .tmp 54]) rfl ?_); at_builtin; refine Kd.R_append k49 (w0 := w) w.heap.size rfl (.tmp 49) (.tmp 54) 25 49 (.agg #[(.string ⟨#[]⟩), (.int .i64 0), (.string ⟨#[]⟩), (.bool false)]) 48 rfl Try.underlying25 info49 rfl (by decide) (by omega) u5 x5_1 (⟨(rd_T49 l0 x6_1).f0, (rd_T49 l0 x6_1).f1, (rd_T49 l0 x6_1).f2, (rd_T49 l0 x6_1).f3⟩ : S49) [.string ((rd_T49 l0 x6_1).f0), .int .i64 ((rd_T49 l0 x6_1).f1), .string ((rd_T49 l0 x6_1).f2), .bool ((rd_T49 l0 x6_1).f3)] (fun _ => True) (fun _ => False) rfl rfl ?aP (fun _ hk => hk.elim) ?aF ?aO ?aB ?aS ?aL ?_; (case aP => exact k49_mkM _ _ _ (⟨(rd_T49 l0 x6_1).f0, (rd_T49 l0 x6_1).f1, (rd_T49 l0 x6_1).f2, (rd_T49 l0 x6_1).f3⟩ : S49)); (case aB => exact bq); (case aF => exact (fun _ _ => trivial)); (case aO => exact (q_r (HO_5.out))); (case aS => exact (below_size bq)); (case aL => have := LMc16.out; omega); intro v340 w17 ho hb hg hat; rw [← Ny339.out] at ho; have n0_ := Aside0.mk (hb); have n1_ := Aside0.mk (ho); revert n0_ n1_; clear HB HO_5; intro HB HO341; clear ho hb hg hat)))
           go_roundg k2
           case measure => have := HK1.out; have := HK2.out; omega
           case rel => (try rw [← Nbq23.out]); (try rw [← Nbq37.out]); exact ⟨(y339), (wrap64 (x6_1 + 1)), q_i, H', ⟨by have := HK1.out; have := HK2.out; omega⟩, ⟨q_r (HO341.out)⟩, ⟨bq⟩⟩
          ·rw [if_neg c16] at H
           exact absurd H (by simp)
         ·rw [if_neg c15] at H
          exact absurd H (by simp)
        ·rw [if_neg c14] at H
         exact absurd H (by simp)
   ·rw [if_neg c5] at H
    have c5b0 := decide_eq_false c5
    clear c5
    obtain ⟨y342, hy342⟩ : ∃ y_ : List (S49), y_ = (([] : List (S49))) := ⟨_, rfl⟩
    replace H : (spec_l5Compact.l2 k1 a1 x5_1 y342 0) = some r := q_h hy342 H
    have Ny342 := Aside0.mk hy342
    clear hy342
    have H' := Aside0.mk H
    clear H
    go_wp2_with (first | ((with_reducible refine gate_dst (N := 56) rfl ?_); refine Kd.R_lit k49 _ 49 ?hg (N := 56) ?hd (xs := ([] : List (S49))) (inner := []) (ok := fun _ => True) (okp := fun _ => True) ?hr ?hp (fun _ hk => hk) trivial (Below.refl _ _) (Nat.le_refl _) (by simp) ?_; (case hd => rfl); (case hg => rfl); (case hr => first | (go_simp; done) | (go_simp; rfl)); (case hp => exact (Reps.none _ _)); intro v343 w18 ho19 hb hg_ hnew_; clear hg_ hnew_; (first | rw [← Ny342.out] at ho19 | (simp only [Int.reduceToNat] at ho19; rw [← Ny342.out] at ho19)); have n0_ := Aside0.mk (Kd.R_elder' (q_r (HO_5.out)) (Kd.R_base ho19) hb); have n1_ := Aside0.mk (Kd.R_lower (Kd.R_new' ho19 (Kd.R_lt (q_r (HO_5.out)))) (below_size bq)); have n2_ := Aside0.mk (below_step bq hb); revert n0_ n1_ n2_; clear HO_5 HB; intro HO_5 HO344 HB; clear hb ho19))
    repeat (go_quiet (first | ((with_reducible refine gate_dst (N := 56) rfl ?_); refine Kd.R_lit k49 _ 49 ?hg (N := 56) ?hd (xs := ([] : List (S49))) (inner := []) (ok := fun _ => True) (okp := fun _ => True) ?hr ?hp (fun _ hk => hk) trivial (Below.refl _ _) (Nat.le_refl _) (by simp) ?_; (case hd => rfl); (case hg => rfl); (case hr => first | (go_simp; done) | (go_simp; rfl)); (case hp => exact (Reps.none _ _)); intro v343 w18 ho19 hb hg_ hnew_; clear hg_ hnew_; (first | rw [← Ny342.out] at ho19 | (simp only [Int.reduceToNat] at ho19; rw [← Ny342.out] at ho19)); have n0_ := Aside0.mk (Kd.R_elder' (q_r (HO_5.out)) (Kd.R_base ho19) hb); have n1_ := Aside0.mk (Kd.R_lower (Kd.R_new' ho19 (Kd.R_lt (q_r (HO_5.out)))) (below_size bq)); have n2_ := Aside0.mk (below_step bq hb); revert n0_ n1_ n2_; clear HO_5 HB; intro HO_5 HO344 HB; clear hb ho19)); try go_wp2_with (first | ((with_reducible refine gate_dst (N := 56) rfl ?_); refine Kd.R_lit k49 _ 49 ?hg (N := 56) ?hd (xs := ([] : List (S49))) (inner := []) (ok := fun _ => True) (okp := fun _ => True) ?hr ?hp (fun _ hk => hk) trivial (Below.refl _ _) (Nat.le_refl _) (by simp) ?_; (case hd => rfl); (case hg => rfl); (case hr => first | (go_simp; done) | (go_simp; rfl)); (case hp => exact (Reps.none _ _)); intro v343 w18 ho19 hb hg_ hnew_; clear hg_ hnew_; (first | rw [← Ny342.out] at ho19 | (simp only [Int.reduceToNat] at ho19; rw [← Ny342.out] at ho19)); have n0_ := Aside0.mk (Kd.R_elder' (q_r (HO_5.out)) (Kd.R_base ho19) hb); have n1_ := Aside0.mk (Kd.R_lower (Kd.R_new' ho19 (Kd.R_lt (q_r (HO_5.out)))) (below_size bq)); have n2_ := Aside0.mk (below_step bq hb); revert n0_ n1_ n2_; clear HO_5 HB; intro HO_5 HO344 HB; clear hb ho19)))
    go_loopg [9, 10] k1 (fun kq v9 v10 w' => ∃ (x9_2 : List (S49)) (x10_2 : Int), v10 = .int .i64 x10_2 ∧ Aside0 (spec_l5Compact.l2 kq a1 x5_1 x9_2 x10_2 = some r) ∧ Aside0 (kq ≤ k1) ∧ Aside0 (Kd.R k49 49 w' w.heap.size (fun k_ => some k_ ≠ (v9 : Value).ownBlock) u5 x5_1) ∧ Aside0 (Kd.R k49 49 w' w.heap.size (fun k_ => some k_ ≠ (u5 : Value).ownBlock) v9 x9_2) ∧ Aside0 (Below w.heap.size w w'))
    case atStart => exact ⟨(y342), (0), q_i, H', ⟨Nat.le_refl _⟩, ⟨q_r (Kd.R_mono HO_5.out (fun _ hk => hk.2))⟩, ⟨q_r (Kd.R_mono HO344.out (fun _ hk => hk.2))⟩, ⟨bq⟩⟩
    case round =>
     clear H'
     (try clear c1); (try clear p2); (try clear p3); (try clear q3); (try clear hx3); (try clear c5); (try clear c5b0); (try clear c6); (try clear c6b0); (try clear p6); (try clear c7); (try clear c8)
     (try clear c8b0); (try clear c9); (try clear c9b0); (try clear c10); (try clear c10b0); (try clear c11); (try clear c11b0); (try clear c12); (try clear c12b0); (try clear c12b1); (try clear c13); (try clear c14)
     (try clear c14b0); (try clear c15); (try clear c15b0); (try clear c16); (try clear hx335_0); (try clear hx335_1); (try clear hx335_2); (try clear hx335_3); (try clear hx336_0); (try clear hx336_1)
     (try clear hx336_2); (try clear hx336_3); (try clear hx337_0); (try clear hx337_1); (try clear hx337_2); (try clear hx337_3); (try clear hx338_0); (try clear hx338_1); (try clear hx338_2); (try clear hx338_3)
     (try clear p2); (try clear p335); (try clear p336); (try clear p337); (try clear p338); (try clear q335); (try clear q336); (try clear q337); (try clear q338)
     obtain ⟨x9_2, x10_2, rfl, HA, HK2, HO_5, HO_9, HB⟩ := hrel
     cases gk with
     | zero => exact absurd HA.out (by simp [spec_l5Compact.l2])
     | succ k2 =>
      have H := HA.out
      clear HA
      simp only [spec_l5Compact.l2] at H
      by_cases c20 : x10_2 < (x5_1.length : Int)
      ·rw [if_pos c20] at H
       have c20b0 := decide_eq_true c20
       clear c20
       by_cases c21 : x10_2 = (wrap64 ((x5_1.length : Int) - 1))
       ·rw [if_pos c21] at H
        have c21b0 : (x10_2 == (wrap64 ((x5_1.length : Int) - 1))) = true := beq_iff_eq.mpr c21
        have c21b1 : (x10_2 != (wrap64 ((x5_1.length : Int) - 1))) = false := bne_eq_false_iff_eq.mpr c21
        clear c21
        by_cases c22 : 0 ≤ x10_2
        ·rw [if_pos c22] at H
         have c22b0 := decide_eq_true c22
         clear c22
         obtain ⟨bq23, hbq23⟩ : ∃ b_ : Bool, b_ = ((rd_T49 x5_1 x10_2).f3) := ⟨_, rfl⟩
         replace H : (if (bq23 = true) then (if ((rd_T49 x5_1 x10_2).f1) > a1 then (if x9_2.length < 2932031007402 then (spec_l5Compact.l2 k2 a1 x5_1 (x9_2 ++ [(⟨(rd_T49 x5_1 x10_2).f0, (rd_T49 x5_1 x10_2).f1, (rd_T49 x5_1 x10_2).f2, bq23⟩ : S49)]) (wrap64 (x10_2 + 1))) else (none)) else (spec_l5Compact.l2 k2 a1 x5_1 x9_2 (wrap64 (x10_2 + 1)))) else (if x9_2.length < 2932031007402 then (spec_l5Compact.l2 k2 a1 x5_1 (x9_2 ++ [(⟨(rd_T49 x5_1 x10_2).f0, (rd_T49 x5_1 x10_2).f1, (rd_T49 x5_1 x10_2).f2, bq23⟩ : S49)]) (wrap64 (x10_2 + 1))) else (none))) = some r := by rw [← hbq23] at H; exact H
         have Nbq23 := Aside0.mk hbq23
         clear hbq23
         by_cases c24 : (bq23 = true)
         ·subst c24
          have H1 : (if ((rd_T49 x5_1 x10_2).f1) > a1 then (if x9_2.length < 2932031007402 then (spec_l5Compact.l2 k2 a1 x5_1 (x9_2 ++ [(⟨(rd_T49 x5_1 x10_2).f0, (rd_T49 x5_1 x10_2).f1, (rd_T49 x5_1 x10_2).f2, true⟩ : S49)]) (wrap64 (x10_2 + 1))) else (none)) else (spec_l5Compact.l2 k2 a1 x5_1 x9_2 (wrap64 (x10_2 + 1)))) = some r := by rw [if_pos rfl] at H; exact H
          clear H
          have H := H1
          clear H1
          by_cases c25 : ((rd_T49 x5_1 x10_2).f1) > a1
          ·rw [if_pos c25] at H
           have c25b0 := decide_eq_true c25
           clear c25
           by_cases c26 : x9_2.length < 2932031007402
           ·rw [if_pos c26] at H
            have LMc26 := Aside0.mk c26
            clear c26
            obtain ⟨y348, hy348⟩ : ∃ y_ : List (S49), y_ = (x9_2 ++ [(⟨(rd_T49 x5_1 x10_2).f0, (rd_T49 x5_1 x10_2).f1, (rd_T49 x5_1 x10_2).f2, true⟩ : S49)]) := ⟨_, rfl⟩
            replace H : (spec_l5Compact.l2 k2 a1 x5_1 y348 (wrap64 (x10_2 + 1))) = some r := q_h hy348 H
            have Ny348 := Aside0.mk hy348
            clear hy348
            have H' := Aside0.mk H
            clear H
            obtain ⟨Ao27, co27, eo27⟩ := Kd.R_slice HO_5.out
            subst eo27
            have p345 : 0 ≤ (x10_2 : Int) := q_d
            have q345 : x10_2 < (x5_1.length : Int) := q_d
            obtain ⟨ad345, e345, hx345_0, hx345_1, hx345_2, hx345_3⟩ := at_T49 (Kd.R_reads' HO_5.out).2.2 x10_2 p345 q345
            (try rw [← Nbq23.out] at hx345_3)
            cases e345
            replace p345 := eq_true p345
            replace q345 := eq_true q345
            have p346 : 0 ≤ (x10_2 : Int) := q_d
            have q346 : x10_2 < (x5_1.length : Int) := q_d
            obtain ⟨ad346, e346, hx346_0, hx346_1, hx346_2, hx346_3⟩ := at_T49 (Kd.R_reads' HO_5.out).2.2 x10_2 p346 q346
            (try rw [← Nbq23.out] at hx346_3)
            obtain rfl : ad345 = ad346 := (by injection e346)
            replace p346 := eq_true p346
            replace q346 := eq_true q346
            have p347 : 0 ≤ (x10_2 : Int) := q_d
            have q347 : x10_2 < (x5_1.length : Int) := q_d
            obtain ⟨ad347, e347, hx347_0, hx347_1, hx347_2, hx347_3⟩ := at_T49 (Kd.R_reads' HO_5.out).2.2 x10_2 p347 q347
            (try rw [← Nbq23.out] at hx347_3)
            obtain rfl : ad345 = ad347 := (by injection e347)
            replace p347 := eq_true p347
            replace q347 := eq_true q347
            go_wp2_with (first | ((with_reducible refine gate_builtin (b := .append) (xs := #[.tmp 101, .tmp 106]) rfl ?_); at_builtin; refine Kd.R_append k49 (w0 := w) w.heap.size rfl (.tmp 101) (.tmp 106) 25 49 (.agg #[(.string ⟨#[]⟩), (.int .i64 0), (.string ⟨#[]⟩), (.bool false)]) 48 rfl Try.underlying25 info49 rfl (by decide) (by omega) u9 x9_2 (⟨(rd_T49 x5_1 x10_2).f0, (rd_T49 x5_1 x10_2).f1, (rd_T49 x5_1 x10_2).f2, true⟩ : S49) [.string ((rd_T49 x5_1 x10_2).f0), .int .i64 ((rd_T49 x5_1 x10_2).f1), .string ((rd_T49 x5_1 x10_2).f2), .bool true] (fun k_ => some k_ ≠ (.slice (some ad345) x5_1.length co27 : Value).ownBlock) (fun _ => False) rfl rfl ?aP (fun _ hk => hk.elim) ?aF ?aO ?aB ?aS ?aL ?_; (case aP => exact k49_mkM _ _ _ (⟨(rd_T49 x5_1 x10_2).f0, (rd_T49 x5_1 x10_2).f1, (rd_T49 x5_1 x10_2).f2, true⟩ : S49)); (case aB => exact bq); (case aF => exact (fun k_ hk => Kd.fresh' (Kd.R_lt (q_r (HO_5.out))) k_ hk)); (case aO => exact (q_r (HO_9.out))); (case aS => exact (below_size bq)); (case aL => have := LMc26.out; omega); intro v349 w28 ho hb hg hat; rw [← Ny348.out] at ho; have n0_ := Aside0.mk (Kd.R_after (ok := (fun _ => True)) (by (with_reducible repeat (first | apply Kd.R_alloc | apply Kd.R_drewN | apply Kd.R_drew)); exact Kd.R_mono HO_5.out (fun _ hk => ⟨trivial, hk⟩)) hg hat); have n1_ := Aside0.mk (hb); have n2_ := Aside0.mk (ho); revert n0_ n1_ n2_; clear HO_5 HB HO_9; intro HO_5 HB HO350; clear ho hb hg hat))
            repeat (go_quiet (first | ((with_reducible refine gate_builtin (b := .append) (xs := #[.tmp 101, .tmp 106]) rfl ?_); at_builtin; refine Kd.R_append k49 (w0 := w) w.heap.size rfl (.tmp 101) (.tmp 106) 25 49 (.agg #[(.string ⟨#[]⟩), (.int .i64 0), (.string ⟨#[]⟩), (.bool false)]) 48 rfl Try.underlying25 info49 rfl (by decide) (by omega) u9 x9_2 (⟨(rd_T49 x5_1 x10_2).f0, (rd_T49 x5_1 x10_2).f1, (rd_T49 x5_1 x10_2).f2, true⟩ : S49) [.string ((rd_T49 x5_1 x10_2).f0), .int .i64 ((rd_T49 x5_1 x10_2).f1), .string ((rd_T49 x5_1 x10_2).f2), .bool true] (fun k_ => some k_ ≠ (.slice (some ad345) x5_1.length co27 : Value).ownBlock) (fun _ => False) rfl rfl ?aP (fun _ hk => hk.elim) ?aF ?aO ?aB ?aS ?aL ?_; (case aP => exact k49_mkM _ _ _ (⟨(rd_T49 x5_1 x10_2).f0, (rd_T49 x5_1 x10_2).f1, (rd_T49 x5_1 x10_2).f2, true⟩ : S49)); (case aB => exact bq); (case aF => exact (fun k_ hk => Kd.fresh' (Kd.R_lt (q_r (HO_5.out))) k_ hk)); (case aO => exact (q_r (HO_9.out))); (case aS => exact (below_size bq)); (case aL => have := LMc26.out; omega); intro v349 w28 ho hb hg hat; rw [← Ny348.out] at ho; have n0_ := Aside0.mk (Kd.R_after (ok := (fun _ => True)) (by (with_reducible repeat (first | apply Kd.R_alloc | apply Kd.R_drewN | apply Kd.R_drew)); exact Kd.R_mono HO_5.out (fun _ hk => ⟨trivial, hk⟩)) hg hat); have n1_ := Aside0.mk (hb); have n2_ := Aside0.mk (ho); revert n0_ n1_ n2_; clear HO_5 HB HO_9; intro HO_5 HB HO350; clear ho hb hg hat)); try go_wp2_with (first | ((with_reducible refine gate_builtin (b := .append) (xs := #[.tmp 101, .tmp 106]) rfl ?_); at_builtin; refine Kd.R_append k49 (w0 := w) w.heap.size rfl (.tmp 101) (.tmp 106) 25 49 (.agg #[(.string ⟨#[]⟩), (.int .i64 0), (.string ⟨#[]⟩), (.bool false)]) 48 rfl Try.underlying25 info49 rfl (by decide) (by omega) u9 x9_2 (⟨(rd_T49 x5_1 x10_2).f0, (rd_T49 x5_1 x10_2).f1, (rd_T49 x5_1 x10_2).f2, true⟩ : S49) [.string ((rd_T49 x5_1 x10_2).f0), .int .i64 ((rd_T49 x5_1 x10_2).f1), .string ((rd_T49 x5_1 x10_2).f2), .bool true] (fun k_ => some k_ ≠ (.slice (some ad345) x5_1.length co27 : Value).ownBlock) (fun _ => False) rfl rfl ?aP (fun _ hk => hk.elim) ?aF ?aO ?aB ?aS ?aL ?_; (case aP => exact k49_mkM _ _ _ (⟨(rd_T49 x5_1 x10_2).f0, (rd_T49 x5_1 x10_2).f1, (rd_T49 x5_1 x10_2).f2, true⟩ : S49)); (case aB => exact bq); (case aF => exact (fun k_ hk => Kd.fresh' (Kd.R_lt (q_r (HO_5.out))) k_ hk)); (case aO => exact (q_r (HO_9.out))); (case aS => exact (below_size bq)); (case aL => have := LMc26.out; omega); intro v349 w28 ho hb hg hat; rw [← Ny348.out] at ho; have n0_ := Aside0.mk (Kd.R_after (ok := (fun _ => True)) (by (with_reducible repeat (first | apply Kd.R_alloc | apply Kd.R_drewN | apply Kd.R_drew)); exact Kd.R_mono HO_5.out (fun _ hk => ⟨trivial, hk⟩)) hg hat); have n1_ := Aside0.mk (hb); have n2_ := Aside0.mk (ho); revert n0_ n1_ n2_; clear HO_5 HB HO_9; intro HO_5 HB HO350; clear ho hb hg hat)))
            go_roundg k2
            case measure => have := HK1.out; have := HK2.out; omega
            case rel => (try rw [← Nbq23.out]); (try rw [← Nbq37.out]); exact ⟨(y348), (wrap64 (x10_2 + 1)), q_i, H', ⟨by have := HK1.out; have := HK2.out; omega⟩, ⟨q_r (Kd.R_mono HO_5.out (fun _ hk => hk.2))⟩, ⟨q_r (HO350.out)⟩, ⟨bq⟩⟩
           ·rw [if_neg c26] at H
            exact absurd H (by simp)
          ·rw [if_neg c25] at H
           have c25b0 := decide_eq_false c25
           clear c25
           have H' := Aside0.mk H
           clear H
           obtain ⟨Ao29, co29, eo29⟩ := Kd.R_slice HO_5.out
           subst eo29
           have p345 : 0 ≤ (x10_2 : Int) := q_d
           have q345 : x10_2 < (x5_1.length : Int) := q_d
           obtain ⟨ad345, e345, hx345_0, hx345_1, hx345_2, hx345_3⟩ := at_T49 (Kd.R_reads' HO_5.out).2.2 x10_2 p345 q345
           (try rw [← Nbq23.out] at hx345_3)
           cases e345
           replace p345 := eq_true p345
           replace q345 := eq_true q345
           have p346 : 0 ≤ (x10_2 : Int) := q_d
           have q346 : x10_2 < (x5_1.length : Int) := q_d
           obtain ⟨ad346, e346, hx346_0, hx346_1, hx346_2, hx346_3⟩ := at_T49 (Kd.R_reads' HO_5.out).2.2 x10_2 p346 q346
           (try rw [← Nbq23.out] at hx346_3)
           obtain rfl : ad345 = ad346 := (by injection e346)
           replace p346 := eq_true p346
           replace q346 := eq_true q346
           go_wp2
           repeat (go_quiet (fail); try go_wp2)
           go_roundg k2
           case measure => have := HK1.out; have := HK2.out; omega
           case rel => (try rw [← Nbq23.out]); (try rw [← Nbq37.out]); exact ⟨(x9_2), (wrap64 (x10_2 + 1)), q_i, H', ⟨by have := HK1.out; have := HK2.out; omega⟩, ⟨q_r (HO_5.out)⟩, ⟨q_r (HO_9.out)⟩, ⟨bq⟩⟩
         ·replace c24 := Bool.eq_false_iff.mpr c24
          subst c24
          have H1 : (if x9_2.length < 2932031007402 then (spec_l5Compact.l2 k2 a1 x5_1 (x9_2 ++ [(⟨(rd_T49 x5_1 x10_2).f0, (rd_T49 x5_1 x10_2).f1, (rd_T49 x5_1 x10_2).f2, false⟩ : S49)]) (wrap64 (x10_2 + 1))) else (none)) = some r := by rw [if_neg (show ¬ (false = true) by decide)] at H; exact H
          clear H
          have H := H1
          clear H1
          by_cases c30 : x9_2.length < 2932031007402
          ·rw [if_pos c30] at H
           have LMc30 := Aside0.mk c30
           clear c30
           obtain ⟨y352, hy352⟩ : ∃ y_ : List (S49), y_ = (x9_2 ++ [(⟨(rd_T49 x5_1 x10_2).f0, (rd_T49 x5_1 x10_2).f1, (rd_T49 x5_1 x10_2).f2, false⟩ : S49)]) := ⟨_, rfl⟩
           replace H : (spec_l5Compact.l2 k2 a1 x5_1 y352 (wrap64 (x10_2 + 1))) = some r := q_h hy352 H
           have Ny352 := Aside0.mk hy352
           clear hy352
           have H' := Aside0.mk H
           clear H
           obtain ⟨Ao31, co31, eo31⟩ := Kd.R_slice HO_5.out
           subst eo31
           have p345 : 0 ≤ (x10_2 : Int) := q_d
           have q345 : x10_2 < (x5_1.length : Int) := q_d
           obtain ⟨ad345, e345, hx345_0, hx345_1, hx345_2, hx345_3⟩ := at_T49 (Kd.R_reads' HO_5.out).2.2 x10_2 p345 q345
           (try rw [← Nbq23.out] at hx345_3)
           cases e345
           replace p345 := eq_true p345
           replace q345 := eq_true q345
           have p351 : 0 ≤ (x10_2 : Int) := q_d
           have q351 : x10_2 < (x5_1.length : Int) := q_d
           obtain ⟨ad351, e351, hx351_0, hx351_1, hx351_2, hx351_3⟩ := at_T49 (Kd.R_reads' HO_5.out).2.2 x10_2 p351 q351
           (try rw [← Nbq23.out] at hx351_3)
           obtain rfl : ad345 = ad351 := (by injection e351)
           replace p351 := eq_true p351
           replace q351 := eq_true q351
           go_wp2_with (first | ((with_reducible refine gate_builtin (b := .append) (xs := #[.tmp 101, .tmp 106]) rfl ?_); at_builtin; refine Kd.R_append k49 (w0 := w) w.heap.size rfl (.tmp 101) (.tmp 106) 25 49 (.agg #[(.string ⟨#[]⟩), (.int .i64 0), (.string ⟨#[]⟩), (.bool false)]) 48 rfl Try.underlying25 info49 rfl (by decide) (by omega) u9 x9_2 (⟨(rd_T49 x5_1 x10_2).f0, (rd_T49 x5_1 x10_2).f1, (rd_T49 x5_1 x10_2).f2, false⟩ : S49) [.string ((rd_T49 x5_1 x10_2).f0), .int .i64 ((rd_T49 x5_1 x10_2).f1), .string ((rd_T49 x5_1 x10_2).f2), .bool false] (fun k_ => some k_ ≠ (.slice (some ad345) x5_1.length co31 : Value).ownBlock) (fun _ => False) rfl rfl ?aP (fun _ hk => hk.elim) ?aF ?aO ?aB ?aS ?aL ?_; (case aP => exact k49_mkM _ _ _ (⟨(rd_T49 x5_1 x10_2).f0, (rd_T49 x5_1 x10_2).f1, (rd_T49 x5_1 x10_2).f2, false⟩ : S49)); (case aB => exact bq); (case aF => exact (fun k_ hk => Kd.fresh' (Kd.R_lt (q_r (HO_5.out))) k_ hk)); (case aO => exact (q_r (HO_9.out))); (case aS => exact (below_size bq)); (case aL => have := LMc30.out; omega); intro v353 w32 ho hb hg hat; rw [← Ny352.out] at ho; have n0_ := Aside0.mk (Kd.R_after (ok := (fun _ => True)) (by (with_reducible repeat (first | apply Kd.R_alloc | apply Kd.R_drewN | apply Kd.R_drew)); exact Kd.R_mono HO_5.out (fun _ hk => ⟨trivial, hk⟩)) hg hat); have n1_ := Aside0.mk (hb); have n2_ := Aside0.mk (ho); revert n0_ n1_ n2_; clear HO_5 HB HO_9; intro HO_5 HB HO354; clear ho hb hg hat))
           repeat (go_quiet (first | ((with_reducible refine gate_builtin (b := .append) (xs := #[.tmp 101, .tmp 106]) rfl ?_); at_builtin; refine Kd.R_append k49 (w0 := w) w.heap.size rfl (.tmp 101) (.tmp 106) 25 49 (.agg #[(.string ⟨#[]⟩), (.int .i64 0), (.string ⟨#[]⟩), (.bool false)]) 48 rfl Try.underlying25 info49 rfl (by decide) (by omega) u9 x9_2 (⟨(rd_T49 x5_1 x10_2).f0, (rd_T49 x5_1 x10_2).f1, (rd_T49 x5_1 x10_2).f2, false⟩ : S49) [.string ((rd_T49 x5_1 x10_2).f0), .int .i64 ((rd_T49 x5_1 x10_2).f1), .string ((rd_T49 x5_1 x10_2).f2), .bool false] (fun k_ => some k_ ≠ (.slice (some ad345) x5_1.length co31 : Value).ownBlock) (fun _ => False) rfl rfl ?aP (fun _ hk => hk.elim) ?aF ?aO ?aB ?aS ?aL ?_; (case aP => exact k49_mkM _ _ _ (⟨(rd_T49 x5_1 x10_2).f0, (rd_T49 x5_1 x10_2).f1, (rd_T49 x5_1 x10_2).f2, false⟩ : S49)); (case aB => exact bq); (case aF => exact (fun k_ hk => Kd.fresh' (Kd.R_lt (q_r (HO_5.out))) k_ hk)); (case aO => exact (q_r (HO_9.out))); (case aS => exact (below_size bq)); (case aL => have := LMc30.out; omega); intro v353 w32 ho hb hg hat; rw [← Ny352.out] at ho; have n0_ := Aside0.mk (Kd.R_after (ok := (fun _ => True)) (by (with_reducible repeat (first | apply Kd.R_alloc | apply Kd.R_drewN | apply Kd.R_drew)); exact Kd.R_mono HO_5.out (fun _ hk => ⟨trivial, hk⟩)) hg hat); have n1_ := Aside0.mk (hb); have n2_ := Aside0.mk (ho); revert n0_ n1_ n2_; clear HO_5 HB HO_9; intro HO_5 HB HO354; clear ho hb hg hat)); try go_wp2_with (first | ((with_reducible refine gate_builtin (b := .append) (xs := #[.tmp 101, .tmp 106]) rfl ?_); at_builtin; refine Kd.R_append k49 (w0 := w) w.heap.size rfl (.tmp 101) (.tmp 106) 25 49 (.agg #[(.string ⟨#[]⟩), (.int .i64 0), (.string ⟨#[]⟩), (.bool false)]) 48 rfl Try.underlying25 info49 rfl (by decide) (by omega) u9 x9_2 (⟨(rd_T49 x5_1 x10_2).f0, (rd_T49 x5_1 x10_2).f1, (rd_T49 x5_1 x10_2).f2, false⟩ : S49) [.string ((rd_T49 x5_1 x10_2).f0), .int .i64 ((rd_T49 x5_1 x10_2).f1), .string ((rd_T49 x5_1 x10_2).f2), .bool false] (fun k_ => some k_ ≠ (.slice (some ad345) x5_1.length co31 : Value).ownBlock) (fun _ => False) rfl rfl ?aP (fun _ hk => hk.elim) ?aF ?aO ?aB ?aS ?aL ?_; (case aP => exact k49_mkM _ _ _ (⟨(rd_T49 x5_1 x10_2).f0, (rd_T49 x5_1 x10_2).f1, (rd_T49 x5_1 x10_2).f2, false⟩ : S49)); (case aB => exact bq); (case aF => exact (fun k_ hk => Kd.fresh' (Kd.R_lt (q_r (HO_5.out))) k_ hk)); (case aO => exact (q_r (HO_9.out))); (case aS => exact (below_size bq)); (case aL => have := LMc30.out; omega); intro v353 w32 ho hb hg hat; rw [← Ny352.out] at ho; have n0_ := Aside0.mk (Kd.R_after (ok := (fun _ => True)) (by (with_reducible repeat (first | apply Kd.R_alloc | apply Kd.R_drewN | apply Kd.R_drew)); exact Kd.R_mono HO_5.out (fun _ hk => ⟨trivial, hk⟩)) hg hat); have n1_ := Aside0.mk (hb); have n2_ := Aside0.mk (ho); revert n0_ n1_ n2_; clear HO_5 HB HO_9; intro HO_5 HB HO354; clear ho hb hg hat)))
           go_roundg k2
           case measure => have := HK1.out; have := HK2.out; omega
           case rel => (try rw [← Nbq23.out]); (try rw [← Nbq37.out]); exact ⟨(y352), (wrap64 (x10_2 + 1)), q_i, H', ⟨by have := HK1.out; have := HK2.out; omega⟩, ⟨q_r (Kd.R_mono HO_5.out (fun _ hk => hk.2))⟩, ⟨q_r (HO354.out)⟩, ⟨bq⟩⟩
          ·rw [if_neg c30] at H
           exact absurd H (by simp)
        ·rw [if_neg c22] at H
         exact absurd H (by simp)
       ·rw [if_neg c21] at H
        have c21b0 : (x10_2 == (wrap64 ((x5_1.length : Int) - 1))) = false := beq_eq_false_iff_ne.mpr c21
        have c21b1 : (x10_2 != (wrap64 ((x5_1.length : Int) - 1))) = true := bne_iff_ne.mpr c21
        obtain ⟨ji33, hji33⟩ : ∃ j_ : Int, (wrap64 (x10_2 + 1)) = j_ := ⟨_, rfl⟩
        replace H : (if 0 ≤ (ji33) then (if (ji33) < (x5_1.length : Int) then (if 0 ≤ x10_2 then (if ((rd_T49 x5_1 x10_2).f3 = true) then (if ((rd_T49 x5_1 x10_2).f1) > a1 then (if x9_2.length < 2932031007402 then (spec_l5Compact.l2 k2 a1 x5_1 (x9_2 ++ [(⟨(rd_T49 x5_1 x10_2).f0, (rd_T49 x5_1 x10_2).f1, (rd_T49 x5_1 x10_2).f2, (rd_T49 x5_1 x10_2).f3⟩ : S49)]) ji33) else (none)) else (if (¬ ((rd_T49 x5_1 (ji33)).f0).toList = ((rd_T49 x5_1 x10_2).f0).toList) then (spec_l5Compact.l2 k2 a1 x5_1 x9_2 ji33) else (if x9_2.length < 2932031007402 then (spec_l5Compact.l2 k2 a1 x5_1 (x9_2 ++ [(⟨(rd_T49 x5_1 x10_2).f0, (rd_T49 x5_1 x10_2).f1, (rd_T49 x5_1 x10_2).f2, (rd_T49 x5_1 x10_2).f3⟩ : S49)]) ji33) else (none)))) else (if x9_2.length < 2932031007402 then (spec_l5Compact.l2 k2 a1 x5_1 (x9_2 ++ [(⟨(rd_T49 x5_1 x10_2).f0, (rd_T49 x5_1 x10_2).f1, (rd_T49 x5_1 x10_2).f2, (rd_T49 x5_1 x10_2).f3⟩ : S49)]) ji33) else (none))) else (none)) else (none)) else (none)) = some r := by first | (rw [hji33] at H; exact H) | (simp only [hji33] at H ⊢; exact H)
        have hji33w : (IntKind.i64.wrap (x10_2 + 1)) = ji33 := (i64_w _).trans hji33
        by_cases c34 : 0 ≤ (ji33)
        ·rw [if_pos c34] at H
         have c34b0 := decide_eq_true c34
         clear c34
         by_cases c35 : (ji33) < (x5_1.length : Int)
         ·rw [if_pos c35] at H
          have c35b0 := decide_eq_true c35
          clear c35
          by_cases c36 : 0 ≤ x10_2
          ·rw [if_pos c36] at H
           have c36b0 := decide_eq_true c36
           clear c36
           obtain ⟨bq37, hbq37⟩ : ∃ b_ : Bool, b_ = ((rd_T49 x5_1 x10_2).f3) := ⟨_, rfl⟩
           replace H : (if (bq37 = true) then (if ((rd_T49 x5_1 x10_2).f1) > a1 then (if x9_2.length < 2932031007402 then (spec_l5Compact.l2 k2 a1 x5_1 (x9_2 ++ [(⟨(rd_T49 x5_1 x10_2).f0, (rd_T49 x5_1 x10_2).f1, (rd_T49 x5_1 x10_2).f2, bq37⟩ : S49)]) ji33) else (none)) else (if (¬ ((rd_T49 x5_1 (ji33)).f0).toList = ((rd_T49 x5_1 x10_2).f0).toList) then (spec_l5Compact.l2 k2 a1 x5_1 x9_2 ji33) else (if x9_2.length < 2932031007402 then (spec_l5Compact.l2 k2 a1 x5_1 (x9_2 ++ [(⟨(rd_T49 x5_1 x10_2).f0, (rd_T49 x5_1 x10_2).f1, (rd_T49 x5_1 x10_2).f2, bq37⟩ : S49)]) ji33) else (none)))) else (if x9_2.length < 2932031007402 then (spec_l5Compact.l2 k2 a1 x5_1 (x9_2 ++ [(⟨(rd_T49 x5_1 x10_2).f0, (rd_T49 x5_1 x10_2).f1, (rd_T49 x5_1 x10_2).f2, bq37⟩ : S49)]) ji33) else (none))) = some r := by rw [← hbq37] at H; exact H
           have Nbq37 := Aside0.mk hbq37
           clear hbq37
           by_cases c38 : (bq37 = true)
           ·subst c38
            have H1 : (if ((rd_T49 x5_1 x10_2).f1) > a1 then (if x9_2.length < 2932031007402 then (spec_l5Compact.l2 k2 a1 x5_1 (x9_2 ++ [(⟨(rd_T49 x5_1 x10_2).f0, (rd_T49 x5_1 x10_2).f1, (rd_T49 x5_1 x10_2).f2, true⟩ : S49)]) ji33) else (none)) else (if (¬ ((rd_T49 x5_1 (ji33)).f0).toList = ((rd_T49 x5_1 x10_2).f0).toList) then (spec_l5Compact.l2 k2 a1 x5_1 x9_2 ji33) else (if x9_2.length < 2932031007402 then (spec_l5Compact.l2 k2 a1 x5_1 (x9_2 ++ [(⟨(rd_T49 x5_1 x10_2).f0, (rd_T49 x5_1 x10_2).f1, (rd_T49 x5_1 x10_2).f2, true⟩ : S49)]) ji33) else (none)))) = some r := by rw [if_pos rfl] at H; exact H
            clear H
            have H := H1
            clear H1
            by_cases c39 : ((rd_T49 x5_1 x10_2).f1) > a1
            ·rw [if_pos c39] at H
             have c39b0 := decide_eq_true c39
             clear c39
             by_cases c40 : x9_2.length < 2932031007402
             ·rw [if_pos c40] at H
              have LMc40 := Aside0.mk c40
              clear c40
              obtain ⟨y360, hy360⟩ : ∃ y_ : List (S49), y_ = (x9_2 ++ [(⟨(rd_T49 x5_1 x10_2).f0, (rd_T49 x5_1 x10_2).f1, (rd_T49 x5_1 x10_2).f2, true⟩ : S49)]) := ⟨_, rfl⟩
              replace H : (spec_l5Compact.l2 k2 a1 x5_1 y360 ji33) = some r := q_h hy360 H
              have Ny360 := Aside0.mk hy360
              clear hy360
              have H' := Aside0.mk H
              clear H
              obtain ⟨Ao41, co41, eo41⟩ := Kd.R_slice HO_5.out
              subst eo41
              have p355 : 0 ≤ ((ji33) : Int) := q_d
              have q355 : (ji33) < (x5_1.length : Int) := q_d
              obtain ⟨ad355, e355, hx355_0, hx355_1, hx355_2, hx355_3⟩ := at_T49 (Kd.R_reads' HO_5.out).2.2 (ji33) p355 q355
              (try rw [← Nbq37.out] at hx355_3)
              cases e355
              replace p355 := eq_true p355
              replace q355 := eq_true q355
              have p356 : 0 ≤ (x10_2 : Int) := q_d
              have q356 : x10_2 < (x5_1.length : Int) := q_d
              obtain ⟨ad356, e356, hx356_0, hx356_1, hx356_2, hx356_3⟩ := at_T49 (Kd.R_reads' HO_5.out).2.2 x10_2 p356 q356
              (try rw [← Nbq37.out] at hx356_3)
              obtain rfl : ad355 = ad356 := (by injection e356)
              replace p356 := eq_true p356
              replace q356 := eq_true q356
              have p357 : 0 ≤ (x10_2 : Int) := q_d
              have q357 : x10_2 < (x5_1.length : Int) := q_d
              obtain ⟨ad357, e357, hx357_0, hx357_1, hx357_2, hx357_3⟩ := at_T49 (Kd.R_reads' HO_5.out).2.2 x10_2 p357 q357
              (try rw [← Nbq37.out] at hx357_3)
              obtain rfl : ad355 = ad357 := (by injection e357)
              replace p357 := eq_true p357
              replace q357 := eq_true q357
              have p358 : 0 ≤ (x10_2 : Int) := q_d
              have q358 : x10_2 < (x5_1.length : Int) := q_d
              obtain ⟨ad358, e358, hx358_0, hx358_1, hx358_2, hx358_3⟩ := at_T49 (Kd.R_reads' HO_5.out).2.2 x10_2 p358 q358
              (try rw [← Nbq37.out] at hx358_3)
              obtain rfl : ad355 = ad358 := (by injection e358)
              replace p358 := eq_true p358
              replace q358 := eq_true q358
              have p359 : 0 ≤ (x10_2 : Int) := q_d
              have q359 : x10_2 < (x5_1.length : Int) := q_d
              obtain ⟨ad359, e359, hx359_0, hx359_1, hx359_2, hx359_3⟩ := at_T49 (Kd.R_reads' HO_5.out).2.2 x10_2 p359 q359
              (try rw [← Nbq37.out] at hx359_3)
              obtain rfl : ad355 = ad359 := (by injection e359)
              replace p359 := eq_true p359
              replace q359 := eq_true q359
              go_wp2_with (first | ((with_reducible refine gate_builtin (b := .append) (xs := #[.tmp 101, .tmp 106]) rfl ?_); at_builtin; refine Kd.R_append k49 (w0 := w) w.heap.size rfl (.tmp 101) (.tmp 106) 25 49 (.agg #[(.string ⟨#[]⟩), (.int .i64 0), (.string ⟨#[]⟩), (.bool false)]) 48 rfl Try.underlying25 info49 rfl (by decide) (by omega) u9 x9_2 (⟨(rd_T49 x5_1 x10_2).f0, (rd_T49 x5_1 x10_2).f1, (rd_T49 x5_1 x10_2).f2, true⟩ : S49) [.string ((rd_T49 x5_1 x10_2).f0), .int .i64 ((rd_T49 x5_1 x10_2).f1), .string ((rd_T49 x5_1 x10_2).f2), .bool true] (fun k_ => some k_ ≠ (.slice (some ad355) x5_1.length co41 : Value).ownBlock) (fun _ => False) rfl rfl ?aP (fun _ hk => hk.elim) ?aF ?aO ?aB ?aS ?aL ?_; (case aP => exact k49_mkM _ _ _ (⟨(rd_T49 x5_1 x10_2).f0, (rd_T49 x5_1 x10_2).f1, (rd_T49 x5_1 x10_2).f2, true⟩ : S49)); (case aB => exact bq); (case aF => exact (fun k_ hk => Kd.fresh' (Kd.R_lt (q_r (HO_5.out))) k_ hk)); (case aO => exact (q_r (HO_9.out))); (case aS => exact (below_size bq)); (case aL => have := LMc40.out; omega); intro v361 w42 ho hb hg hat; rw [← Ny360.out] at ho; have n0_ := Aside0.mk (Kd.R_after (ok := (fun _ => True)) (by (with_reducible repeat (first | apply Kd.R_alloc | apply Kd.R_drewN | apply Kd.R_drew)); exact Kd.R_mono HO_5.out (fun _ hk => ⟨trivial, hk⟩)) hg hat); have n1_ := Aside0.mk (hb); have n2_ := Aside0.mk (ho); revert n0_ n1_ n2_; clear HO_5 HB HO_9; intro HO_5 HB HO362; clear ho hb hg hat))
              repeat (go_quiet (first | ((with_reducible refine gate_builtin (b := .append) (xs := #[.tmp 101, .tmp 106]) rfl ?_); at_builtin; refine Kd.R_append k49 (w0 := w) w.heap.size rfl (.tmp 101) (.tmp 106) 25 49 (.agg #[(.string ⟨#[]⟩), (.int .i64 0), (.string ⟨#[]⟩), (.bool false)]) 48 rfl Try.underlying25 info49 rfl (by decide) (by omega) u9 x9_2 (⟨(rd_T49 x5_1 x10_2).f0, (rd_T49 x5_1 x10_2).f1, (rd_T49 x5_1 x10_2).f2, true⟩ : S49) [.string ((rd_T49 x5_1 x10_2).f0), .int .i64 ((rd_T49 x5_1 x10_2).f1), .string ((rd_T49 x5_1 x10_2).f2), .bool true] (fun k_ => some k_ ≠ (.slice (some ad355) x5_1.length co41 : Value).ownBlock) (fun _ => False) rfl rfl ?aP (fun _ hk => hk.elim) ?aF ?aO ?aB ?aS ?aL ?_; (case aP => exact k49_mkM _ _ _ (⟨(rd_T49 x5_1 x10_2).f0, (rd_T49 x5_1 x10_2).f1, (rd_T49 x5_1 x10_2).f2, true⟩ : S49)); (case aB => exact bq); (case aF => exact (fun k_ hk => Kd.fresh' (Kd.R_lt (q_r (HO_5.out))) k_ hk)); (case aO => exact (q_r (HO_9.out))); (case aS => exact (below_size bq)); (case aL => have := LMc40.out; omega); intro v361 w42 ho hb hg hat; rw [← Ny360.out] at ho; have n0_ := Aside0.mk (Kd.R_after (ok := (fun _ => True)) (by (with_reducible repeat (first | apply Kd.R_alloc | apply Kd.R_drewN | apply Kd.R_drew)); exact Kd.R_mono HO_5.out (fun _ hk => ⟨trivial, hk⟩)) hg hat); have n1_ := Aside0.mk (hb); have n2_ := Aside0.mk (ho); revert n0_ n1_ n2_; clear HO_5 HB HO_9; intro HO_5 HB HO362; clear ho hb hg hat)); try go_wp2_with (first | ((with_reducible refine gate_builtin (b := .append) (xs := #[.tmp 101, .tmp 106]) rfl ?_); at_builtin; refine Kd.R_append k49 (w0 := w) w.heap.size rfl (.tmp 101) (.tmp 106) 25 49 (.agg #[(.string ⟨#[]⟩), (.int .i64 0), (.string ⟨#[]⟩), (.bool false)]) 48 rfl Try.underlying25 info49 rfl (by decide) (by omega) u9 x9_2 (⟨(rd_T49 x5_1 x10_2).f0, (rd_T49 x5_1 x10_2).f1, (rd_T49 x5_1 x10_2).f2, true⟩ : S49) [.string ((rd_T49 x5_1 x10_2).f0), .int .i64 ((rd_T49 x5_1 x10_2).f1), .string ((rd_T49 x5_1 x10_2).f2), .bool true] (fun k_ => some k_ ≠ (.slice (some ad355) x5_1.length co41 : Value).ownBlock) (fun _ => False) rfl rfl ?aP (fun _ hk => hk.elim) ?aF ?aO ?aB ?aS ?aL ?_; (case aP => exact k49_mkM _ _ _ (⟨(rd_T49 x5_1 x10_2).f0, (rd_T49 x5_1 x10_2).f1, (rd_T49 x5_1 x10_2).f2, true⟩ : S49)); (case aB => exact bq); (case aF => exact (fun k_ hk => Kd.fresh' (Kd.R_lt (q_r (HO_5.out))) k_ hk)); (case aO => exact (q_r (HO_9.out))); (case aS => exact (below_size bq)); (case aL => have := LMc40.out; omega); intro v361 w42 ho hb hg hat; rw [← Ny360.out] at ho; have n0_ := Aside0.mk (Kd.R_after (ok := (fun _ => True)) (by (with_reducible repeat (first | apply Kd.R_alloc | apply Kd.R_drewN | apply Kd.R_drew)); exact Kd.R_mono HO_5.out (fun _ hk => ⟨trivial, hk⟩)) hg hat); have n1_ := Aside0.mk (hb); have n2_ := Aside0.mk (ho); revert n0_ n1_ n2_; clear HO_5 HB HO_9; intro HO_5 HB HO362; clear ho hb hg hat)))
              go_roundg k2
              case measure => have := HK1.out; have := HK2.out; omega
              case rel => (try rw [← Nbq23.out]); (try rw [← Nbq37.out]); exact ⟨(y360), (ji33), (by first | rfl | (simp; done) | (simp only [← hji33] <;> (first | rfl | simp)) | (simp [*]; done)), H', ⟨by have := HK1.out; have := HK2.out; omega⟩, ⟨q_r (Kd.R_mono HO_5.out (fun _ hk => hk.2))⟩, ⟨q_r (HO362.out)⟩, ⟨bq⟩⟩
             ·rw [if_neg c40] at H
              exact absurd H (by simp)
            ·rw [if_neg c39] at H
             have c39b0 := decide_eq_false c39
             clear c39
             by_cases c43 : (¬ ((rd_T49 x5_1 (ji33)).f0).toList = ((rd_T49 x5_1 x10_2).f0).toList)
             ·rw [if_pos c43] at H
              have c43b0 : (((rd_T49 x5_1 (ji33)).f0).toList == ((rd_T49 x5_1 x10_2).f0).toList) = false := beq_eq_false_iff_ne.mpr c43
              have c43b1 : (((rd_T49 x5_1 (ji33)).f0).toList != ((rd_T49 x5_1 x10_2).f0).toList) = true := bne_iff_ne.mpr c43
              clear c43
              have H' := Aside0.mk H
              clear H
              obtain ⟨Ao44, co44, eo44⟩ := Kd.R_slice HO_5.out
              subst eo44
              have p355 : 0 ≤ ((ji33) : Int) := q_d
              have q355 : (ji33) < (x5_1.length : Int) := q_d
              obtain ⟨ad355, e355, hx355_0, hx355_1, hx355_2, hx355_3⟩ := at_T49 (Kd.R_reads' HO_5.out).2.2 (ji33) p355 q355
              (try rw [← Nbq37.out] at hx355_3)
              cases e355
              replace p355 := eq_true p355
              replace q355 := eq_true q355
              have p356 : 0 ≤ (x10_2 : Int) := q_d
              have q356 : x10_2 < (x5_1.length : Int) := q_d
              obtain ⟨ad356, e356, hx356_0, hx356_1, hx356_2, hx356_3⟩ := at_T49 (Kd.R_reads' HO_5.out).2.2 x10_2 p356 q356
              (try rw [← Nbq37.out] at hx356_3)
              obtain rfl : ad355 = ad356 := (by injection e356)
              replace p356 := eq_true p356
              replace q356 := eq_true q356
              have p357 : 0 ≤ (x10_2 : Int) := q_d
              have q357 : x10_2 < (x5_1.length : Int) := q_d
              obtain ⟨ad357, e357, hx357_0, hx357_1, hx357_2, hx357_3⟩ := at_T49 (Kd.R_reads' HO_5.out).2.2 x10_2 p357 q357
              (try rw [← Nbq37.out] at hx357_3)
              obtain rfl : ad355 = ad357 := (by injection e357)
              replace p357 := eq_true p357
              replace q357 := eq_true q357
              have p358 : 0 ≤ (x10_2 : Int) := q_d
              have q358 : x10_2 < (x5_1.length : Int) := q_d
              obtain ⟨ad358, e358, hx358_0, hx358_1, hx358_2, hx358_3⟩ := at_T49 (Kd.R_reads' HO_5.out).2.2 x10_2 p358 q358
              (try rw [← Nbq37.out] at hx358_3)
              obtain rfl : ad355 = ad358 := (by injection e358)
              replace p358 := eq_true p358
              replace q358 := eq_true q358
              go_wp2
              repeat (go_quiet (fail); try go_wp2)
              go_roundg k2
              case measure => have := HK1.out; have := HK2.out; omega
              case rel => (try rw [← Nbq23.out]); (try rw [← Nbq37.out]); exact ⟨(x9_2), (ji33), (by first | rfl | (simp; done) | (simp only [← hji33] <;> (first | rfl | simp)) | (simp [*]; done)), H', ⟨by have := HK1.out; have := HK2.out; omega⟩, ⟨q_r (HO_5.out)⟩, ⟨q_r (HO_9.out)⟩, ⟨bq⟩⟩
             ·rw [if_neg c43] at H
              have c43e := Classical.not_not.mp c43
              have c43b0 : (((rd_T49 x5_1 (ji33)).f0).toList == ((rd_T49 x5_1 x10_2).f0).toList) = true := beq_iff_eq.mpr c43e
              have c43b1 : (((rd_T49 x5_1 (ji33)).f0).toList != ((rd_T49 x5_1 x10_2).f0).toList) = false := bne_eq_false_iff_eq.mpr c43e
              by_cases c45 : x9_2.length < 2932031007402
              ·rw [if_pos c45] at H
               have LMc45 := Aside0.mk c45
               clear c45
               obtain ⟨y364, hy364⟩ : ∃ y_ : List (S49), y_ = (x9_2 ++ [(⟨(rd_T49 x5_1 x10_2).f0, (rd_T49 x5_1 x10_2).f1, (rd_T49 x5_1 x10_2).f2, true⟩ : S49)]) := ⟨_, rfl⟩
               replace H : (spec_l5Compact.l2 k2 a1 x5_1 y364 ji33) = some r := q_h hy364 H
               have Ny364 := Aside0.mk hy364
               clear hy364
               have H' := Aside0.mk H
               clear H
               obtain ⟨Ao46, co46, eo46⟩ := Kd.R_slice HO_5.out
               subst eo46
               have p355 : 0 ≤ ((ji33) : Int) := q_d
               have q355 : (ji33) < (x5_1.length : Int) := q_d
               obtain ⟨ad355, e355, hx355_0, hx355_1, hx355_2, hx355_3⟩ := at_T49 (Kd.R_reads' HO_5.out).2.2 (ji33) p355 q355
               (try rw [← Nbq37.out] at hx355_3)
               cases e355
               replace p355 := eq_true p355
               replace q355 := eq_true q355
               have p356 : 0 ≤ (x10_2 : Int) := q_d
               have q356 : x10_2 < (x5_1.length : Int) := q_d
               obtain ⟨ad356, e356, hx356_0, hx356_1, hx356_2, hx356_3⟩ := at_T49 (Kd.R_reads' HO_5.out).2.2 x10_2 p356 q356
               (try rw [← Nbq37.out] at hx356_3)
               obtain rfl : ad355 = ad356 := (by injection e356)
               replace p356 := eq_true p356
               replace q356 := eq_true q356
               have p357 : 0 ≤ (x10_2 : Int) := q_d
               have q357 : x10_2 < (x5_1.length : Int) := q_d
               obtain ⟨ad357, e357, hx357_0, hx357_1, hx357_2, hx357_3⟩ := at_T49 (Kd.R_reads' HO_5.out).2.2 x10_2 p357 q357
               (try rw [← Nbq37.out] at hx357_3)
               obtain rfl : ad355 = ad357 := (by injection e357)
               replace p357 := eq_true p357
               replace q357 := eq_true q357
               have p358 : 0 ≤ (x10_2 : Int) := q_d
               have q358 : x10_2 < (x5_1.length : Int) := q_d
               obtain ⟨ad358, e358, hx358_0, hx358_1, hx358_2, hx358_3⟩ := at_T49 (Kd.R_reads' HO_5.out).2.2 x10_2 p358 q358
               (try rw [← Nbq37.out] at hx358_3)
               obtain rfl : ad355 = ad358 := (by injection e358)
               replace p358 := eq_true p358
               replace q358 := eq_true q358
               have p363 : 0 ≤ (x10_2 : Int) := q_d
               have q363 : x10_2 < (x5_1.length : Int) := q_d
               obtain ⟨ad363, e363, hx363_0, hx363_1, hx363_2, hx363_3⟩ := at_T49 (Kd.R_reads' HO_5.out).2.2 x10_2 p363 q363
               (try rw [← Nbq37.out] at hx363_3)
               obtain rfl : ad355 = ad363 := (by injection e363)
               replace p363 := eq_true p363
               replace q363 := eq_true q363
               go_wp2_with (first | ((with_reducible refine gate_builtin (b := .append) (xs := #[.tmp 101, .tmp 106]) rfl ?_); at_builtin; refine Kd.R_append k49 (w0 := w) w.heap.size rfl (.tmp 101) (.tmp 106) 25 49 (.agg #[(.string ⟨#[]⟩), (.int .i64 0), (.string ⟨#[]⟩), (.bool false)]) 48 rfl Try.underlying25 info49 rfl (by decide) (by omega) u9 x9_2 (⟨(rd_T49 x5_1 x10_2).f0, (rd_T49 x5_1 x10_2).f1, (rd_T49 x5_1 x10_2).f2, true⟩ : S49) [.string ((rd_T49 x5_1 x10_2).f0), .int .i64 ((rd_T49 x5_1 x10_2).f1), .string ((rd_T49 x5_1 x10_2).f2), .bool true] (fun k_ => some k_ ≠ (.slice (some ad355) x5_1.length co46 : Value).ownBlock) (fun _ => False) rfl rfl ?aP (fun _ hk => hk.elim) ?aF ?aO ?aB ?aS ?aL ?_; (case aP => exact k49_mkM _ _ _ (⟨(rd_T49 x5_1 x10_2).f0, (rd_T49 x5_1 x10_2).f1, (rd_T49 x5_1 x10_2).f2, true⟩ : S49)); (case aB => exact bq); (case aF => exact (fun k_ hk => Kd.fresh' (Kd.R_lt (q_r (HO_5.out))) k_ hk)); (case aO => exact (q_r (HO_9.out))); (case aS => exact (below_size bq)); (case aL => have := LMc45.out; omega); intro v365 w47 ho hb hg hat; rw [← Ny364.out] at ho; have n0_ := Aside0.mk (Kd.R_after (ok := (fun _ => True)) (by (with_reducible repeat (first | apply Kd.R_alloc | apply Kd.R_drewN | apply Kd.R_drew)); exact Kd.R_mono HO_5.out (fun _ hk => ⟨trivial, hk⟩)) hg hat); have n1_ := Aside0.mk (hb); have n2_ := Aside0.mk (ho); revert n0_ n1_ n2_; clear HO_5 HB HO_9; intro HO_5 HB HO366; clear ho hb hg hat))
               repeat (go_quiet (first | ((with_reducible refine gate_builtin (b := .append) (xs := #[.tmp 101, .tmp 106]) rfl ?_); at_builtin; refine Kd.R_append k49 (w0 := w) w.heap.size rfl (.tmp 101) (.tmp 106) 25 49 (.agg #[(.string ⟨#[]⟩), (.int .i64 0), (.string ⟨#[]⟩), (.bool false)]) 48 rfl Try.underlying25 info49 rfl (by decide) (by omega) u9 x9_2 (⟨(rd_T49 x5_1 x10_2).f0, (rd_T49 x5_1 x10_2).f1, (rd_T49 x5_1 x10_2).f2, true⟩ : S49) [.string ((rd_T49 x5_1 x10_2).f0), .int .i64 ((rd_T49 x5_1 x10_2).f1), .string ((rd_T49 x5_1 x10_2).f2), .bool true] (fun k_ => some k_ ≠ (.slice (some ad355) x5_1.length co46 : Value).ownBlock) (fun _ => False) rfl rfl ?aP (fun _ hk => hk.elim) ?aF ?aO ?aB ?aS ?aL ?_; (case aP => exact k49_mkM _ _ _ (⟨(rd_T49 x5_1 x10_2).f0, (rd_T49 x5_1 x10_2).f1, (rd_T49 x5_1 x10_2).f2, true⟩ : S49)); (case aB => exact bq); (case aF => exact (fun k_ hk => Kd.fresh' (Kd.R_lt (q_r (HO_5.out))) k_ hk)); (case aO => exact (q_r (HO_9.out))); (case aS => exact (below_size bq)); (case aL => have := LMc45.out; omega); intro v365 w47 ho hb hg hat; rw [← Ny364.out] at ho; have n0_ := Aside0.mk (Kd.R_after (ok := (fun _ => True)) (by (with_reducible repeat (first | apply Kd.R_alloc | apply Kd.R_drewN | apply Kd.R_drew)); exact Kd.R_mono HO_5.out (fun _ hk => ⟨trivial, hk⟩)) hg hat); have n1_ := Aside0.mk (hb); have n2_ := Aside0.mk (ho); revert n0_ n1_ n2_; clear HO_5 HB HO_9; intro HO_5 HB HO366; clear ho hb hg hat)); try go_wp2_with (first | ((with_reducible refine gate_builtin (b := .append) (xs := #[.tmp 101, .tmp 106]) rfl ?_); at_builtin; refine Kd.R_append k49 (w0 := w) w.heap.size rfl (.tmp 101) (.tmp 106) 25 49 (.agg #[(.string ⟨#[]⟩), (.int .i64 0), (.string ⟨#[]⟩), (.bool false)]) 48 rfl Try.underlying25 info49 rfl (by decide) (by omega) u9 x9_2 (⟨(rd_T49 x5_1 x10_2).f0, (rd_T49 x5_1 x10_2).f1, (rd_T49 x5_1 x10_2).f2, true⟩ : S49) [.string ((rd_T49 x5_1 x10_2).f0), .int .i64 ((rd_T49 x5_1 x10_2).f1), .string ((rd_T49 x5_1 x10_2).f2), .bool true] (fun k_ => some k_ ≠ (.slice (some ad355) x5_1.length co46 : Value).ownBlock) (fun _ => False) rfl rfl ?aP (fun _ hk => hk.elim) ?aF ?aO ?aB ?aS ?aL ?_; (case aP => exact k49_mkM _ _ _ (⟨(rd_T49 x5_1 x10_2).f0, (rd_T49 x5_1 x10_2).f1, (rd_T49 x5_1 x10_2).f2, true⟩ : S49)); (case aB => exact bq); (case aF => exact (fun k_ hk => Kd.fresh' (Kd.R_lt (q_r (HO_5.out))) k_ hk)); (case aO => exact (q_r (HO_9.out))); (case aS => exact (below_size bq)); (case aL => have := LMc45.out; omega); intro v365 w47 ho hb hg hat; rw [← Ny364.out] at ho; have n0_ := Aside0.mk (Kd.R_after (ok := (fun _ => True)) (by (with_reducible repeat (first | apply Kd.R_alloc | apply Kd.R_drewN | apply Kd.R_drew)); exact Kd.R_mono HO_5.out (fun _ hk => ⟨trivial, hk⟩)) hg hat); have n1_ := Aside0.mk (hb); have n2_ := Aside0.mk (ho); revert n0_ n1_ n2_; clear HO_5 HB HO_9; intro HO_5 HB HO366; clear ho hb hg hat)))
               go_roundg k2
               case measure => have := HK1.out; have := HK2.out; omega
               case rel => (try rw [← Nbq23.out]); (try rw [← Nbq37.out]); exact ⟨(y364), (ji33), (by first | rfl | (simp; done) | (simp only [← hji33] <;> (first | rfl | simp)) | (simp [*]; done)), H', ⟨by have := HK1.out; have := HK2.out; omega⟩, ⟨q_r (Kd.R_mono HO_5.out (fun _ hk => hk.2))⟩, ⟨q_r (HO366.out)⟩, ⟨bq⟩⟩
              ·rw [if_neg c45] at H
               exact absurd H (by simp)
           ·replace c38 := Bool.eq_false_iff.mpr c38
            subst c38
            have H1 : (if x9_2.length < 2932031007402 then (spec_l5Compact.l2 k2 a1 x5_1 (x9_2 ++ [(⟨(rd_T49 x5_1 x10_2).f0, (rd_T49 x5_1 x10_2).f1, (rd_T49 x5_1 x10_2).f2, false⟩ : S49)]) ji33) else (none)) = some r := by rw [if_neg (show ¬ (false = true) by decide)] at H; exact H
            clear H
            have H := H1
            clear H1
            by_cases c48 : x9_2.length < 2932031007402
            ·rw [if_pos c48] at H
             have LMc48 := Aside0.mk c48
             clear c48
             obtain ⟨y368, hy368⟩ : ∃ y_ : List (S49), y_ = (x9_2 ++ [(⟨(rd_T49 x5_1 x10_2).f0, (rd_T49 x5_1 x10_2).f1, (rd_T49 x5_1 x10_2).f2, false⟩ : S49)]) := ⟨_, rfl⟩
             replace H : (spec_l5Compact.l2 k2 a1 x5_1 y368 ji33) = some r := q_h hy368 H
             have Ny368 := Aside0.mk hy368
             clear hy368
             have H' := Aside0.mk H
             clear H
             obtain ⟨Ao49, co49, eo49⟩ := Kd.R_slice HO_5.out
             subst eo49
             have p355 : 0 ≤ ((ji33) : Int) := q_d
             have q355 : (ji33) < (x5_1.length : Int) := q_d
             obtain ⟨ad355, e355, hx355_0, hx355_1, hx355_2, hx355_3⟩ := at_T49 (Kd.R_reads' HO_5.out).2.2 (ji33) p355 q355
             (try rw [← Nbq37.out] at hx355_3)
             cases e355
             replace p355 := eq_true p355
             replace q355 := eq_true q355
             have p356 : 0 ≤ (x10_2 : Int) := q_d
             have q356 : x10_2 < (x5_1.length : Int) := q_d
             obtain ⟨ad356, e356, hx356_0, hx356_1, hx356_2, hx356_3⟩ := at_T49 (Kd.R_reads' HO_5.out).2.2 x10_2 p356 q356
             (try rw [← Nbq37.out] at hx356_3)
             obtain rfl : ad355 = ad356 := (by injection e356)
             replace p356 := eq_true p356
             replace q356 := eq_true q356
             have p357 : 0 ≤ (x10_2 : Int) := q_d
             have q357 : x10_2 < (x5_1.length : Int) := q_d
             obtain ⟨ad357, e357, hx357_0, hx357_1, hx357_2, hx357_3⟩ := at_T49 (Kd.R_reads' HO_5.out).2.2 x10_2 p357 q357
             (try rw [← Nbq37.out] at hx357_3)
             obtain rfl : ad355 = ad357 := (by injection e357)
             replace p357 := eq_true p357
             replace q357 := eq_true q357
             have p367 : 0 ≤ (x10_2 : Int) := q_d
             have q367 : x10_2 < (x5_1.length : Int) := q_d
             obtain ⟨ad367, e367, hx367_0, hx367_1, hx367_2, hx367_3⟩ := at_T49 (Kd.R_reads' HO_5.out).2.2 x10_2 p367 q367
             (try rw [← Nbq37.out] at hx367_3)
             obtain rfl : ad355 = ad367 := (by injection e367)
             replace p367 := eq_true p367
             replace q367 := eq_true q367
             go_wp2_with (first | ((with_reducible refine gate_builtin (b := .append) (xs := #[.tmp 101, .tmp 106]) rfl ?_); at_builtin; refine Kd.R_append k49 (w0 := w) w.heap.size rfl (.tmp 101) (.tmp 106) 25 49 (.agg #[(.string ⟨#[]⟩), (.int .i64 0), (.string ⟨#[]⟩), (.bool false)]) 48 rfl Try.underlying25 info49 rfl (by decide) (by omega) u9 x9_2 (⟨(rd_T49 x5_1 x10_2).f0, (rd_T49 x5_1 x10_2).f1, (rd_T49 x5_1 x10_2).f2, false⟩ : S49) [.string ((rd_T49 x5_1 x10_2).f0), .int .i64 ((rd_T49 x5_1 x10_2).f1), .string ((rd_T49 x5_1 x10_2).f2), .bool false] (fun k_ => some k_ ≠ (.slice (some ad355) x5_1.length co49 : Value).ownBlock) (fun _ => False) rfl rfl ?aP (fun _ hk => hk.elim) ?aF ?aO ?aB ?aS ?aL ?_; (case aP => exact k49_mkM _ _ _ (⟨(rd_T49 x5_1 x10_2).f0, (rd_T49 x5_1 x10_2).f1, (rd_T49 x5_1 x10_2).f2, false⟩ : S49)); (case aB => exact bq); (case aF => exact (fun k_ hk => Kd.fresh' (Kd.R_lt (q_r (HO_5.out))) k_ hk)); (case aO => exact (q_r (HO_9.out))); (case aS => exact (below_size bq)); (case aL => have := LMc48.out; omega); intro v369 w50 ho hb hg hat; rw [← Ny368.out] at ho; have n0_ := Aside0.mk (Kd.R_after (ok := (fun _ => True)) (by (with_reducible repeat (first | apply Kd.R_alloc | apply Kd.R_drewN | apply Kd.R_drew)); exact Kd.R_mono HO_5.out (fun _ hk => ⟨trivial, hk⟩)) hg hat); have n1_ := Aside0.mk (hb); have n2_ := Aside0.mk (ho); revert n0_ n1_ n2_; clear HO_5 HB HO_9; intro HO_5 HB HO370; clear ho hb hg hat))
             repeat (go_quiet (first | ((with_reducible refine gate_builtin (b := .append) (xs := #[.tmp 101, .tmp 106]) rfl ?_); at_builtin; refine Kd.R_append k49 (w0 := w) w.heap.size rfl (.tmp 101) (.tmp 106) 25 49 (.agg #[(.string ⟨#[]⟩), (.int .i64 0), (.string ⟨#[]⟩), (.bool false)]) 48 rfl Try.underlying25 info49 rfl (by decide) (by omega) u9 x9_2 (⟨(rd_T49 x5_1 x10_2).f0, (rd_T49 x5_1 x10_2).f1, (rd_T49 x5_1 x10_2).f2, false⟩ : S49) [.string ((rd_T49 x5_1 x10_2).f0), .int .i64 ((rd_T49 x5_1 x10_2).f1), .string ((rd_T49 x5_1 x10_2).f2), .bool false] (fun k_ => some k_ ≠ (.slice (some ad355) x5_1.length co49 : Value).ownBlock) (fun _ => False) rfl rfl ?aP (fun _ hk => hk.elim) ?aF ?aO ?aB ?aS ?aL ?_; (case aP => exact k49_mkM _ _ _ (⟨(rd_T49 x5_1 x10_2).f0, (rd_T49 x5_1 x10_2).f1, (rd_T49 x5_1 x10_2).f2, false⟩ : S49)); (case aB => exact bq); (case aF => exact (fun k_ hk => Kd.fresh' (Kd.R_lt (q_r (HO_5.out))) k_ hk)); (case aO => exact (q_r (HO_9.out))); (case aS => exact (below_size bq)); (case aL => have := LMc48.out; omega); intro v369 w50 ho hb hg hat; rw [← Ny368.out] at ho; have n0_ := Aside0.mk (Kd.R_after (ok := (fun _ => True)) (by (with_reducible repeat (first | apply Kd.R_alloc | apply Kd.R_drewN | apply Kd.R_drew)); exact Kd.R_mono HO_5.out (fun _ hk => ⟨trivial, hk⟩)) hg hat); have n1_ := Aside0.mk (hb); have n2_ := Aside0.mk (ho); revert n0_ n1_ n2_; clear HO_5 HB HO_9; intro HO_5 HB HO370; clear ho hb hg hat)); try go_wp2_with (first | ((with_reducible refine gate_builtin (b := .append) (xs := #[.tmp 101, .tmp 106]) rfl ?_); at_builtin; refine Kd.R_append k49 (w0 := w) w.heap.size rfl (.tmp 101) (.tmp 106) 25 49 (.agg #[(.string ⟨#[]⟩), (.int .i64 0), (.string ⟨#[]⟩), (.bool false)]) 48 rfl Try.underlying25 info49 rfl (by decide) (by omega) u9 x9_2 (⟨(rd_T49 x5_1 x10_2).f0, (rd_T49 x5_1 x10_2).f1, (rd_T49 x5_1 x10_2).f2, false⟩ : S49) [.string ((rd_T49 x5_1 x10_2).f0), .int .i64 ((rd_T49 x5_1 x10_2).f1), .string ((rd_T49 x5_1 x10_2).f2), .bool false] (fun k_ => some k_ ≠ (.slice (some ad355) x5_1.length co49 : Value).ownBlock) (fun _ => False) rfl rfl ?aP (fun _ hk => hk.elim) ?aF ?aO ?aB ?aS ?aL ?_; (case aP => exact k49_mkM _ _ _ (⟨(rd_T49 x5_1 x10_2).f0, (rd_T49 x5_1 x10_2).f1, (rd_T49 x5_1 x10_2).f2, false⟩ : S49)); (case aB => exact bq); (case aF => exact (fun k_ hk => Kd.fresh' (Kd.R_lt (q_r (HO_5.out))) k_ hk)); (case aO => exact (q_r (HO_9.out))); (case aS => exact (below_size bq)); (case aL => have := LMc48.out; omega); intro v369 w50 ho hb hg hat; rw [← Ny368.out] at ho; have n0_ := Aside0.mk (Kd.R_after (ok := (fun _ => True)) (by (with_reducible repeat (first | apply Kd.R_alloc | apply Kd.R_drewN | apply Kd.R_drew)); exact Kd.R_mono HO_5.out (fun _ hk => ⟨trivial, hk⟩)) hg hat); have n1_ := Aside0.mk (hb); have n2_ := Aside0.mk (ho); revert n0_ n1_ n2_; clear HO_5 HB HO_9; intro HO_5 HB HO370; clear ho hb hg hat)))
             go_roundg k2
             case measure => have := HK1.out; have := HK2.out; omega
             case rel => (try rw [← Nbq23.out]); (try rw [← Nbq37.out]); exact ⟨(y368), (ji33), (by first | rfl | (simp; done) | (simp only [← hji33] <;> (first | rfl | simp)) | (simp [*]; done)), H', ⟨by have := HK1.out; have := HK2.out; omega⟩, ⟨q_r (Kd.R_mono HO_5.out (fun _ hk => hk.2))⟩, ⟨q_r (HO370.out)⟩, ⟨bq⟩⟩
            ·rw [if_neg c48] at H
             exact absurd H (by simp)
          ·rw [if_neg c36] at H
           exact absurd H (by simp)
         ·rw [if_neg c35] at H
          exact absurd H (by simp)
        ·rw [if_neg c34] at H
         exact absurd H (by simp)
      ·rw [if_neg c20] at H
       have c20b0 := decide_eq_false c20
       clear c20
       obtain rfl := Option.some.inj H
       obtain ⟨Ao51, co51, eo51⟩ := Kd.R_slice HO_5.out
       subst eo51
       go_wp2
       repeat (go_quiet (fail); try go_wp2)
       go_ret
       exact ⟨_, q_e, q_r (Kd.R_mono HO_9.out (fun _ hk => trivial)), bq⟩

/-! ### spec_CompactTable: function 31 -/
def spec_CompactTable.f (k : Nat) (l0 : List (S49)) (a1 : Int) : Option (Int × (List (S49))) := (spec_TableFault.f k l0).bind fun t372 => (if t372 = 0 then ((spec_l5Compact.f k l0 a1).bind fun t373 => (some (0, t373))) else (some (t372, ([] : List (S49)))))
set_option maxHeartbeats 8000000 in
set_option maxRecDepth 100000 in
theorem spec_CompactTable.calls (k : Nat) (A0 : Option Addr) (c0 : Nat) (l0 : List (S49)) (a1 : Int) (r1 : Int) (r2 : List (S49)) (w : World) (hr0 : Kd.C k49 w A0 l0.length l0) (hc0 : l0.length ≤ c0) (h : spec_CompactTable.f k l0 a1 = some (r1, r2)) :
  Calls Try.prog 31 #[.slice A0 l0.length c0, .int .i64 a1] w fun e w' => ∃ v1_ : Value, e = .returned (.agg #[.int .i64 r1, v1_]) ∧ Kd.R k49 49 w' w.heap.size (fun _ => True) v1_ r2 ∧ Below w.heap.size w w' := by
 have hu46 := Try.underlying46
 have HR0 := Aside0.mk hr0
 have HC0 := Aside0.mk hc0
 clear hr0 hc0
 have HB := Aside0.mk (Below.refl w.heap.size w)
 have H : ((spec_TableFault.f k l0).bind fun t372 => (if t372 = 0 then ((spec_l5Compact.f k l0 a1).bind fun t373 => (some (0, t373))) else (some (t372, ([] : List (S49)))))) = some (r1, r2) := h
 clear h
 replace H := Option.bind_eq_some_iff.mp H
 obtain ⟨t372, A30, H⟩ := H
 replace H : (if t372 = 0 then ((spec_l5Compact.f k l0 a1).bind fun t373 => (some (0, t373))) else (some (t372, ([] : List (S49))))) = some (r1, r2) := H
 have A3 := Aside0.mk A30
 clear A30
 by_cases c4 : t372 = 0
 ·rw [if_pos c4] at H
  have c4b0 : (t372 == 0) = true := beq_iff_eq.mpr c4
  have c4b1 : (t372 != 0) = false := bne_eq_false_iff_eq.mpr c4
  clear c4
  replace H := Option.bind_eq_some_iff.mp H
  obtain ⟨t373, A50, H⟩ := H
  replace H : (some (0, t373)) = some (r1, r2) := H
  have A5 := Aside0.mk A50
  clear A50
  simp only [Option.some.injEq, Prod.mk.injEq] at H
  obtain ⟨rfl, rfl⟩ := H
  go_enter Try.func31, Try.ntmps31
  go_wp2_with (first | ((with_reducible refine gate_dst (N := 4) rfl ?_); refine q_box (N := 4) (cs := #[.int .i64 0, .slice none 0 0]) (t := 46) ?_; intro gb371 hg w6 hbox hb; have n0_ := Aside0.mk (below_step bq hb); have n1_ := Aside0.mk (hbox); have n2_ := Aside0.mk ((q_g hg bq : w.heap.size ≤ gb371)); have n3_ := Aside0.mk ((q_g hg bq : w.heap.size ≤ gb371)); revert n0_ n1_ n2_ n3_; clear HB; intro HB BK371 GW371 GE371; clear hb hbox hg) | ((with_reducible refine gate_callee (f := 16) rfl ?_); refine goesLq (some 7) rfl rfl Try.func16 (by kernel_rfl) rfl #[.slice A0 l0.length c0] rfl ?_; (with_reducible refine (spec_TableFault.calls k _ _ l0 t372 _ ?side1 ?side2 A3.out).mono ?_); (case side1 => exact q_c ((Kd.C_below HR0.out HB.out))); (case side2 => exact HC0.out); rintro e w7 ⟨rfl, hb⟩; refine ⟨_, rfl, ?_⟩; have n0_ := Aside0.mk (blk_below (q_b BK371.out) hb); have n1_ := Aside0.mk (below_step bq hb); revert n0_ n1_; clear BK371 HB; intro BK371 HB; (try clear hb); (try clear hb2); (try clear hk); (try clear hi)) | ((with_reducible refine gate_callee (f := 86) rfl ?_); refine goesLq (some 14) rfl rfl Try.func86 (by kernel_rfl) rfl #[.slice A0 l0.length c0, .int .i64 a1] rfl ?_; (with_reducible refine (spec_l5Compact.calls k _ _ l0 a1 t373 _ ?side1 ?side2 A5.out).mono ?_); (case side1 => exact q_c ((Kd.C_below HR0.out HB.out))); (case side2 => exact HC0.out); rintro e w8 ⟨v374, rfl, ho0, hb⟩; refine ⟨_, rfl, ?_⟩; have n0_ := Aside0.mk (Kd.R_lower ho0 (below_size bq)); have n1_ := Aside0.mk (blk_below (q_b BK371.out) hb); have n2_ := Aside0.mk (below_step bq hb); revert n0_ n1_ n2_; clear BK371 HB; intro HO375 BK371 HB; (try clear hb); (try clear hb2); (try clear hk); (try clear hi); (try clear ho0); obtain ⟨Ao9, co9, eo9⟩ := Kd.R_slice HO375.out; subst eo9; obtain ⟨hcz10_0, hcz10_1, hfz10_0, hfz10_1⟩ := q_2 BK371.out))
  refine bodyPost_ret (results_cell_row rfl _ _ gb371 46 #[.int .i64 0, .slice Ao9 t373.length co9] (0, 0) _ rfl (by (with_reducible repeat (first | refine blk_drewN ?_ _ | refine blk_drew ?_ | refine blk_alloc ?_ _)); refine blk_put (cs := #[.int .i64 0, .slice none 0 0]) ?_ 1 _ rfl; (with_reducible repeat (first | refine blk_drewN ?_ _ | refine blk_drew ?_ | refine blk_alloc ?_ _)); refine blk_put (cs := #[.int .i64 0, .slice none 0 0]) ?_ 0 _ rfl; (with_reducible repeat (first | refine blk_drewN ?_ _ | refine blk_drew ?_ | refine blk_alloc ?_ _)); exact BK371.out) Try.underlying46 rfl (by kernel_rfl)) rfl ?_
  exact ⟨_, q_e, by (with_reducible repeat (first | apply Kd.R_alloc | apply Kd.R_drewN | apply Kd.R_drew)); exact Kd.R_mono (Kd.R_far (p := ⟨gb371, 1, none⟩) (Kd.R_far (p := ⟨gb371, 0, none⟩) (Kd.R_types HO375.out BK371.out (by decide)) (fun _ hk => hk.2) (.int .i64 0)) (fun _ hk => hk.2) (.slice Ao9 t373.length co9)) (fun _ hk => trivial), bq⟩
 ·rw [if_neg c4] at H
  have c4b0 : (t372 == 0) = false := beq_eq_false_iff_ne.mpr c4
  have c4b1 : (t372 != 0) = true := bne_iff_ne.mpr c4
  simp only [Option.some.injEq, Prod.mk.injEq] at H
  obtain ⟨rfl, rfl⟩ := H
  go_enter Try.func31, Try.ntmps31
  go_wp2_with (first | ((with_reducible refine gate_dst (N := 4) rfl ?_); refine q_box (N := 4) (cs := #[.int .i64 0, .slice none 0 0]) (t := 46) ?_; intro gb371 hg w11 hbox hb; have n0_ := Aside0.mk (below_step bq hb); have n1_ := Aside0.mk (hbox); have n2_ := Aside0.mk ((q_g hg bq : w.heap.size ≤ gb371)); have n3_ := Aside0.mk ((q_g hg bq : w.heap.size ≤ gb371)); revert n0_ n1_ n2_ n3_; clear HB; intro HB BK371 GW371 GE371; clear hb hbox hg) | ((with_reducible refine gate_callee (f := 16) rfl ?_); refine goesLq (some 7) rfl rfl Try.func16 (by kernel_rfl) rfl #[.slice A0 l0.length c0] rfl ?_; (with_reducible refine (spec_TableFault.calls k _ _ l0 t372 _ ?side1 ?side2 A3.out).mono ?_); (case side1 => exact q_c ((Kd.C_below HR0.out HB.out))); (case side2 => exact HC0.out); rintro e w12 ⟨rfl, hb⟩; refine ⟨_, rfl, ?_⟩; have n0_ := Aside0.mk (blk_below (q_b BK371.out) hb); have n1_ := Aside0.mk (below_step bq hb); revert n0_ n1_; clear BK371 HB; intro BK371 HB; (try clear hb); (try clear hb2); (try clear hk); (try clear hi); obtain ⟨hcz13_0, hcz13_1, hfz13_0, hfz13_1⟩ := q_2 BK371.out))
  refine bodyPost_ret (results_cell_row rfl _ _ gb371 46 #[.int .i64 t372, .slice none 0 0] (0, 0) _ rfl (by (with_reducible repeat (first | refine blk_drewN ?_ _ | refine blk_drew ?_ | refine blk_alloc ?_ _)); refine blk_put (cs := #[.int .i64 t372, .slice none 0 0]) ?_ 1 _ rfl; (with_reducible repeat (first | refine blk_drewN ?_ _ | refine blk_drew ?_ | refine blk_alloc ?_ _)); refine blk_put (cs := #[.int .i64 0, .slice none 0 0]) ?_ 0 _ rfl; (with_reducible repeat (first | refine blk_drewN ?_ _ | refine blk_drew ?_ | refine blk_alloc ?_ _)); exact BK371.out) Try.underlying46 rfl (by kernel_rfl)) rfl ?_
  exact ⟨_, q_e, by first | exact Kd.R_nil _ _ _ _ _ | exact Kd.N_nil _ _ _ _ _ | exact Kd.V_nil _ _ _ _ _ | exact Kd.Q_nil _ _ _ _ _ | exact Kd.S_nil _ _ _ _ _, bq⟩

end Go.Proofs.Ytdhlcnlcpjlliaa.PFnCompacts
