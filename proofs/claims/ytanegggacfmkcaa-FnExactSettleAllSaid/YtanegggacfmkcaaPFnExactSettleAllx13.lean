/- Functions that a law reaches, as plain Lean functions, with the proof that the machine comes to their answers. No conditions. -/
import Derived.Test.YtanegggacfmkcaaPFnExactSettleAllx0
import Derived.Test.YtanegggacfmkcaaPFnExactSettleAllx10
import Derived.Test.YtanegggacfmkcaaPFnExactSettleAllx12
namespace Go.Proofs.Ytanegggacfmkcaa.PFnExactSettleAll
open Go.RowKit Go.Proofs.YtanegggacfmkcaaW.PrintWords Go.Proofs.YtanegggacfmkcaaW.PrintLast Go.Proofs.YtanegggacfmkcaaW.PrintMore
attribute [local go_sem] max2_int min2_int max_two min_two max_three min_three max_four min_four   -- for this text's walks alone
set_option linter.unusedVariables false
set_option linter.unusedSimpArgs false
set_option maxHeartbeats 8000000
set_option maxRecDepth 100000

/-! ### spec_ContractFault: function 105 -/
mutual
def spec_ContractFault.j0 : Nat → Bool → Int → List (S86) → Option (Int)
  | 0, _, _, _ => none
  | k + 1, x23, x319000, x319001 => if x23 = true then (some 2) else (if 3 ≤ 35184372088832 then (spec_ContractFault.l0 k (List.replicate 3 0) 0 x319000 x319001) else (none))
def spec_ContractFault.l0 : Nat → List Int → Int → Int → List (S86) → Option (Int)
  | 0, _, _, _, _ => none
  | k + 1, x3, x4, x319000, x319001 => if x4 < (x319001.length : Int) then (if 0 ≤ x4 then ((spec_LegFault.f k ((rd_T86 x319001 x4).f0) ((rd_T86 x319001 x4).f1) ((rd_T86 x319001 x4).f2) ((rd_T86 x319001 x4).f3)).bind fun t325 => (if t325 = 0 then (spec_ContractFault.l1 k x3 x4 0 x319000 x319001 ((rd_T86 x319001 x4).f0) ((rd_T86 x319001 x4).f1) ((rd_T86 x319001 x4).f2) ((rd_T86 x319001 x4).f3)) else (some t325))) else (none)) else (spec_ContractFault.l2 k x3 0)
def spec_ContractFault.l1 : Nat → List Int → Int → Int → Int → List (S86) → Int → Int → Int → Int → Option (Int)
  | 0, _, _, _, _, _, _, _, _, _ => none
  | k + 1, x3, x4, x7, x319000, x319001, x325000, x325001, x325002, x325003 => if x7 < x4 then (if 0 ≤ x7 then (if x7 < (x319001.length : Int) then (if ((rd_T86 x319001 x7).f0) = x325000 then (if ((rd_T86 x319001 x7).f1) = x325001 then (if ((rd_T86 x319001 x7).f2) = x325002 then (some 7) else (spec_ContractFault.l1 k x3 x4 (wrap64 (x7 + 1)) x319000 x319001 x325000 x325001 x325002 x325003)) else (spec_ContractFault.l1 k x3 x4 (wrap64 (x7 + 1)) x319000 x319001 x325000 x325001 x325002 x325003)) else (spec_ContractFault.l1 k x3 x4 (wrap64 (x7 + 1)) x319000 x319001 x325000 x325001 x325002 x325003)) else (none)) else (none)) else (if 0 ≤ x325002 then (if x325002 < (x3.length : Int) then (spec_ContractFault.l0 k (x3.set (x325002 : Int).toNat (wrap64 ((rd x3 x325002) + x325003))) (wrap64 (x4 + 1)) x319000 x319001) else (none)) else (none))
def spec_ContractFault.l2 : Nat → List Int → Int → Option (Int)
  | 0, _, _ => none
  | k + 1, x3, x9 => if x9 < (x3.length : Int) then (if 0 ≤ x9 then (if (rd x3 x9) = 0 then (spec_ContractFault.l2 k x3 (wrap64 (x9 + 1))) else (some 1)) else (none)) else (some 0)
end
def spec_ContractFault.f (k : Nat) (a0_0 : Int) (l0_1 : List (S86)) : Option (Int) := (spec_l1Id.f a0_0).bind fun t319 => (if t319 = true then (if (l0_1.length : Int) < 2 then (spec_ContractFault.j0 k true a0_0 l0_1) else (spec_ContractFault.j0 k (decide ((l0_1.length : Int) > 8)) a0_0 l0_1)) else (some 3))
def spec_ContractFault.T19 : Bool × List (List Nat × List Nat) := (true, [([], []), ([], []), ([1], [1]), ([], []), ([], []), ([4], [4]), ([3, 5], [3, 5]), ([6], [6]), ([], []), ([8], [8]), ([7, 9], [7, 9]), ([0, 2, 0, 1, 2, 3, 4, 5, 6, 7, 8, 9, 10], [0, 2]), ([11, 10, 0, 1, 2, 3, 4, 5, 6, 7, 8, 9, 10], [10, 11])])
def spec_ContractFault.B19 : List Nat := [0, 0, 2, 0, 0, 16, 56, 120, 0, 256, 1016, 2047, 4095]
theorem spec_ContractFault.tab19 : rtab .any (opsOf Try.f105 19) = spec_ContractFault.T19 := by kernel_rfl
theorem spec_ContractFault.bits19 : waitsOk spec_ContractFault.T19.2 spec_ContractFault.B19 = true := by kernel_rfl
theorem spec_ContractFault.calls (k : Nat) (a0_0 : Int) (A0_1 : Option Addr) (c0_1 : Nat) (l0_1 : List (S86)) (r : Int) (w : World) (hr0_1 : Kd.C k86 w A0_1 l0_1.length l0_1) (hc0_1 : l0_1.length ≤ c0_1) (h : spec_ContractFault.f k a0_0 l0_1 = some r) :
  Calls Try.prog 105 #[.agg #[.int .i64 a0_0, .slice A0_1 l0_1.length c0_1]] w fun e w' => e = .returned (.int .i64 r) ∧ Below w.heap.size w w' := by
 have hu40 := Try.underlying40
 have hu86 := Try.underlying86
 have HR0_1 := am hr0_1
 have HC0_1 := am hc0_1
 clear hr0_1 hc0_1
 have HB := am (Below.refl w.heap.size w)
 have H : ((spec_l1Id.f a0_0).bind fun t319 => (if t319 = true then (if (l0_1.length : Int) < 2 then (spec_ContractFault.j0 k true a0_0 l0_1) else (spec_ContractFault.j0 k (decide ((l0_1.length : Int) > 8)) a0_0 l0_1)) else (some 3))) = some r := h
 clear h
 replace H := ob H
 obtain ⟨t319, A20, H⟩ := H
 replace H : (if t319 = true then (if (l0_1.length : Int) < 2 then (spec_ContractFault.j0 k true a0_0 l0_1) else (spec_ContractFault.j0 k (decide ((l0_1.length : Int) > 8)) a0_0 l0_1)) else (some 3)) = some r := H
 have A2 := am A20
 clear A20
 by_cases c3 : t319 = true
 ·subst c3
  have H1 : (if (l0_1.length : Int) < 2 then (spec_ContractFault.j0 k true a0_0 l0_1) else (spec_ContractFault.j0 k (decide ((l0_1.length : Int) > 8)) a0_0 l0_1)) = some r := by rw [if_pos rfl] at H; exact H
  clear H
  have H := H1
  clear H1
  have HC4 := am H
  clear H
  go_enter Try.func105, Try.ntmps105
  go_upto_region 3 with (first | ((with_reducible refine gate_dst (N := 1) rfl ?_); (try (refine gate_guard (by rfl) ?_; dsimp only)); refine q_box (N := 1) (cs := #[.int .i64 a0_0, .slice A0_1 l0_1.length c0_1]) (t := 40) ?_; intro gb318 hg w5 hbox hb; have n0_ := am (below_step bq hb); have n1_ := am (hbox); have n2_ := am ((q_g hg bq : w.heap.size ≤ gb318)); have n3_ := n2_; revert n0_ n1_ n2_ n3_; clear HB; intro HB BK318 GW318 GE318; clear hb hbox hg; obtain ⟨hcz6_0, hcz6_1, hfz6_0, hfz6_1⟩ := q_2 BK318.out) | ((with_reducible refine gate_callee (f := 123) rfl ?_); refine goesLq (some 12) rfl rfl Try.func123 (by kernel_rfl) rfl #[.int .i64 a0_0] rfl ?_; (with_reducible refine (spec_l1Id.calls a0_0 true _ A2.out).mono ?_); rintro e w' ⟨rfl, ⟨nd, rfl⟩⟩; refine ⟨_, rfl, ?_⟩))
  (try simp only [Act.put, List.setIfInBounds_toArray, List.set_cons_zero, List.set_cons_succ])
  go_cut [23] (fun v23 wc => ∃ (kq : Nat) (x23_3 : Bool), v23 = .bool x23_3 ∧ Aside0 (spec_ContractFault.j0 kq x23_3 a0_0 l0_1 = some r) ∧ Aside0 (kq ≤ k) ∧ Aside0 (wc.heap[gb318]? = some (.cells #[.int .i64 a0_0, (.slice A0_1 l0_1.length c0_1)] 40 (0, 0))) ∧ Aside0 (Below w.heap.size w wc))
  case first =>
   have H := HC4.out
   clear HC4
   by_cases c7 : (l0_1.length : Int) < 2
   ·rw [if_pos c7] at H
    have c7b0 := decide_eq_true c7
    have c7b1 : decide (l0_1.length < 2) = true := decide_eq_true (by omega)
    clear c7
    (first | rw [c7b0] | (simp only [i64_w, i32_w]; rw [c7b0]) | skip)
    have H' := am H
    clear H
    obtain ⟨hcz8_0, hcz8_1, hfz8_0, hfz8_1⟩ := q_2 BK318.out
    go_wp2
    go_meet
    case rel => exact ⟨_, (true), q_i, H', ⟨by first | omega | exact Nat.le_refl _⟩, ⟨q_b BK318.out⟩, ⟨bq⟩⟩
   ·rw [if_neg c7] at H
    have c7b0 := decide_eq_false c7
    have c7b1 : decide (l0_1.length < 2) = false := decide_eq_false (by omega)
    clear c7
    (first | rw [c7b0] | (simp only [i64_w, i32_w]; rw [c7b0]) | skip)
    have H' := am H
    clear H
    obtain ⟨hcz9_0, hcz9_1, hfz9_0, hfz9_1⟩ := q_2 BK318.out
    go_wp2
    go_meet
    case rel => exact ⟨_, (decide ((l0_1.length : Int) > 8)), q_i, H', ⟨by first | omega | exact Nat.le_refl _⟩, ⟨q_b BK318.out⟩, ⟨bq⟩⟩
  case rest =>
   clear HC4
   (try clear c1); (try clear p2); (try clear c3); (try clear c7); (try clear c7b0); (try clear c7b1); (try clear hcz6_0); (try clear hcz6_1); (try clear hcz8_0); (try clear hcz8_1); (try clear hcz9_0)
   (try clear hcz9_1); (try clear hfz6_0); (try clear hfz6_1); (try clear hfz8_0); (try clear hfz8_1); (try clear hfz9_0); (try clear hfz9_1)
   obtain ⟨kq, x23_3, rfl, HA, HJ3, BK318, HB⟩ := hcut
   cases kq with
   | zero => exact absurd HA.out (by simp [spec_ContractFault.j0])
   | succ kj3 =>
    have H := HA.out
    clear HA
    simp only [spec_ContractFault.j0] at H
    by_cases c10 : x23_3 = true
    ·subst c10
     have H1 : (some 2) = some r := by rw [if_pos rfl] at H; exact H
     clear H
     have H := H1
     clear H1
     obtain rfl := Option.some.inj H
     go_wp2
     go_ret
     exact ⟨q_e, bq⟩
    ·replace c10 := Bool.eq_false_iff.mpr c10
     subst c10
     have H1 : (if 3 ≤ 35184372088832 then (spec_ContractFault.l0 kj3 (List.replicate 3 0) 0 a0_0 l0_1) else (none)) = some r := by rw [if_neg (show ¬ (false = true) by decide)] at H; exact H
     clear H
     have H := H1
     clear H1
     by_cases c11 : 3 ≤ 35184372088832
     ·rw [if_pos c11] at H
      have c11b0 := eq_true c11
      have c11b1 := decide_eq_true c11
      clear c11
      obtain ⟨y320, hy320⟩ : ∃ y_ : List Int, y_ = (List.replicate 3 0) := ⟨_, rfl⟩
      replace H : (spec_ContractFault.l0 kj3 y320 0 a0_0 l0_1) = some r := q_h hy320 H
      have Ny320 := am hy320
      clear hy320
      have H' := am H
      clear H
      go_wp2_with (first | ((with_reducible refine gate_dst (N := 24) rfl ?_); (try (refine gate_guard (by rfl) ?_; dsimp only)); refine Kd.R_make (Kd.int .i64) _ 2 rfl (N := 24) rfl 30 _ _ rfl 3 rfl rfl Try.underlying30 (.int .i64 0) 8 info2 rfl (by decide) (by omega) 0 (ok := fun _ => True) (okp := fun _ => True) rfl (fun _ hk => hk) trivial (by omega) (by omega) (Below.refl _ _) (Nat.le_refl _) ?_; intro v321 w12 ho13 hb hg_ hnew_; clear hg_ hnew_; (first | rw [← Ny320.out] at ho13 | (simp only [Int.reduceToNat] at ho13; rw [← Ny320.out] at ho13)); have n0_ := am (Kd.R_lower ho13 (below_size bq)); have n1_ := am (blk_below (q_b BK318.out) hb); have n2_ := am (below_step bq hb); revert n0_ n1_ n2_; clear BK318 HB; intro HO322 BK318 HB; clear hb ho13))
      go_loopg [4] kj3 (fun kq v4 w' => ∃ (x3_2 : List Int) (x4_2 : Int), v4 = .int .i64 x4_2 ∧ Aside0 (spec_ContractFault.l0 kq x3_2 x4_2 a0_0 l0_1 = some r) ∧ Aside0 (kq ≤ kj3) ∧ Aside0 (Kd.R (Kd.int .i64) 2 w' w.heap.size (fun _ => True) v321 x3_2) ∧ Aside0 (w'.heap[gb318]? = some (.cells #[.int .i64 a0_0, (.slice A0_1 l0_1.length c0_1)] 40 (0, 0))) ∧ Aside0 (Below w.heap.size w w'))
      case atStart => exact ⟨(y320), (0), q_i, H', ⟨Nat.le_refl _⟩, ⟨q_r (HO322.out)⟩, ⟨q_b BK318.out⟩, ⟨bq⟩⟩
      case round =>
       clear H'
       (try clear c1); (try clear p2); (try clear c3); (try clear c7); (try clear c7b0); (try clear c7b1); (try clear c10); (try clear c11); (try clear c11b0); (try clear c11b1); (try clear c12); (try clear hcz6_0)
       (try clear hcz6_1); (try clear hcz8_0); (try clear hcz8_1); (try clear hcz9_0); (try clear hcz9_1); (try clear hfz6_0); (try clear hfz6_1); (try clear hfz8_0); (try clear hfz8_1); (try clear hfz9_0)
       (try clear hfz9_1); (try clear p2)
       obtain ⟨x3_2, x4_2, rfl, HA, HK2, HO_3, BK318, HB⟩ := hrel
       cases gk with
       | zero => exact absurd HA.out (by simp [spec_ContractFault.l0])
       | succ k2 =>
        have H := HA.out
        clear HA
        simp only [spec_ContractFault.l0] at H
        by_cases c14 : x4_2 < (l0_1.length : Int)
        ·rw [if_pos c14] at H
         have c14b0 := decide_eq_true c14
         clear c14
         by_cases c15 : 0 ≤ x4_2
         ·rw [if_pos c15] at H
          have c15b0 := decide_eq_true c15
          clear c15
          replace H := ob H
          obtain ⟨t325, A160, H⟩ := H
          replace H : (if t325 = 0 then (spec_ContractFault.l1 k2 x3_2 x4_2 0 a0_0 l0_1 ((rd_T86 l0_1 x4_2).f0) ((rd_T86 l0_1 x4_2).f1) ((rd_T86 l0_1 x4_2).f2) ((rd_T86 l0_1 x4_2).f3)) else (some t325)) = some r := H
          have A16 := am A160
          clear A160
          by_cases c17 : t325 = 0
          ·rw [if_pos c17] at H
           have c17b0 : (t325 == 0) = true := beq_iff_eq.mpr c17
           have c17b1 : (t325 != 0) = false := bne_eq_false_iff_eq.mpr c17
           clear c17
           have H' := am H
           clear H
           obtain ⟨hcz18_0, hcz18_1, hfz18_0, hfz18_1⟩ := q_2 BK318.out
           have p323 : 0 ≤ (x4_2 : Int) := q_d
           have q323 : x4_2 < (l0_1.length : Int) := q_d
           obtain ⟨ad323, e323, hx323_0, hx323_1, hx323_2, hx323_3⟩ := at_T86 HR0_1.out x4_2 p323 q323
           cases e323
           replace hx323_0 := q_x HB.out hx323_0
           replace hx323_1 := q_x HB.out hx323_1
           replace hx323_2 := q_x HB.out hx323_2
           replace hx323_3 := q_x HB.out hx323_3
           replace p323 := eq_true p323
           replace q323 := eq_true q323
           go_wp2_with (first | ((with_reducible refine gate_dst (N := 5) rfl ?_); (try (refine gate_guard (by rfl) ?_; dsimp only)); refine q_box (N := 5) (cs := #[.int .i64 0, .int .i64 0, .int .i64 0, .int .i64 0]) (t := 86) ?_; intro gb324 hg w19 hbox hb; have n0_ := am (Kd.R_below (q_r (HO_3.out)) hb); have n1_ := am (blk_below (q_b BK318.out) hb); have n2_ := am (below_step bq hb); have n3_ := am (hbox); have n4_ := am ((q_g hg bq : w.heap.size ≤ gb324)); have n5_ := n4_; have n6_ := am ((q_n hg (q_b BK318.out) : gb318 ≠ gb324)); have n7_ := am n6_.out.symm; revert n0_ n1_ n2_ n3_ n4_ n5_ n6_ n7_; clear HO_3 BK318 HB; intro HO_3 BK318 HB BK324 GW324 GE324 NB318_324 NB324_318; clear hb hbox hg; have hnb20 := NB324_318.out; have hnc20 := NB318_324.out; obtain ⟨hcz21_0, hcz21_1, hcz21_2, hcz21_3, hfz21_0, hfz21_1, hfz21_2, hfz21_3⟩ := q_4 BK324.out) | ((with_reducible refine gate_callee (f := 124) rfl ?_); refine goesLq (some 38) rfl rfl Try.func124 (by kernel_rfl) rfl #[.agg #[.int .i64 ((rd_T86 l0_1 x4_2).f0), .int .i64 ((rd_T86 l0_1 x4_2).f1), .int .i64 ((rd_T86 l0_1 x4_2).f2), .int .i64 ((rd_T86 l0_1 x4_2).f3)]] rfl ?_; (with_reducible refine (spec_LegFault.calls k2 ((rd_T86 l0_1 x4_2).f0) ((rd_T86 l0_1 x4_2).f1) ((rd_T86 l0_1 x4_2).f2) ((rd_T86 l0_1 x4_2).f3) t325 _ A16.out).mono ?_); rintro e w22 ⟨rfl, hb⟩; refine ⟨_, rfl, ?_⟩; have n0_ := am (Kd.R_below (by (with_reducible repeat (first | apply Kd.R_alloc | apply Kd.R_drewN | apply Kd.R_drew)); exact (Kd.R_mono (Kd.R_far (p := ⟨gb324, 3, none⟩) (Kd.R_far (p := ⟨gb324, 2, none⟩) (Kd.R_far (p := ⟨gb324, 1, none⟩) (Kd.R_far (p := ⟨gb324, 0, none⟩) (Kd.R_types HO_3.out BK324.out (by decide)) (fun _ hk => hk.2) (.int .i64 ((rd_T86 l0_1 x4_2).f0))) (fun _ hk => hk.2) (.int .i64 ((rd_T86 l0_1 x4_2).f1))) (fun _ hk => hk.2) (.int .i64 ((rd_T86 l0_1 x4_2).f2))) (fun _ hk => hk.2) (.int .i64 ((rd_T86 l0_1 x4_2).f3))) (fun _ h_ => h_.1))) hb); have n1_ := am (blk_below (g := gb318) (o := .cells #[.int .i64 a0_0, .slice (some ad323) l0_1.length c0_1] 40 (0, 0)) (by (with_reducible repeat (first | refine blk_drewN ?_ _ | refine blk_drew ?_ | refine blk_alloc ?_ _)); refine blk_far ?_ NB318_324.out _; (with_reducible repeat (first | refine blk_drewN ?_ _ | refine blk_drew ?_ | refine blk_alloc ?_ _)); refine blk_far ?_ NB318_324.out _; (with_reducible repeat (first | refine blk_drewN ?_ _ | refine blk_drew ?_ | refine blk_alloc ?_ _)); refine blk_far ?_ NB318_324.out _; (with_reducible repeat (first | refine blk_drewN ?_ _ | refine blk_drew ?_ | refine blk_alloc ?_ _)); refine blk_far ?_ NB318_324.out _; (with_reducible repeat (first | refine blk_drewN ?_ _ | refine blk_drew ?_ | refine blk_alloc ?_ _)); exact BK318.out) hb); have n2_ := am (blk_below (g := gb324) (o := .cells #[.int .i64 ((rd_T86 l0_1 x4_2).f0), .int .i64 ((rd_T86 l0_1 x4_2).f1), .int .i64 ((rd_T86 l0_1 x4_2).f2), .int .i64 ((rd_T86 l0_1 x4_2).f3)] 86 (0, 0)) (by (with_reducible repeat (first | refine blk_drewN ?_ _ | refine blk_drew ?_ | refine blk_alloc ?_ _)); refine blk_put (cs := #[.int .i64 ((rd_T86 l0_1 x4_2).f0), .int .i64 ((rd_T86 l0_1 x4_2).f1), .int .i64 ((rd_T86 l0_1 x4_2).f2), .int .i64 0]) ?_ 3 _ rfl; (with_reducible repeat (first | refine blk_drewN ?_ _ | refine blk_drew ?_ | refine blk_alloc ?_ _)); refine blk_put (cs := #[.int .i64 ((rd_T86 l0_1 x4_2).f0), .int .i64 ((rd_T86 l0_1 x4_2).f1), .int .i64 0, .int .i64 0]) ?_ 2 _ rfl; (with_reducible repeat (first | refine blk_drewN ?_ _ | refine blk_drew ?_ | refine blk_alloc ?_ _)); refine blk_put (cs := #[.int .i64 ((rd_T86 l0_1 x4_2).f0), .int .i64 0, .int .i64 0, .int .i64 0]) ?_ 1 _ rfl; (with_reducible repeat (first | refine blk_drewN ?_ _ | refine blk_drew ?_ | refine blk_alloc ?_ _)); refine blk_put (cs := #[.int .i64 0, .int .i64 0, .int .i64 0, .int .i64 0]) ?_ 0 _ rfl; (with_reducible repeat (first | refine blk_drewN ?_ _ | refine blk_drew ?_ | refine blk_alloc ?_ _)); exact BK324.out) hb); have n3_ := am (below_step bq hb); revert n0_ n1_ n2_ n3_; clear HO_3 BK318 BK324 HB; intro HO_3 BK318 BK324 HB; (try clear hb); (try clear hb2); (try clear hk); (try clear hi)))
           go_loopg [7] k2 (fun kq v7 w' => ∃ (x7_3 : Int), v7 = .int .i64 x7_3 ∧ Aside0 (spec_ContractFault.l1 kq x3_2 x4_2 x7_3 a0_0 l0_1 ((rd_T86 l0_1 x4_2).f0) ((rd_T86 l0_1 x4_2).f1) ((rd_T86 l0_1 x4_2).f2) ((rd_T86 l0_1 x4_2).f3) = some r) ∧ Aside0 (kq ≤ k2) ∧ Aside0 (Kd.R (Kd.int .i64) 2 w' w.heap.size (fun _ => True) v321 x3_2) ∧ Aside0 (w'.heap[gb318]? = some (.cells #[.int .i64 a0_0, (.slice (some ad323) l0_1.length c0_1)] 40 (0, 0))) ∧ Aside0 (w'.heap[gb324]? = some (.cells #[.int .i64 ((rd_T86 l0_1 x4_2).f0), .int .i64 ((rd_T86 l0_1 x4_2).f1), .int .i64 ((rd_T86 l0_1 x4_2).f2), .int .i64 ((rd_T86 l0_1 x4_2).f3)] 86 (0, 0))) ∧ Aside0 (Below w.heap.size w w'))
           case atStart => exact ⟨(0), q_i, H', ⟨Nat.le_refl _⟩, ⟨q_r (HO_3.out)⟩, ⟨q_b BK318.out⟩, ⟨q_b BK324.out⟩, ⟨bq⟩⟩
           case round =>
            clear H'
            (try clear c1); (try clear c2); (try clear p2); (try clear c3); (try clear p3); (try clear q3); (try clear hx3); (try clear c7); (try clear c7b0); (try clear c7b1); (try clear c10); (try clear c11)
            (try clear c11b0); (try clear c11b1); (try clear c12); (try clear c14); (try clear c14b0); (try clear c15); (try clear c15b0); (try clear c17); (try clear c17b0); (try clear c17b1); (try clear c20)
            (try clear hcz18_0); (try clear hcz18_1); (try clear hcz21_0); (try clear hcz21_1); (try clear hcz21_2); (try clear hcz21_3); (try clear hcz6_0); (try clear hcz6_1); (try clear hcz8_0); (try clear hcz8_1)
            (try clear hcz9_0); (try clear hcz9_1); (try clear hfz18_0); (try clear hfz18_1); (try clear hfz21_0); (try clear hfz21_1); (try clear hfz21_2); (try clear hfz21_3); (try clear hfz6_0); (try clear hfz6_1)
            (try clear hfz8_0); (try clear hfz8_1); (try clear hfz9_0); (try clear hfz9_1); (try clear hx323_0); (try clear hx323_1); (try clear hx323_2); (try clear hx323_3); (try clear p2); (try clear p323)
            (try clear q323)
            obtain ⟨x7_3, rfl, HA, HK3, HO_3, BK318, BK324, HB⟩ := hrel
            cases gk with
            | zero => exact absurd HA.out (by simp [spec_ContractFault.l1])
            | succ k3 =>
             have H := HA.out
             clear HA
             simp only [spec_ContractFault.l1] at H
             by_cases c23 : x7_3 < x4_2
             ·rw [if_pos c23] at H
              have c23b0 := decide_eq_true c23
              clear c23
              by_cases c24 : 0 ≤ x7_3
              ·rw [if_pos c24] at H
               have c24b0 := decide_eq_true c24
               clear c24
               by_cases c25 : x7_3 < (l0_1.length : Int)
               ·rw [if_pos c25] at H
                have c25b0 := decide_eq_true c25
                clear c25
                by_cases c26 : ((rd_T86 l0_1 x7_3).f0) = ((rd_T86 l0_1 x4_2).f0)
                ·rw [if_pos c26] at H
                 have c26b0 : (((rd_T86 l0_1 x7_3).f0) == ((rd_T86 l0_1 x4_2).f0)) = true := beq_iff_eq.mpr c26
                 have c26b1 : (((rd_T86 l0_1 x7_3).f0) != ((rd_T86 l0_1 x4_2).f0)) = false := bne_eq_false_iff_eq.mpr c26
                 clear c26
                 by_cases c27 : ((rd_T86 l0_1 x7_3).f1) = ((rd_T86 l0_1 x4_2).f1)
                 ·rw [if_pos c27] at H
                  have c27b0 : (((rd_T86 l0_1 x7_3).f1) == ((rd_T86 l0_1 x4_2).f1)) = true := beq_iff_eq.mpr c27
                  have c27b1 : (((rd_T86 l0_1 x7_3).f1) != ((rd_T86 l0_1 x4_2).f1)) = false := bne_eq_false_iff_eq.mpr c27
                  clear c27
                  by_cases c28 : ((rd_T86 l0_1 x7_3).f2) = ((rd_T86 l0_1 x4_2).f2)
                  ·rw [if_pos c28] at H
                   have c28b0 : (((rd_T86 l0_1 x7_3).f2) == ((rd_T86 l0_1 x4_2).f2)) = true := beq_iff_eq.mpr c28
                   have c28b1 : (((rd_T86 l0_1 x7_3).f2) != ((rd_T86 l0_1 x4_2).f2)) = false := bne_eq_false_iff_eq.mpr c28
                   clear c28
                   obtain rfl := Option.some.inj H
                   have hnb29 := NB318_324.out
                   have hnc29 := NB324_318.out
                   obtain ⟨hcz30_0, hcz30_1, hfz30_0, hfz30_1⟩ := q_2 BK318.out
                   have p326 : 0 ≤ (x7_3 : Int) := q_d
                   have q326 : x7_3 < (l0_1.length : Int) := q_d
                   obtain ⟨ad326, e326, hx326_0, hx326_1, hx326_2, hx326_3⟩ := at_T86 HR0_1.out x7_3 p326 q326
                   obtain rfl : ad323 = ad326 := (by injection e326)
                   replace hx326_0 := q_x HB.out hx326_0
                   replace hx326_1 := q_x HB.out hx326_1
                   replace hx326_2 := q_x HB.out hx326_2
                   replace hx326_3 := q_x HB.out hx326_3
                   replace p326 := eq_true p326
                   replace q326 := eq_true q326
                   go_wp2_with (first | ((with_reducible refine gate_dst (N := 8) rfl ?_); (try (refine gate_guard (by rfl) ?_; dsimp only)); refine q_box (N := 8) (cs := #[.int .i64 0, .int .i64 0, .int .i64 0, .int .i64 0]) (t := 86) ?_; intro gb327 hg w31 hbox hb; have n0_ := am (Kd.R_below (q_r (HO_3.out)) hb); have n1_ := am (blk_below (q_b BK318.out) hb); have n2_ := am (blk_below (q_b BK324.out) hb); have n3_ := am (below_step bq hb); have n4_ := am (hbox); have n5_ := am ((q_g hg bq : w.heap.size ≤ gb327)); have n6_ := n5_; have n7_ := am ((q_n hg (q_b BK318.out) : gb318 ≠ gb327)); have n8_ := am n7_.out.symm; have n9_ := am ((q_n hg (q_b BK324.out) : gb324 ≠ gb327)); have n10_ := am n9_.out.symm; revert n0_ n1_ n2_ n3_ n4_ n5_ n6_ n7_ n8_ n9_ n10_; clear HO_3 BK318 BK324 HB; intro HO_3 BK318 BK324 HB BK327 GW327 GE327 NB318_327 NB327_318 NB324_327 NB327_324; clear hb hbox hg; have hnb32 := NB327_318.out; have hnc32 := NB318_327.out; have hnb33 := NB327_324.out; have hnc33 := NB324_327.out; obtain ⟨hcz34_0, hcz34_1, hcz34_2, hcz34_3, hfz34_0, hfz34_1, hfz34_2, hfz34_3⟩ := q_4 BK327.out; obtain ⟨hcz35_0, hcz35_1, hcz35_2, hcz35_3, hfz35_0, hfz35_1, hfz35_2, hfz35_3⟩ := q_4 BK324.out))
                   go_ret
                   exact ⟨q_e, bq⟩
                  ·rw [if_neg c28] at H
                   have c28b0 : (((rd_T86 l0_1 x7_3).f2) == ((rd_T86 l0_1 x4_2).f2)) = false := beq_eq_false_iff_ne.mpr c28
                   have c28b1 : (((rd_T86 l0_1 x7_3).f2) != ((rd_T86 l0_1 x4_2).f2)) = true := bne_iff_ne.mpr c28
                   have H' := am H
                   clear H
                   have hnb36 := NB318_324.out
                   have hnc36 := NB324_318.out
                   obtain ⟨hcz37_0, hcz37_1, hfz37_0, hfz37_1⟩ := q_2 BK318.out
                   have p326 : 0 ≤ (x7_3 : Int) := q_d
                   have q326 : x7_3 < (l0_1.length : Int) := q_d
                   obtain ⟨ad326, e326, hx326_0, hx326_1, hx326_2, hx326_3⟩ := at_T86 HR0_1.out x7_3 p326 q326
                   obtain rfl : ad323 = ad326 := (by injection e326)
                   replace hx326_0 := q_x HB.out hx326_0
                   replace hx326_1 := q_x HB.out hx326_1
                   replace hx326_2 := q_x HB.out hx326_2
                   replace hx326_3 := q_x HB.out hx326_3
                   replace p326 := eq_true p326
                   replace q326 := eq_true q326
                   go_wp2_with (first | ((with_reducible refine gate_dst (N := 8) rfl ?_); (try (refine gate_guard (by rfl) ?_; dsimp only)); refine q_box (N := 8) (cs := #[.int .i64 0, .int .i64 0, .int .i64 0, .int .i64 0]) (t := 86) ?_; intro gb327 hg w38 hbox hb; have n0_ := am (Kd.R_below (q_r (HO_3.out)) hb); have n1_ := am (blk_below (q_b BK318.out) hb); have n2_ := am (blk_below (q_b BK324.out) hb); have n3_ := am (below_step bq hb); have n4_ := am (hbox); have n5_ := am ((q_g hg bq : w.heap.size ≤ gb327)); have n6_ := n5_; have n7_ := am ((q_n hg (q_b BK318.out) : gb318 ≠ gb327)); have n8_ := am n7_.out.symm; have n9_ := am ((q_n hg (q_b BK324.out) : gb324 ≠ gb327)); have n10_ := am n9_.out.symm; revert n0_ n1_ n2_ n3_ n4_ n5_ n6_ n7_ n8_ n9_ n10_; clear HO_3 BK318 BK324 HB; intro HO_3 BK318 BK324 HB BK327 GW327 GE327 NB318_327 NB327_318 NB324_327 NB327_324; clear hb hbox hg; have hnb39 := NB327_318.out; have hnc39 := NB318_327.out; have hnb40 := NB327_324.out; have hnc40 := NB324_327.out; obtain ⟨hcz41_0, hcz41_1, hcz41_2, hcz41_3, hfz41_0, hfz41_1, hfz41_2, hfz41_3⟩ := q_4 BK327.out; obtain ⟨hcz42_0, hcz42_1, hcz42_2, hcz42_3, hfz42_0, hfz42_1, hfz42_2, hfz42_3⟩ := q_4 BK324.out))
                   go_roundg k3
                   case measure => have := HJ3.out; have := HK2.out; have := HK3.out; omega
                   case rel => exact ⟨(wrap64 (x7_3 + 1)), q_i, H', ⟨by have := HJ3.out; have := HK2.out; have := HK3.out; omega⟩, ⟨by (with_reducible repeat (first | apply Kd.R_alloc | apply Kd.R_drewN | apply Kd.R_drew)); exact Kd.R_mono (Kd.R_far (p := ⟨gb327, 3, none⟩) (Kd.R_far (p := ⟨gb327, 2, none⟩) (Kd.R_far (p := ⟨gb327, 1, none⟩) (Kd.R_far (p := ⟨gb327, 0, none⟩) (Kd.R_types HO_3.out BK327.out (by decide)) (fun _ hk => hk.2) (.int .i64 ((rd_T86 l0_1 x7_3).f0))) (fun _ hk => hk.2) (.int .i64 ((rd_T86 l0_1 x7_3).f1))) (fun _ hk => hk.2) (.int .i64 ((rd_T86 l0_1 x7_3).f2))) (fun _ hk => hk.2) (.int .i64 ((rd_T86 l0_1 x7_3).f3))) (fun _ hk => trivial)⟩, ⟨by (with_reducible repeat (first | refine blk_drewN ?_ _ | refine blk_drew ?_ | refine blk_alloc ?_ _)); refine blk_far ?_ NB318_327.out _; (with_reducible repeat (first | refine blk_drewN ?_ _ | refine blk_drew ?_ | refine blk_alloc ?_ _)); refine blk_far ?_ NB318_327.out _; (with_reducible repeat (first | refine blk_drewN ?_ _ | refine blk_drew ?_ | refine blk_alloc ?_ _)); refine blk_far ?_ NB318_327.out _; (with_reducible repeat (first | refine blk_drewN ?_ _ | refine blk_drew ?_ | refine blk_alloc ?_ _)); refine blk_far ?_ NB318_327.out _; (with_reducible repeat (first | refine blk_drewN ?_ _ | refine blk_drew ?_ | refine blk_alloc ?_ _)); exact BK318.out⟩, ⟨by (with_reducible repeat (first | refine blk_drewN ?_ _ | refine blk_drew ?_ | refine blk_alloc ?_ _)); refine blk_far ?_ NB324_327.out _; (with_reducible repeat (first | refine blk_drewN ?_ _ | refine blk_drew ?_ | refine blk_alloc ?_ _)); refine blk_far ?_ NB324_327.out _; (with_reducible repeat (first | refine blk_drewN ?_ _ | refine blk_drew ?_ | refine blk_alloc ?_ _)); refine blk_far ?_ NB324_327.out _; (with_reducible repeat (first | refine blk_drewN ?_ _ | refine blk_drew ?_ | refine blk_alloc ?_ _)); refine blk_far ?_ NB324_327.out _; (with_reducible repeat (first | refine blk_drewN ?_ _ | refine blk_drew ?_ | refine blk_alloc ?_ _)); exact BK324.out⟩, ⟨bq⟩⟩
                 ·rw [if_neg c27] at H
                  have c27b0 : (((rd_T86 l0_1 x7_3).f1) == ((rd_T86 l0_1 x4_2).f1)) = false := beq_eq_false_iff_ne.mpr c27
                  have c27b1 : (((rd_T86 l0_1 x7_3).f1) != ((rd_T86 l0_1 x4_2).f1)) = true := bne_iff_ne.mpr c27
                  have H' := am H
                  clear H
                  have hnb43 := NB318_324.out
                  have hnc43 := NB324_318.out
                  obtain ⟨hcz44_0, hcz44_1, hfz44_0, hfz44_1⟩ := q_2 BK318.out
                  have p326 : 0 ≤ (x7_3 : Int) := q_d
                  have q326 : x7_3 < (l0_1.length : Int) := q_d
                  obtain ⟨ad326, e326, hx326_0, hx326_1, hx326_2, hx326_3⟩ := at_T86 HR0_1.out x7_3 p326 q326
                  obtain rfl : ad323 = ad326 := (by injection e326)
                  replace hx326_0 := q_x HB.out hx326_0
                  replace hx326_1 := q_x HB.out hx326_1
                  replace hx326_2 := q_x HB.out hx326_2
                  replace hx326_3 := q_x HB.out hx326_3
                  replace p326 := eq_true p326
                  replace q326 := eq_true q326
                  go_wp2_with (first | ((with_reducible refine gate_dst (N := 8) rfl ?_); (try (refine gate_guard (by rfl) ?_; dsimp only)); refine q_box (N := 8) (cs := #[.int .i64 0, .int .i64 0, .int .i64 0, .int .i64 0]) (t := 86) ?_; intro gb327 hg w45 hbox hb; have n0_ := am (Kd.R_below (q_r (HO_3.out)) hb); have n1_ := am (blk_below (q_b BK318.out) hb); have n2_ := am (blk_below (q_b BK324.out) hb); have n3_ := am (below_step bq hb); have n4_ := am (hbox); have n5_ := am ((q_g hg bq : w.heap.size ≤ gb327)); have n6_ := n5_; have n7_ := am ((q_n hg (q_b BK318.out) : gb318 ≠ gb327)); have n8_ := am n7_.out.symm; have n9_ := am ((q_n hg (q_b BK324.out) : gb324 ≠ gb327)); have n10_ := am n9_.out.symm; revert n0_ n1_ n2_ n3_ n4_ n5_ n6_ n7_ n8_ n9_ n10_; clear HO_3 BK318 BK324 HB; intro HO_3 BK318 BK324 HB BK327 GW327 GE327 NB318_327 NB327_318 NB324_327 NB327_324; clear hb hbox hg; have hnb46 := NB327_318.out; have hnc46 := NB318_327.out; have hnb47 := NB327_324.out; have hnc47 := NB324_327.out; obtain ⟨hcz48_0, hcz48_1, hcz48_2, hcz48_3, hfz48_0, hfz48_1, hfz48_2, hfz48_3⟩ := q_4 BK327.out; obtain ⟨hcz49_0, hcz49_1, hcz49_2, hcz49_3, hfz49_0, hfz49_1, hfz49_2, hfz49_3⟩ := q_4 BK324.out))
                  go_roundg k3
                  case measure => have := HJ3.out; have := HK2.out; have := HK3.out; omega
                  case rel => exact ⟨(wrap64 (x7_3 + 1)), q_i, H', ⟨by have := HJ3.out; have := HK2.out; have := HK3.out; omega⟩, ⟨by (with_reducible repeat (first | apply Kd.R_alloc | apply Kd.R_drewN | apply Kd.R_drew)); exact Kd.R_mono (Kd.R_far (p := ⟨gb327, 3, none⟩) (Kd.R_far (p := ⟨gb327, 2, none⟩) (Kd.R_far (p := ⟨gb327, 1, none⟩) (Kd.R_far (p := ⟨gb327, 0, none⟩) (Kd.R_types HO_3.out BK327.out (by decide)) (fun _ hk => hk.2) (.int .i64 ((rd_T86 l0_1 x7_3).f0))) (fun _ hk => hk.2) (.int .i64 ((rd_T86 l0_1 x7_3).f1))) (fun _ hk => hk.2) (.int .i64 ((rd_T86 l0_1 x7_3).f2))) (fun _ hk => hk.2) (.int .i64 ((rd_T86 l0_1 x7_3).f3))) (fun _ hk => trivial)⟩, ⟨by (with_reducible repeat (first | refine blk_drewN ?_ _ | refine blk_drew ?_ | refine blk_alloc ?_ _)); refine blk_far ?_ NB318_327.out _; (with_reducible repeat (first | refine blk_drewN ?_ _ | refine blk_drew ?_ | refine blk_alloc ?_ _)); refine blk_far ?_ NB318_327.out _; (with_reducible repeat (first | refine blk_drewN ?_ _ | refine blk_drew ?_ | refine blk_alloc ?_ _)); refine blk_far ?_ NB318_327.out _; (with_reducible repeat (first | refine blk_drewN ?_ _ | refine blk_drew ?_ | refine blk_alloc ?_ _)); refine blk_far ?_ NB318_327.out _; (with_reducible repeat (first | refine blk_drewN ?_ _ | refine blk_drew ?_ | refine blk_alloc ?_ _)); exact BK318.out⟩, ⟨by (with_reducible repeat (first | refine blk_drewN ?_ _ | refine blk_drew ?_ | refine blk_alloc ?_ _)); refine blk_far ?_ NB324_327.out _; (with_reducible repeat (first | refine blk_drewN ?_ _ | refine blk_drew ?_ | refine blk_alloc ?_ _)); refine blk_far ?_ NB324_327.out _; (with_reducible repeat (first | refine blk_drewN ?_ _ | refine blk_drew ?_ | refine blk_alloc ?_ _)); refine blk_far ?_ NB324_327.out _; (with_reducible repeat (first | refine blk_drewN ?_ _ | refine blk_drew ?_ | refine blk_alloc ?_ _)); refine blk_far ?_ NB324_327.out _; (with_reducible repeat (first | refine blk_drewN ?_ _ | refine blk_drew ?_ | refine blk_alloc ?_ _)); exact BK324.out⟩, ⟨bq⟩⟩
                ·rw [if_neg c26] at H
                 have c26b0 : (((rd_T86 l0_1 x7_3).f0) == ((rd_T86 l0_1 x4_2).f0)) = false := beq_eq_false_iff_ne.mpr c26
                 have c26b1 : (((rd_T86 l0_1 x7_3).f0) != ((rd_T86 l0_1 x4_2).f0)) = true := bne_iff_ne.mpr c26
                 have H' := am H
                 clear H
                 have hnb50 := NB318_324.out
                 have hnc50 := NB324_318.out
                 obtain ⟨hcz51_0, hcz51_1, hfz51_0, hfz51_1⟩ := q_2 BK318.out
                 have p326 : 0 ≤ (x7_3 : Int) := q_d
                 have q326 : x7_3 < (l0_1.length : Int) := q_d
                 obtain ⟨ad326, e326, hx326_0, hx326_1, hx326_2, hx326_3⟩ := at_T86 HR0_1.out x7_3 p326 q326
                 obtain rfl : ad323 = ad326 := (by injection e326)
                 replace hx326_0 := q_x HB.out hx326_0
                 replace hx326_1 := q_x HB.out hx326_1
                 replace hx326_2 := q_x HB.out hx326_2
                 replace hx326_3 := q_x HB.out hx326_3
                 replace p326 := eq_true p326
                 replace q326 := eq_true q326
                 go_wp2_with (first | ((with_reducible refine gate_dst (N := 8) rfl ?_); (try (refine gate_guard (by rfl) ?_; dsimp only)); refine q_box (N := 8) (cs := #[.int .i64 0, .int .i64 0, .int .i64 0, .int .i64 0]) (t := 86) ?_; intro gb327 hg w52 hbox hb; have n0_ := am (Kd.R_below (q_r (HO_3.out)) hb); have n1_ := am (blk_below (q_b BK318.out) hb); have n2_ := am (blk_below (q_b BK324.out) hb); have n3_ := am (below_step bq hb); have n4_ := am (hbox); have n5_ := am ((q_g hg bq : w.heap.size ≤ gb327)); have n6_ := n5_; have n7_ := am ((q_n hg (q_b BK318.out) : gb318 ≠ gb327)); have n8_ := am n7_.out.symm; have n9_ := am ((q_n hg (q_b BK324.out) : gb324 ≠ gb327)); have n10_ := am n9_.out.symm; revert n0_ n1_ n2_ n3_ n4_ n5_ n6_ n7_ n8_ n9_ n10_; clear HO_3 BK318 BK324 HB; intro HO_3 BK318 BK324 HB BK327 GW327 GE327 NB318_327 NB327_318 NB324_327 NB327_324; clear hb hbox hg; have hnb53 := NB327_318.out; have hnc53 := NB318_327.out; have hnb54 := NB327_324.out; have hnc54 := NB324_327.out; obtain ⟨hcz55_0, hcz55_1, hcz55_2, hcz55_3, hfz55_0, hfz55_1, hfz55_2, hfz55_3⟩ := q_4 BK327.out; obtain ⟨hcz56_0, hcz56_1, hcz56_2, hcz56_3, hfz56_0, hfz56_1, hfz56_2, hfz56_3⟩ := q_4 BK324.out))
                 go_roundg k3
                 case measure => have := HJ3.out; have := HK2.out; have := HK3.out; omega
                 case rel => exact ⟨(wrap64 (x7_3 + 1)), q_i, H', ⟨by have := HJ3.out; have := HK2.out; have := HK3.out; omega⟩, ⟨by (with_reducible repeat (first | apply Kd.R_alloc | apply Kd.R_drewN | apply Kd.R_drew)); exact Kd.R_mono (Kd.R_far (p := ⟨gb327, 3, none⟩) (Kd.R_far (p := ⟨gb327, 2, none⟩) (Kd.R_far (p := ⟨gb327, 1, none⟩) (Kd.R_far (p := ⟨gb327, 0, none⟩) (Kd.R_types HO_3.out BK327.out (by decide)) (fun _ hk => hk.2) (.int .i64 ((rd_T86 l0_1 x7_3).f0))) (fun _ hk => hk.2) (.int .i64 ((rd_T86 l0_1 x7_3).f1))) (fun _ hk => hk.2) (.int .i64 ((rd_T86 l0_1 x7_3).f2))) (fun _ hk => hk.2) (.int .i64 ((rd_T86 l0_1 x7_3).f3))) (fun _ hk => trivial)⟩, ⟨by (with_reducible repeat (first | refine blk_drewN ?_ _ | refine blk_drew ?_ | refine blk_alloc ?_ _)); refine blk_far ?_ NB318_327.out _; (with_reducible repeat (first | refine blk_drewN ?_ _ | refine blk_drew ?_ | refine blk_alloc ?_ _)); refine blk_far ?_ NB318_327.out _; (with_reducible repeat (first | refine blk_drewN ?_ _ | refine blk_drew ?_ | refine blk_alloc ?_ _)); refine blk_far ?_ NB318_327.out _; (with_reducible repeat (first | refine blk_drewN ?_ _ | refine blk_drew ?_ | refine blk_alloc ?_ _)); refine blk_far ?_ NB318_327.out _; (with_reducible repeat (first | refine blk_drewN ?_ _ | refine blk_drew ?_ | refine blk_alloc ?_ _)); exact BK318.out⟩, ⟨by (with_reducible repeat (first | refine blk_drewN ?_ _ | refine blk_drew ?_ | refine blk_alloc ?_ _)); refine blk_far ?_ NB324_327.out _; (with_reducible repeat (first | refine blk_drewN ?_ _ | refine blk_drew ?_ | refine blk_alloc ?_ _)); refine blk_far ?_ NB324_327.out _; (with_reducible repeat (first | refine blk_drewN ?_ _ | refine blk_drew ?_ | refine blk_alloc ?_ _)); refine blk_far ?_ NB324_327.out _; (with_reducible repeat (first | refine blk_drewN ?_ _ | refine blk_drew ?_ | refine blk_alloc ?_ _)); refine blk_far ?_ NB324_327.out _; (with_reducible repeat (first | refine blk_drewN ?_ _ | refine blk_drew ?_ | refine blk_alloc ?_ _)); exact BK324.out⟩, ⟨bq⟩⟩
               ·rw [if_neg c25] at H
                exact absurd H (by simp)
              ·rw [if_neg c24] at H
               exact absurd H (by simp)
             ·rw [if_neg c23] at H
              have c23b0 := decide_eq_false c23
              clear c23
              by_cases c57 : 0 ≤ ((rd_T86 l0_1 x4_2).f2)
              ·rw [if_pos c57] at H
               have c57b0 := decide_eq_true c57
               clear c57
               by_cases c58 : ((rd_T86 l0_1 x4_2).f2) < (x3_2.length : Int)
               ·rw [if_pos c58] at H
                have c58b0 := decide_eq_true c58
                clear c58
                obtain ⟨y329, hy329⟩ : ∃ y_ : List Int, y_ = (x3_2.set (((rd_T86 l0_1 x4_2).f2) : Int).toNat (wrap64 ((rd x3_2 ((rd_T86 l0_1 x4_2).f2)) + ((rd_T86 l0_1 x4_2).f3)))) := ⟨_, rfl⟩
                replace H : (spec_ContractFault.l0 k3 y329 (wrap64 (x4_2 + 1)) a0_0 l0_1) = some r := q_h hy329 H
                have Ny329 := am hy329
                clear hy329
                have H' := am H
                clear H
                try go_wp2
                have n0_ := am (Kd.R_drew HO_3.out)
                have n1_ := am (blk_drew BK318.out)
                have n2_ := am (blk_drew BK324.out)
                have n3_ := am (below_drew1 HB.out)
                clear HO_3
                clear BK318
                clear BK324
                clear HB
                have HO_3 := n0_
                have BK318 := n1_
                have BK324 := n2_
                have HB := n3_
                clear n0_ n1_ n2_ n3_
                obtain ⟨Ao61, co61, eo61⟩ := Kd.R_slice HO_3.out
                (first | subst eo61 | (injection eo61 with f1_ f2_ f3_; have f4_ := f1_.symm; have f5_ := f3_.symm; clear f1_ f2_ f3_; subst f4_; subst f5_))
                have p328 : 0 ≤ (((rd_T86 l0_1 x4_2).f2) : Int) := q_d
                have q328 : ((rd_T86 l0_1 x4_2).f2) < (x3_2.length : Int) := q_d
                obtain ⟨ad328, e328, hx328_0⟩ := Kd.at_int (Kd.R_reads' HO_3.out).2.2 ((rd_T86 l0_1 x4_2).f2) p328 q328
                cases e328
                replace p328 := eq_true p328
                replace q328 := eq_true q328
                have p59 : 0 ≤ (((rd_T86 l0_1 x4_2).f2) : Int) := q_d
                have q59 : (((rd_T86 l0_1 x4_2).f2) : Int) < ((x3_2.length : Int) : Int) := q_d
                obtain ⟨go59, co59, eo59, gb59, gl59, cl59, HG59⟩ := Kd.R_form HO_3.out (by omega)
                (first | cases eo59 | (injection eo59 with ea_ en_ ec_; (first | subst ea_ | (injection ea_ with ea_; subst ea_)); subst ec_; clear en_))
                have GB59 := am gb59
                have GG59 := am HG59
                clear gb59 gl59 HG59
                (first | simp only [add_plain] at hx328_0 | skip)
                obtain ⟨hx59_0, hf59_0⟩ := Kd.R_celln 0 HO_3.out (((rd_T86 l0_1 x4_2).f2) : Int) p59 q59
                replace p59 := eq_true p59
                replace q59 := eq_true q59
                have HP62 := Kd.R_putn HO_3.out (((rd_T86 l0_1 x4_2).f2) : Int) (wrap64 ((rd x3_2 ((rd_T86 l0_1 x4_2).f2)) + ((rd_T86 l0_1 x4_2).f3)))
                rw [← Ny329.out] at HP62
                have HQ62 := am HP62
                clear HP62
                refine start_ (n := 13) (S := fun w' => w'.cell? ⟨gb324, 0, none⟩ = some (.int .i64 ((rd_T86 l0_1 x4_2).f0)) ∧ w'.cell? ⟨gb324, 1, none⟩ = some (.int .i64 ((rd_T86 l0_1 x4_2).f1)) ∧ w'.cell? ⟨gb324, 2, none⟩ = some (.int .i64 ((rd_T86 l0_1 x4_2).f2)) ∧ w'.cell? ⟨gb324, 3, none⟩ = some (.int .i64 ((rd_T86 l0_1 x4_2).f3)) ∧ w'.cell? ((⟨go59, (((rd_T86 l0_1 x4_2).f2)).toNat, none⟩ : Addr)) = some (.int .i64 (rd x3_2 ((rd_T86 l0_1 x4_2).f2)))) (ds := [12]) #[false, false, false, false, false, false, false, false, false, false, false, false, false] (by kernel_rfl) rfl rfl ⟨q_z BK324.out 0, q_z BK324.out 1, q_z BK324.out 2, q_z BK324.out 3, hx328_0⟩ (fun hHeld => ?_); refine with_tabW spec_ContractFault.tab19 spec_ContractFault.bits19 (fun HT_ HW_ => ?_)
                generalize wr.drew = w60 at HO_3 BK318 BK324 HB GG59 HQ62 hf59_0 hx328_0 hx59_0 hHeld ⊢
                refine q_p 0 (some 71) #[true, false, false, false, false, false, false, false, false, false, false, false, false] HT_.out ?_
                refine q_p 1 (some 72) #[true, true, false, false, false, false, false, false, false, false, false, false, false] HT_.out ?_
                refine q_p 3 (some 74) #[true, true, false, true, false, false, false, false, false, false, false, false, false] HT_.out ?_
                refine q_p 4 (some 75) #[true, true, false, true, true, false, false, false, false, false, false, false, false] HT_.out ?_
                refine q_p 8 (some 79) #[true, true, false, true, true, false, false, false, true, false, false, false, false] HT_.out ?_
                refine q_t 2 (some 73) #[true, true, true, true, true, false, false, false, true, false, false, false, false] HT_.out HW_.out hHeld ?_
                refine q_t 5 (some 76) #[true, true, true, true, true, true, false, false, true, false, false, false, false] HT_.out HW_.out hHeld ?_
                refine q_p 6 (some 77) #[true, true, true, true, true, true, true, false, true, false, false, false, false] HT_.out ?_
                refine q_t 7 (some 78) #[true, true, true, true, true, true, true, true, true, false, false, false, false] HT_.out HW_.out hHeld ?_
                refine q_t 9 (some 80) #[true, true, true, true, true, true, true, true, true, true, false, false, false] HT_.out HW_.out hHeld ?_
                refine q_p 10 (some 81) #[true, true, true, true, true, true, true, true, true, true, true, false, false] HT_.out ?_
                refine q_p 11 (some 82) #[true, true, true, true, true, true, true, true, true, true, true, true, false] HT_.out ?_
                refine last_ (i := 12) (N := none) #[true, true, true, true, true, true, true, true, true, true, true, true, true] rfl rfl (one_of HT_.out (by kernel_rfl)) (by decide) (fun K hK => ?_)
                refine skip_ (w1 := ?_) (by rfl) rfl ?_ ?_
                rotate_left
                ·go_simp
                 rfl
                refine hK.out _ _ ?_
                clear hK K
                refine done_ (done_of HT_.out (by kernel_rfl)) ?_
                try go_wp2
                go_roundg k3
                case measure => have := HJ3.out; have := HK2.out; have := HK3.out; omega
                case rel => exact ⟨(y329), (wrap64 (x4_2 + 1)), q_i, H', ⟨by have := HJ3.out; have := HK2.out; have := HK3.out; omega⟩, ⟨q_r (HQ62.out)⟩, ⟨by (with_reducible repeat (first | refine blk_drewN ?_ _ | refine blk_drew ?_ | refine blk_alloc ?_ _)); refine blk_far ?_ (by have h_ := Kd.R_ne HO_3.out BK318.out (by decide); intro e_; exact h_ (by rw [e_]; rfl)) _; (with_reducible repeat (first | refine blk_drewN ?_ _ | refine blk_drew ?_ | refine blk_alloc ?_ _)); exact BK318.out⟩, ⟨bq⟩⟩
               ·rw [if_neg c58] at H
                exact absurd H (by simp)
              ·rw [if_neg c57] at H
               exact absurd H (by simp)
          ·rw [if_neg c17] at H
           have c17b0 : (t325 == 0) = false := beq_eq_false_iff_ne.mpr c17
           have c17b1 : (t325 != 0) = true := bne_iff_ne.mpr c17
           obtain rfl := Option.some.inj H
           obtain ⟨hcz63_0, hcz63_1, hfz63_0, hfz63_1⟩ := q_2 BK318.out
           have p323 : 0 ≤ (x4_2 : Int) := q_d
           have q323 : x4_2 < (l0_1.length : Int) := q_d
           obtain ⟨ad323, e323, hx323_0, hx323_1, hx323_2, hx323_3⟩ := at_T86 HR0_1.out x4_2 p323 q323
           cases e323
           replace hx323_0 := q_x HB.out hx323_0
           replace hx323_1 := q_x HB.out hx323_1
           replace hx323_2 := q_x HB.out hx323_2
           replace hx323_3 := q_x HB.out hx323_3
           replace p323 := eq_true p323
           replace q323 := eq_true q323
           go_wp2_with (first | ((with_reducible refine gate_dst (N := 5) rfl ?_); (try (refine gate_guard (by rfl) ?_; dsimp only)); refine q_box (N := 5) (cs := #[.int .i64 0, .int .i64 0, .int .i64 0, .int .i64 0]) (t := 86) ?_; intro gb324 hg w64 hbox hb; have n0_ := am (Kd.R_below (q_r (HO_3.out)) hb); have n1_ := am (blk_below (q_b BK318.out) hb); have n2_ := am (below_step bq hb); have n3_ := am (hbox); have n4_ := am ((q_g hg bq : w.heap.size ≤ gb324)); have n5_ := n4_; have n6_ := am ((q_n hg (q_b BK318.out) : gb318 ≠ gb324)); have n7_ := am n6_.out.symm; revert n0_ n1_ n2_ n3_ n4_ n5_ n6_ n7_; clear HO_3 BK318 HB; intro HO_3 BK318 HB BK324 GW324 GE324 NB318_324 NB324_318; clear hb hbox hg; have hnb65 := NB324_318.out; have hnc65 := NB318_324.out; obtain ⟨hcz66_0, hcz66_1, hcz66_2, hcz66_3, hfz66_0, hfz66_1, hfz66_2, hfz66_3⟩ := q_4 BK324.out) | ((with_reducible refine gate_callee (f := 124) rfl ?_); refine goesLq (some 38) rfl rfl Try.func124 (by kernel_rfl) rfl #[.agg #[.int .i64 ((rd_T86 l0_1 x4_2).f0), .int .i64 ((rd_T86 l0_1 x4_2).f1), .int .i64 ((rd_T86 l0_1 x4_2).f2), .int .i64 ((rd_T86 l0_1 x4_2).f3)]] rfl ?_; (with_reducible refine (spec_LegFault.calls k2 ((rd_T86 l0_1 x4_2).f0) ((rd_T86 l0_1 x4_2).f1) ((rd_T86 l0_1 x4_2).f2) ((rd_T86 l0_1 x4_2).f3) t325 _ A16.out).mono ?_); rintro e w67 ⟨rfl, hb⟩; refine ⟨_, rfl, ?_⟩; have n0_ := am (Kd.R_below (by (with_reducible repeat (first | apply Kd.R_alloc | apply Kd.R_drewN | apply Kd.R_drew)); exact (Kd.R_mono (Kd.R_far (p := ⟨gb324, 3, none⟩) (Kd.R_far (p := ⟨gb324, 2, none⟩) (Kd.R_far (p := ⟨gb324, 1, none⟩) (Kd.R_far (p := ⟨gb324, 0, none⟩) (Kd.R_types HO_3.out BK324.out (by decide)) (fun _ hk => hk.2) (.int .i64 ((rd_T86 l0_1 x4_2).f0))) (fun _ hk => hk.2) (.int .i64 ((rd_T86 l0_1 x4_2).f1))) (fun _ hk => hk.2) (.int .i64 ((rd_T86 l0_1 x4_2).f2))) (fun _ hk => hk.2) (.int .i64 ((rd_T86 l0_1 x4_2).f3))) (fun _ h_ => h_.1))) hb); have n1_ := am (blk_below (g := gb318) (o := .cells #[.int .i64 a0_0, .slice (some ad323) l0_1.length c0_1] 40 (0, 0)) (by (with_reducible repeat (first | refine blk_drewN ?_ _ | refine blk_drew ?_ | refine blk_alloc ?_ _)); refine blk_far ?_ NB318_324.out _; (with_reducible repeat (first | refine blk_drewN ?_ _ | refine blk_drew ?_ | refine blk_alloc ?_ _)); refine blk_far ?_ NB318_324.out _; (with_reducible repeat (first | refine blk_drewN ?_ _ | refine blk_drew ?_ | refine blk_alloc ?_ _)); refine blk_far ?_ NB318_324.out _; (with_reducible repeat (first | refine blk_drewN ?_ _ | refine blk_drew ?_ | refine blk_alloc ?_ _)); refine blk_far ?_ NB318_324.out _; (with_reducible repeat (first | refine blk_drewN ?_ _ | refine blk_drew ?_ | refine blk_alloc ?_ _)); exact BK318.out) hb); have n2_ := am (blk_below (g := gb324) (o := .cells #[.int .i64 ((rd_T86 l0_1 x4_2).f0), .int .i64 ((rd_T86 l0_1 x4_2).f1), .int .i64 ((rd_T86 l0_1 x4_2).f2), .int .i64 ((rd_T86 l0_1 x4_2).f3)] 86 (0, 0)) (by (with_reducible repeat (first | refine blk_drewN ?_ _ | refine blk_drew ?_ | refine blk_alloc ?_ _)); refine blk_put (cs := #[.int .i64 ((rd_T86 l0_1 x4_2).f0), .int .i64 ((rd_T86 l0_1 x4_2).f1), .int .i64 ((rd_T86 l0_1 x4_2).f2), .int .i64 0]) ?_ 3 _ rfl; (with_reducible repeat (first | refine blk_drewN ?_ _ | refine blk_drew ?_ | refine blk_alloc ?_ _)); refine blk_put (cs := #[.int .i64 ((rd_T86 l0_1 x4_2).f0), .int .i64 ((rd_T86 l0_1 x4_2).f1), .int .i64 0, .int .i64 0]) ?_ 2 _ rfl; (with_reducible repeat (first | refine blk_drewN ?_ _ | refine blk_drew ?_ | refine blk_alloc ?_ _)); refine blk_put (cs := #[.int .i64 ((rd_T86 l0_1 x4_2).f0), .int .i64 0, .int .i64 0, .int .i64 0]) ?_ 1 _ rfl; (with_reducible repeat (first | refine blk_drewN ?_ _ | refine blk_drew ?_ | refine blk_alloc ?_ _)); refine blk_put (cs := #[.int .i64 0, .int .i64 0, .int .i64 0, .int .i64 0]) ?_ 0 _ rfl; (with_reducible repeat (first | refine blk_drewN ?_ _ | refine blk_drew ?_ | refine blk_alloc ?_ _)); exact BK324.out) hb); have n3_ := am (below_step bq hb); revert n0_ n1_ n2_ n3_; clear HO_3 BK318 BK324 HB; intro HO_3 BK318 BK324 HB; (try clear hb); (try clear hb2); (try clear hk); (try clear hi)))
           go_ret
           exact ⟨q_e, bq⟩
         ·rw [if_neg c15] at H
          exact absurd H (by simp)
        ·rw [if_neg c14] at H
         have c14b0 := decide_eq_false c14
         clear c14
         have H' := am H
         clear H
         obtain ⟨hcz68_0, hcz68_1, hfz68_0, hfz68_1⟩ := q_2 BK318.out
         go_wp2
         go_loopg [9] k2 (fun kq v9 w' => ∃ (x9_3 : Int), v9 = .int .i64 x9_3 ∧ Aside0 (spec_ContractFault.l2 kq x3_2 x9_3 = some r) ∧ Aside0 (kq ≤ k2) ∧ Aside0 (Kd.R (Kd.int .i64) 2 w' w.heap.size (fun _ => True) v321 x3_2) ∧ Aside0 (w'.heap[gb318]? = some (.cells #[.int .i64 a0_0, (.slice A0_1 l0_1.length c0_1)] 40 (0, 0))) ∧ Aside0 (Below w.heap.size w w'))
         case atStart => exact ⟨(0), q_i, H', ⟨Nat.le_refl _⟩, ⟨q_r (HO_3.out)⟩, ⟨q_b BK318.out⟩, ⟨bq⟩⟩
         case round =>
          clear H'
          (try clear c1); (try clear c2); (try clear p2); (try clear c3); (try clear p3); (try clear q3); (try clear hx3); (try clear c4); (try clear c5); (try clear p5); (try clear q5); (try clear hx5)
          (try clear hf5); (try clear c6); (try clear p6); (try clear c7); (try clear c7b0); (try clear c7b1); (try clear c10); (try clear c11); (try clear c11b0); (try clear c11b1); (try clear c12); (try clear c14)
          (try clear c14b0); (try clear c15); (try clear c15b0); (try clear c17); (try clear c17b0); (try clear c17b1); (try clear c20); (try clear c23); (try clear c23b0); (try clear c24); (try clear c24b0)
          (try clear c25); (try clear c25b0); (try clear c26); (try clear c26b0); (try clear c26b1); (try clear c27); (try clear c27b0); (try clear c27b1); (try clear c28); (try clear c28b0); (try clear c28b1)
          (try clear c29); (try clear c32); (try clear p32); (try clear q32); (try clear hx32); (try clear c33); (try clear c36); (try clear c39); (try clear c40); (try clear c43); (try clear c46); (try clear c47)
          (try clear c50); (try clear c53); (try clear c54); (try clear c57); (try clear c57b0); (try clear c58); (try clear c58b0); (try clear p59); (try clear q59); (try clear hx59); (try clear hf59)
          (try clear p64); (try clear c65); (try clear hcz18_0); (try clear hcz18_1); (try clear hcz21_0); (try clear hcz21_1); (try clear hcz21_2); (try clear hcz21_3); (try clear hcz30_0); (try clear hcz30_1)
          (try clear hcz34_0); (try clear hcz34_1); (try clear hcz34_2); (try clear hcz34_3); (try clear hcz35_0); (try clear hcz35_1); (try clear hcz35_2); (try clear hcz35_3); (try clear hcz37_0); (try clear hcz37_1)
          (try clear hcz41_0); (try clear hcz41_1); (try clear hcz41_2); (try clear hcz41_3); (try clear hcz42_0); (try clear hcz42_1); (try clear hcz42_2); (try clear hcz42_3); (try clear hcz44_0); (try clear hcz44_1)
          (try clear hcz48_0); (try clear hcz48_1); (try clear hcz48_2); (try clear hcz48_3); (try clear hcz49_0); (try clear hcz49_1); (try clear hcz49_2); (try clear hcz49_3); (try clear hcz51_0); (try clear hcz51_1)
          (try clear hcz55_0); (try clear hcz55_1); (try clear hcz55_2); (try clear hcz55_3); (try clear hcz56_0); (try clear hcz56_1); (try clear hcz56_2); (try clear hcz56_3); (try clear hcz63_0); (try clear hcz63_1)
          (try clear hcz66_0); (try clear hcz66_1); (try clear hcz66_2); (try clear hcz66_3); (try clear hcz68_0); (try clear hcz68_1); (try clear hcz6_0); (try clear hcz6_1); (try clear hcz8_0); (try clear hcz8_1)
          (try clear hcz9_0); (try clear hcz9_1); (try clear hfz18_0); (try clear hfz18_1); (try clear hfz21_0); (try clear hfz21_1); (try clear hfz21_2); (try clear hfz21_3); (try clear hfz30_0); (try clear hfz30_1)
          (try clear hfz34_0); (try clear hfz34_1); (try clear hfz34_2); (try clear hfz34_3); (try clear hfz35_0); (try clear hfz35_1); (try clear hfz35_2); (try clear hfz35_3); (try clear hfz37_0); (try clear hfz37_1)
          (try clear hfz41_0); (try clear hfz41_1); (try clear hfz41_2); (try clear hfz41_3); (try clear hfz42_0); (try clear hfz42_1); (try clear hfz42_2); (try clear hfz42_3); (try clear hfz44_0); (try clear hfz44_1)
          (try clear hfz48_0); (try clear hfz48_1); (try clear hfz48_2); (try clear hfz48_3); (try clear hfz49_0); (try clear hfz49_1); (try clear hfz49_2); (try clear hfz49_3); (try clear hfz51_0); (try clear hfz51_1)
          (try clear hfz55_0); (try clear hfz55_1); (try clear hfz55_2); (try clear hfz55_3); (try clear hfz56_0); (try clear hfz56_1); (try clear hfz56_2); (try clear hfz56_3); (try clear hfz63_0); (try clear hfz63_1)
          (try clear hfz66_0); (try clear hfz66_1); (try clear hfz66_2); (try clear hfz66_3); (try clear hfz68_0); (try clear hfz68_1); (try clear hfz6_0); (try clear hfz6_1); (try clear hfz8_0); (try clear hfz8_1)
          (try clear hfz9_0); (try clear hfz9_1); (try clear hx323_0); (try clear hx323_1); (try clear hx323_2); (try clear hx323_3); (try clear hx326_0); (try clear hx326_1); (try clear hx326_2); (try clear hx326_3)
          (try clear hx328_0); (try clear hx59_0); (try clear p2); (try clear p3); (try clear p323); (try clear p326); (try clear p328); (try clear p59); (try clear q3); (try clear q323); (try clear q326)
          (try clear q328); (try clear q59)
          obtain ⟨x9_3, rfl, HA, HK3, HO_3, BK318, HB⟩ := hrel
          cases gk with
          | zero => exact absurd HA.out (by simp [spec_ContractFault.l2])
          | succ k3 =>
           have H := HA.out
           clear HA
           simp only [spec_ContractFault.l2] at H
           by_cases c69 : x9_3 < (x3_2.length : Int)
           ·rw [if_pos c69] at H
            have c69b0 := decide_eq_true c69
            clear c69
            by_cases c70 : 0 ≤ x9_3
            ·rw [if_pos c70] at H
             have c70b0 := decide_eq_true c70
             clear c70
             by_cases c71 : (rd x3_2 x9_3) = 0
             ·rw [if_pos c71] at H
              have c71b0 : ((rd x3_2 x9_3) == 0) = true := beq_iff_eq.mpr c71
              have c71b1 : ((rd x3_2 x9_3) != 0) = false := bne_eq_false_iff_eq.mpr c71
              clear c71
              have H' := am H
              clear H
              obtain ⟨Ao72, co72, eo72⟩ := Kd.R_slice HO_3.out
              subst eo72
              have p330 : 0 ≤ (x9_3 : Int) := q_d
              have q330 : x9_3 < (x3_2.length : Int) := q_d
              obtain ⟨ad330, e330, hx330_0⟩ := Kd.at_int (Kd.R_reads' HO_3.out).2.2 x9_3 p330 q330
              cases e330
              replace p330 := eq_true p330
              replace q330 := eq_true q330
              go_wp2
              go_roundg k3
              case measure => have := HJ3.out; have := HK2.out; have := HK3.out; omega
              case rel => exact ⟨(wrap64 (x9_3 + 1)), q_i, H', ⟨by have := HJ3.out; have := HK2.out; have := HK3.out; omega⟩, ⟨q_r (HO_3.out)⟩, ⟨q_b BK318.out⟩, ⟨bq⟩⟩
             ·rw [if_neg c71] at H
              have c71b0 : ((rd x3_2 x9_3) == 0) = false := beq_eq_false_iff_ne.mpr c71
              have c71b1 : ((rd x3_2 x9_3) != 0) = true := bne_iff_ne.mpr c71
              obtain rfl := Option.some.inj H
              obtain ⟨Ao73, co73, eo73⟩ := Kd.R_slice HO_3.out
              subst eo73
              have p330 : 0 ≤ (x9_3 : Int) := q_d
              have q330 : x9_3 < (x3_2.length : Int) := q_d
              obtain ⟨ad330, e330, hx330_0⟩ := Kd.at_int (Kd.R_reads' HO_3.out).2.2 x9_3 p330 q330
              cases e330
              replace p330 := eq_true p330
              replace q330 := eq_true q330
              go_wp2
              go_ret
              exact ⟨q_e, bq⟩
            ·rw [if_neg c70] at H
             exact absurd H (by simp)
           ·rw [if_neg c69] at H
            have c69b0 := decide_eq_false c69
            clear c69
            obtain rfl := Option.some.inj H
            obtain ⟨Ao74, co74, eo74⟩ := Kd.R_slice HO_3.out
            subst eo74
            go_wp2
            go_ret
            exact ⟨q_e, bq⟩
     ·rw [if_neg c11] at H
      exact absurd H (by simp)
 ·replace c3 := Bool.eq_false_iff.mpr c3
  subst c3
  have H1 : (some 3) = some r := by rw [if_neg (show ¬ (false = true) by decide)] at H; exact H
  clear H
  have H := H1
  clear H1
  obtain rfl := Option.some.inj H
  go_enter Try.func105, Try.ntmps105
  go_wp2_with (first | ((with_reducible refine gate_dst (N := 1) rfl ?_); (try (refine gate_guard (by rfl) ?_; dsimp only)); refine q_box (N := 1) (cs := #[.int .i64 a0_0, .slice A0_1 l0_1.length c0_1]) (t := 40) ?_; intro gb318 hg w75 hbox hb; have n0_ := am (below_step bq hb); have n1_ := am (hbox); have n2_ := am ((q_g hg bq : w.heap.size ≤ gb318)); have n3_ := n2_; revert n0_ n1_ n2_ n3_; clear HB; intro HB BK318 GW318 GE318; clear hb hbox hg; obtain ⟨hcz76_0, hcz76_1, hfz76_0, hfz76_1⟩ := q_2 BK318.out) | ((with_reducible refine gate_callee (f := 123) rfl ?_); refine goesLq (some 12) rfl rfl Try.func123 (by kernel_rfl) rfl #[.int .i64 a0_0] rfl ?_; (with_reducible refine (spec_l1Id.calls a0_0 false _ A2.out).mono ?_); rintro e w' ⟨rfl, ⟨nd, rfl⟩⟩; refine ⟨_, rfl, ?_⟩))
  go_ret
  exact ⟨q_e, bq⟩

/-! ### spec_l2Legs: function 106 -/
def spec_l2Legs.l0 : Nat → List (S104) → List (S86) → Int → Option (Int)
  | 0, _, _, _ => none
  | k + 1, x0, x1, x5 => if x5 < (x1.length : Int) then (if 0 ≤ x5 then ((spec_l2Has.f k x0 ((rd_T86 x1 x5).f1) ((rd_T86 x1 x5).f2)).bind fun t333 => (if (wrap64 (t333 + ((rd_T86 x1 x5).f3))) < 0 then (some 6) else (if (wrap64 (t333 + ((rd_T86 x1 x5).f3))) > 1000000000000 then (some 3) else (spec_l2Legs.l0 k x0 x1 (wrap64 (x5 + 1)))))) else (none)) else (some 0)
def spec_l2Legs.f (k : Nat) (l0 : List (S104)) (l1 : List (S86)) : Option (Int) := spec_l2Legs.l0 k l0 l1 0
theorem spec_l2Legs.calls (k : Nat) (A0 : Option Addr) (c0 : Nat) (l0 : List (S104)) (A1 : Option Addr) (c1 : Nat) (l1 : List (S86)) (r : Int) (w : World) (hr0 : Kd.C k104 w A0 l0.length l0) (hc0 : l0.length ≤ c0) (hr1 : Kd.C k86 w A1 l1.length l1) (hc1 : l1.length ≤ c1) (h : spec_l2Legs.f k l0 l1 = some r) :
  Calls Try.prog 106 #[.slice A0 l0.length c0, .slice A1 l1.length c1] w fun e w' => e = .returned (.int .i64 r) ∧ Drawn0 w w' := by
 have HR0 := am hr0
 have HC0 := am hc0
 clear hr0 hc0
 have HR1 := am hr1
 have HC1 := am hc1
 clear hr1 hc1
 have H : (spec_l2Legs.l0 k l0 l1 0) = some r := h
 clear h
 have H' := am H
 clear H
 go_enter Try.func106, Try.ntmps106
 go_wp2
 repeat (go_quiet (fail); try go_wp2)
 go_loopg [5] k (fun kq v5 w' => ∃ (x5_1 : Int), v5 = .int .i64 x5_1 ∧ Aside0 (spec_l2Legs.l0 kq l0 l1 x5_1 = some r) ∧ Aside0 (kq ≤ k) ∧ Drawn0 w w')
 case atStart => exact ⟨(0), q_i, H', ⟨Nat.le_refl _⟩, q_0⟩
 case round =>
  clear H'
  (try clear c1); (try clear p2)
  obtain ⟨x5_1, rfl, HA, HK1, ⟨m1, rfl⟩⟩ := hrel
  cases gk with
  | zero => exact absurd HA.out (by simp [spec_l2Legs.l0])
  | succ k1 =>
   have H := HA.out
   clear HA
   simp only [spec_l2Legs.l0] at H
   by_cases c3 : x5_1 < (l1.length : Int)
   ·rw [if_pos c3] at H
    have c3b0 := decide_eq_true c3
    clear c3
    by_cases c4 : 0 ≤ x5_1
    ·rw [if_pos c4] at H
     have c4b0 := decide_eq_true c4
     clear c4
     replace H := ob H
     obtain ⟨t333, A50, H⟩ := H
     replace H : (if (wrap64 (t333 + ((rd_T86 l1 x5_1).f3))) < 0 then (some 6) else (if (wrap64 (t333 + ((rd_T86 l1 x5_1).f3))) > 1000000000000 then (some 3) else (spec_l2Legs.l0 k1 l0 l1 (wrap64 (x5_1 + 1))))) = some r := H
     have A5 := am A50
     clear A50
     by_cases c6 : (wrap64 (t333 + ((rd_T86 l1 x5_1).f3))) < 0
     ·rw [if_pos c6] at H
      have c6b0 := decide_eq_true c6
      have c6w0 : decide ((IntKind.i64.wrap (t333 + ((rd_T86 l1 x5_1).f3))) < 0) = true := by first | exact c6b0 | (simp only [i64_w]; exact c6b0)
      clear c6
      obtain rfl := Option.some.inj H
      have p331 : 0 ≤ (x5_1 : Int) := q_d
      have q331 : x5_1 < (l1.length : Int) := q_d
      obtain ⟨ad331, e331, hx331_0, hx331_1, hx331_2, hx331_3⟩ := at_T86 HR1.out x5_1 p331 q331
      cases e331
      replace p331 := eq_true p331
      replace q331 := eq_true q331
      have p332 : 0 ≤ (x5_1 : Int) := q_d
      have q332 : x5_1 < (l1.length : Int) := q_d
      obtain ⟨ad332, e332, hx332_0, hx332_1, hx332_2, hx332_3⟩ := at_T86 HR1.out x5_1 p332 q332
      obtain rfl : ad331 = ad332 := (by injection e332)
      replace p332 := eq_true p332
      replace q332 := eq_true q332
      go_wp2_with (first | (go_at_call 89; (with_reducible refine (spec_l2Has.calls k1 _ _ l0 ((rd_T86 l1 x5_1).f1) ((rd_T86 l1 x5_1).f2) t333 _ ?side1 ?side2 A5.out).mono ?_); (case side1 => exact q_c (HR0.out)); (case side2 => exact HC0.out); rintro e w' ⟨rfl, ⟨nd, rfl⟩⟩; (try first | exact ⟨rfl, _, World.drewN_drewN _ _ _⟩ | exact ⟨rfl, _, Eq.trans (World.drewN_drewN _ _ _) (congrArg (World.drewN _) (Nat.add_assoc _ _ _))⟩); have p334 : 0 ≤ (x5_1 : Int) := q_d; have q334 : x5_1 < (l1.length : Int) := q_d; obtain ⟨ad334, e334, hx334_0, hx334_1, hx334_2, hx334_3⟩ := at_T86 HR1.out x5_1 p334 q334; obtain rfl : ad331 = ad334 := (by injection e334); replace p334 := eq_true p334; replace q334 := eq_true q334))
      repeat (go_quiet (first | (go_at_call 89; (with_reducible refine (spec_l2Has.calls k1 _ _ l0 ((rd_T86 l1 x5_1).f1) ((rd_T86 l1 x5_1).f2) t333 _ ?side1 ?side2 A5.out).mono ?_); (case side1 => exact q_c (HR0.out)); (case side2 => exact HC0.out); rintro e w' ⟨rfl, ⟨nd, rfl⟩⟩; (try first | exact ⟨rfl, _, World.drewN_drewN _ _ _⟩ | exact ⟨rfl, _, Eq.trans (World.drewN_drewN _ _ _) (congrArg (World.drewN _) (Nat.add_assoc _ _ _))⟩); have p334 : 0 ≤ (x5_1 : Int) := q_d; have q334 : x5_1 < (l1.length : Int) := q_d; obtain ⟨ad334, e334, hx334_0, hx334_1, hx334_2, hx334_3⟩ := at_T86 HR1.out x5_1 p334 q334; obtain rfl : ad331 = ad334 := (by injection e334); replace p334 := eq_true p334; replace q334 := eq_true q334)); try go_wp2_with (first | (go_at_call 89; (with_reducible refine (spec_l2Has.calls k1 _ _ l0 ((rd_T86 l1 x5_1).f1) ((rd_T86 l1 x5_1).f2) t333 _ ?side1 ?side2 A5.out).mono ?_); (case side1 => exact q_c (HR0.out)); (case side2 => exact HC0.out); rintro e w' ⟨rfl, ⟨nd, rfl⟩⟩; (try first | exact ⟨rfl, _, World.drewN_drewN _ _ _⟩ | exact ⟨rfl, _, Eq.trans (World.drewN_drewN _ _ _) (congrArg (World.drewN _) (Nat.add_assoc _ _ _))⟩); have p334 : 0 ≤ (x5_1 : Int) := q_d; have q334 : x5_1 < (l1.length : Int) := q_d; obtain ⟨ad334, e334, hx334_0, hx334_1, hx334_2, hx334_3⟩ := at_T86 HR1.out x5_1 p334 q334; obtain rfl : ad331 = ad334 := (by injection e334); replace p334 := eq_true p334; replace q334 := eq_true q334)))
      go_ret
      exact ⟨by first | rfl | (simp; done) | (simp [*]; done), q_0⟩
     ·rw [if_neg c6] at H
      have c6b0 := decide_eq_false c6
      have c6w0 : decide ((IntKind.i64.wrap (t333 + ((rd_T86 l1 x5_1).f3))) < 0) = false := by first | exact c6b0 | (simp only [i64_w]; exact c6b0)
      clear c6
      by_cases c7 : (wrap64 (t333 + ((rd_T86 l1 x5_1).f3))) > 1000000000000
      ·rw [if_pos c7] at H
       have c7b0 := decide_eq_true c7
       have c7w0 : decide (1000000000000 < (IntKind.i64.wrap (t333 + ((rd_T86 l1 x5_1).f3)))) = true := by first | exact c7b0 | (simp only [i64_w]; exact c7b0)
       clear c7
       obtain rfl := Option.some.inj H
       have p331 : 0 ≤ (x5_1 : Int) := q_d
       have q331 : x5_1 < (l1.length : Int) := q_d
       obtain ⟨ad331, e331, hx331_0, hx331_1, hx331_2, hx331_3⟩ := at_T86 HR1.out x5_1 p331 q331
       cases e331
       replace p331 := eq_true p331
       replace q331 := eq_true q331
       have p332 : 0 ≤ (x5_1 : Int) := q_d
       have q332 : x5_1 < (l1.length : Int) := q_d
       obtain ⟨ad332, e332, hx332_0, hx332_1, hx332_2, hx332_3⟩ := at_T86 HR1.out x5_1 p332 q332
       obtain rfl : ad331 = ad332 := (by injection e332)
       replace p332 := eq_true p332
       replace q332 := eq_true q332
       go_wp2_with (first | (go_at_call 89; (with_reducible refine (spec_l2Has.calls k1 _ _ l0 ((rd_T86 l1 x5_1).f1) ((rd_T86 l1 x5_1).f2) t333 _ ?side1 ?side2 A5.out).mono ?_); (case side1 => exact q_c (HR0.out)); (case side2 => exact HC0.out); rintro e w' ⟨rfl, ⟨nd, rfl⟩⟩; (try first | exact ⟨rfl, _, World.drewN_drewN _ _ _⟩ | exact ⟨rfl, _, Eq.trans (World.drewN_drewN _ _ _) (congrArg (World.drewN _) (Nat.add_assoc _ _ _))⟩); have p334 : 0 ≤ (x5_1 : Int) := q_d; have q334 : x5_1 < (l1.length : Int) := q_d; obtain ⟨ad334, e334, hx334_0, hx334_1, hx334_2, hx334_3⟩ := at_T86 HR1.out x5_1 p334 q334; obtain rfl : ad331 = ad334 := (by injection e334); replace p334 := eq_true p334; replace q334 := eq_true q334))
       repeat (go_quiet (first | (go_at_call 89; (with_reducible refine (spec_l2Has.calls k1 _ _ l0 ((rd_T86 l1 x5_1).f1) ((rd_T86 l1 x5_1).f2) t333 _ ?side1 ?side2 A5.out).mono ?_); (case side1 => exact q_c (HR0.out)); (case side2 => exact HC0.out); rintro e w' ⟨rfl, ⟨nd, rfl⟩⟩; (try first | exact ⟨rfl, _, World.drewN_drewN _ _ _⟩ | exact ⟨rfl, _, Eq.trans (World.drewN_drewN _ _ _) (congrArg (World.drewN _) (Nat.add_assoc _ _ _))⟩); have p334 : 0 ≤ (x5_1 : Int) := q_d; have q334 : x5_1 < (l1.length : Int) := q_d; obtain ⟨ad334, e334, hx334_0, hx334_1, hx334_2, hx334_3⟩ := at_T86 HR1.out x5_1 p334 q334; obtain rfl : ad331 = ad334 := (by injection e334); replace p334 := eq_true p334; replace q334 := eq_true q334)); try go_wp2_with (first | (go_at_call 89; (with_reducible refine (spec_l2Has.calls k1 _ _ l0 ((rd_T86 l1 x5_1).f1) ((rd_T86 l1 x5_1).f2) t333 _ ?side1 ?side2 A5.out).mono ?_); (case side1 => exact q_c (HR0.out)); (case side2 => exact HC0.out); rintro e w' ⟨rfl, ⟨nd, rfl⟩⟩; (try first | exact ⟨rfl, _, World.drewN_drewN _ _ _⟩ | exact ⟨rfl, _, Eq.trans (World.drewN_drewN _ _ _) (congrArg (World.drewN _) (Nat.add_assoc _ _ _))⟩); have p334 : 0 ≤ (x5_1 : Int) := q_d; have q334 : x5_1 < (l1.length : Int) := q_d; obtain ⟨ad334, e334, hx334_0, hx334_1, hx334_2, hx334_3⟩ := at_T86 HR1.out x5_1 p334 q334; obtain rfl : ad331 = ad334 := (by injection e334); replace p334 := eq_true p334; replace q334 := eq_true q334)))
       go_ret
       exact ⟨by first | rfl | (simp; done) | (simp [*]; done), q_0⟩
      ·rw [if_neg c7] at H
       have c7b0 := decide_eq_false c7
       have c7w0 : decide (1000000000000 < (IntKind.i64.wrap (t333 + ((rd_T86 l1 x5_1).f3)))) = false := by first | exact c7b0 | (simp only [i64_w]; exact c7b0)
       clear c7
       have H' := am H
       clear H
       have p331 : 0 ≤ (x5_1 : Int) := q_d
       have q331 : x5_1 < (l1.length : Int) := q_d
       obtain ⟨ad331, e331, hx331_0, hx331_1, hx331_2, hx331_3⟩ := at_T86 HR1.out x5_1 p331 q331
       cases e331
       replace p331 := eq_true p331
       replace q331 := eq_true q331
       have p332 : 0 ≤ (x5_1 : Int) := q_d
       have q332 : x5_1 < (l1.length : Int) := q_d
       obtain ⟨ad332, e332, hx332_0, hx332_1, hx332_2, hx332_3⟩ := at_T86 HR1.out x5_1 p332 q332
       obtain rfl : ad331 = ad332 := (by injection e332)
       replace p332 := eq_true p332
       replace q332 := eq_true q332
       go_wp2_with (first | (go_at_call 89; (with_reducible refine (spec_l2Has.calls k1 _ _ l0 ((rd_T86 l1 x5_1).f1) ((rd_T86 l1 x5_1).f2) t333 _ ?side1 ?side2 A5.out).mono ?_); (case side1 => exact q_c (HR0.out)); (case side2 => exact HC0.out); rintro e w' ⟨rfl, ⟨nd, rfl⟩⟩; (try first | exact ⟨rfl, _, World.drewN_drewN _ _ _⟩ | exact ⟨rfl, _, Eq.trans (World.drewN_drewN _ _ _) (congrArg (World.drewN _) (Nat.add_assoc _ _ _))⟩); have p334 : 0 ≤ (x5_1 : Int) := q_d; have q334 : x5_1 < (l1.length : Int) := q_d; obtain ⟨ad334, e334, hx334_0, hx334_1, hx334_2, hx334_3⟩ := at_T86 HR1.out x5_1 p334 q334; obtain rfl : ad331 = ad334 := (by injection e334); replace p334 := eq_true p334; replace q334 := eq_true q334))
       repeat (go_quiet (first | (go_at_call 89; (with_reducible refine (spec_l2Has.calls k1 _ _ l0 ((rd_T86 l1 x5_1).f1) ((rd_T86 l1 x5_1).f2) t333 _ ?side1 ?side2 A5.out).mono ?_); (case side1 => exact q_c (HR0.out)); (case side2 => exact HC0.out); rintro e w' ⟨rfl, ⟨nd, rfl⟩⟩; (try first | exact ⟨rfl, _, World.drewN_drewN _ _ _⟩ | exact ⟨rfl, _, Eq.trans (World.drewN_drewN _ _ _) (congrArg (World.drewN _) (Nat.add_assoc _ _ _))⟩); have p334 : 0 ≤ (x5_1 : Int) := q_d; have q334 : x5_1 < (l1.length : Int) := q_d; obtain ⟨ad334, e334, hx334_0, hx334_1, hx334_2, hx334_3⟩ := at_T86 HR1.out x5_1 p334 q334; obtain rfl : ad331 = ad334 := (by injection e334); replace p334 := eq_true p334; replace q334 := eq_true q334)); try go_wp2_with (first | (go_at_call 89; (with_reducible refine (spec_l2Has.calls k1 _ _ l0 ((rd_T86 l1 x5_1).f1) ((rd_T86 l1 x5_1).f2) t333 _ ?side1 ?side2 A5.out).mono ?_); (case side1 => exact q_c (HR0.out)); (case side2 => exact HC0.out); rintro e w' ⟨rfl, ⟨nd, rfl⟩⟩; (try first | exact ⟨rfl, _, World.drewN_drewN _ _ _⟩ | exact ⟨rfl, _, Eq.trans (World.drewN_drewN _ _ _) (congrArg (World.drewN _) (Nat.add_assoc _ _ _))⟩); have p334 : 0 ≤ (x5_1 : Int) := q_d; have q334 : x5_1 < (l1.length : Int) := q_d; obtain ⟨ad334, e334, hx334_0, hx334_1, hx334_2, hx334_3⟩ := at_T86 HR1.out x5_1 p334 q334; obtain rfl : ad331 = ad334 := (by injection e334); replace p334 := eq_true p334; replace q334 := eq_true q334)))
       go_roundg k1
       case measure => have := HK1.out; omega
       case rel => exact ⟨(wrap64 (x5_1 + 1)), q_i, H', ⟨by have := HK1.out; omega⟩, q_0⟩
    ·rw [if_neg c4] at H
     exact absurd H (by simp)
   ·rw [if_neg c3] at H
    have c3b0 := decide_eq_false c3
    clear c3
    obtain rfl := Option.some.inj H
    go_wp2
    repeat (go_quiet (fail); try go_wp2)
    go_ret
    exact ⟨by first | rfl | (simp; done) | (simp [*]; done), q_0⟩

end Go.Proofs.Ytanegggacfmkcaa.PFnExactSettleAll
