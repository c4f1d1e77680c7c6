/- Functions that a law reaches, as plain Lean functions, with the proof that the machine comes to their answers. No conditions. -/
import Derived.Test.YtanegggacfmkcaaPFnExactSettleAllx0
import Derived.Test.YtanegggacfmkcaaPFnExactSettleAllx13
namespace Go.Proofs.Ytanegggacfmkcaa.PFnExactSettleAll
open Go.RowKit Go.Proofs.YtanegggacfmkcaaW.PrintWords Go.Proofs.YtanegggacfmkcaaW.PrintLast Go.Proofs.YtanegggacfmkcaaW.PrintMore
attribute [local go_sem] max2_int min2_int max_two min_two max_three min_three max_four min_four   -- for this text's walks alone
set_option linter.unusedVariables false
set_option linter.unusedSimpArgs false
set_option maxHeartbeats 8000000
set_option maxRecDepth 100000

/-! ### spec_l2Can: function 64 -/
mutual
def spec_l2Can.l0 : Nat → Int → List (List (S104)) → Int → List (S86) → Option (Int)
  | 0, _, _, _, _ => none
  | k + 1, x6, x336000, x337000, x337001 => if x6 < (x337001.length : Int) then (if 0 ≤ x6 then (if ((rd_T86 x337001 x6).f0) ≥ (x336000.length : Int) then (some 4) else (spec_l2Can.l0 k (wrap64 (x6 + 1)) x336000 x337000 x337001)) else (none)) else (spec_l2Can.l1 k 0 x336000 x337000 x337001)
def spec_l2Can.l1 : Nat → Int → List (List (S104)) → Int → List (S86) → Option (Int)
  | 0, _, _, _, _ => none
  | k + 1, x7, x336000, x337000, x337001 => if x7 < (x337001.length : Int) then (if 0 ≤ x7 then (if 0 ≤ ((rd_T86 x337001 x7).f0) then (if ((rd_T86 x337001 x7).f0) < (x336000.length : Int) then (if x7 ≤ (wrap64 (x7 + 1)) then (if (wrap64 (x7 + 1)) ≤ (x337001.length : Int) then ((spec_l2Legs.f k (rd_L2 x336000 ((rd_T86 x337001 x7).f0)) ((x337001.take ((wrap64 (x7 + 1)) : Int).toNat).drop (x7 : Int).toNat)).bind fun t345 => (if t345 = 0 then (spec_l2Can.l1 k (wrap64 (x7 + 1)) x336000 x337000 x337001) else (some t345))) else (none)) else (none)) else (none)) else (none)) else (none)) else (some 0)
end
def spec_l2Can.f (k : Nat) (l0_0 : List (List (S104))) (a1_0 : Int) (l1_1 : List (S86)) : Option (Int) := (spec_ContractFault.f k a1_0 l1_1).bind fun t337 => (if t337 = 0 then (spec_l2Can.l0 k 0 l0_0 a1_0 l1_1) else (some t337))
theorem spec_l2Can.calls (k : Nat) (A0_0 : Option Addr) (c0_0 : Nat) (l0_0 : List (List (S104))) (a1_0 : Int) (A1_1 : Option Addr) (c1_1 : Nat) (l1_1 : List (S86)) (r : Int) (w : World) (hr0_0 : Kd.C (Kd.slice 104 k104) w A0_0 l0_0.length l0_0) (hc0_0 : l0_0.length ≤ c0_0) (hr1_1 : Kd.C k86 w A1_1 l1_1.length l1_1) (hc1_1 : l1_1.length ≤ c1_1) (h : spec_l2Can.f k l0_0 a1_0 l1_1 = some r) :
  Calls Try.prog 64 #[.agg #[.slice A0_0 l0_0.length c0_0], .agg #[.int .i64 a1_0, .slice A1_1 l1_1.length c1_1]] w fun e w' => e = .returned (.int .i64 r) ∧ Below w.heap.size w w' := by
 have hu26 := Try.underlying26
 have hu40 := Try.underlying40
 have HR0_0 := am hr0_0
 have HC0_0 := am hc0_0
 clear hr0_0 hc0_0
 have HR1_1 := am hr1_1
 have HC1_1 := am hc1_1
 clear hr1_1 hc1_1
 have HB := am (Below.refl w.heap.size w)
 have H : ((spec_ContractFault.f k a1_0 l1_1).bind fun t337 => (if t337 = 0 then (spec_l2Can.l0 k 0 l0_0 a1_0 l1_1) else (some t337))) = some r := h
 clear h
 replace H := ob H
 obtain ⟨t337, A30, H⟩ := H
 replace H : (if t337 = 0 then (spec_l2Can.l0 k 0 l0_0 a1_0 l1_1) else (some t337)) = some r := H
 have A3 := am A30
 clear A30
 by_cases c4 : t337 = 0
 ·rw [if_pos c4] at H
  have c4b0 : (t337 == 0) = true := beq_iff_eq.mpr c4
  have c4b1 : (t337 != 0) = false := bne_eq_false_iff_eq.mpr c4
  clear c4
  have H' := am H
  clear H
  go_enter Try.func64, Try.ntmps64
  go_wp2_with (first | ((with_reducible refine gate_dst (N := 2) rfl ?_); refine q_box (N := 2) (cs := #[.slice A0_0 l0_0.length c0_0]) (t := 26) ?_; intro gb335 hg w5 hbox hb; have n0_ := am (below_step bq hb); have n1_ := am (hbox); have n2_ := am ((q_g hg bq : w.heap.size ≤ gb335)); have n3_ := n2_; revert n0_ n1_ n2_ n3_; clear HB; intro HB BK335 GW335 GE335; clear hb hbox hg) | ((with_reducible refine gate_dst (N := 3) rfl ?_); refine q_box (N := 3) (cs := #[.int .i64 a1_0, .slice A1_1 l1_1.length c1_1]) (t := 40) ?_; intro gb336 hg w6 hbox hb; have n0_ := am (blk_below (q_b BK335.out) hb); have n1_ := am (below_step bq hb); have n2_ := am (hbox); have n3_ := am ((q_g hg bq : w.heap.size ≤ gb336)); have n4_ := n3_; have n5_ := am ((q_n hg (q_b BK335.out) : gb335 ≠ gb336)); have n6_ := am n5_.out.symm; revert n0_ n1_ n2_ n3_ n4_ n5_ n6_; clear BK335 HB; intro BK335 HB BK336 GW336 GE336 NB335_336 NB336_335; clear hb hbox hg; have hnb7 := NB336_335.out; have hnc7 := NB335_336.out; obtain ⟨hcz8_0, hcz8_1, hfz8_0, hfz8_1⟩ := q_2 BK336.out) | (go_at_call 105; (with_reducible refine (spec_ContractFault.calls k a1_0 _ _ l1_1 t337 _ ?side1 ?side2 A3.out).mono ?_); (case side1 => exact q_c ((Kd.C_below HR1_1.out HB.out))); (case side2 => exact HC1_1.out); rintro e w9 ⟨rfl, hb⟩; have n0_ := am (blk_below (q_b BK335.out) hb); have n1_ := am (blk_below (q_b BK336.out) hb); have n2_ := am (below_step bq hb); revert n0_ n1_ n2_; clear BK335 BK336 HB; intro BK335 BK336 HB; (try clear hb); (try clear hb2); (try clear hk); (try clear hi)))
  repeat (go_quiet (first | ((with_reducible refine gate_dst (N := 2) rfl ?_); refine q_box (N := 2) (cs := #[.slice A0_0 l0_0.length c0_0]) (t := 26) ?_; intro gb335 hg w5 hbox hb; have n0_ := am (below_step bq hb); have n1_ := am (hbox); have n2_ := am ((q_g hg bq : w.heap.size ≤ gb335)); have n3_ := n2_; revert n0_ n1_ n2_ n3_; clear HB; intro HB BK335 GW335 GE335; clear hb hbox hg) | ((with_reducible refine gate_dst (N := 3) rfl ?_); refine q_box (N := 3) (cs := #[.int .i64 a1_0, .slice A1_1 l1_1.length c1_1]) (t := 40) ?_; intro gb336 hg w6 hbox hb; have n0_ := am (blk_below (q_b BK335.out) hb); have n1_ := am (below_step bq hb); have n2_ := am (hbox); have n3_ := am ((q_g hg bq : w.heap.size ≤ gb336)); have n4_ := n3_; have n5_ := am ((q_n hg (q_b BK335.out) : gb335 ≠ gb336)); have n6_ := am n5_.out.symm; revert n0_ n1_ n2_ n3_ n4_ n5_ n6_; clear BK335 HB; intro BK335 HB BK336 GW336 GE336 NB335_336 NB336_335; clear hb hbox hg; have hnb7 := NB336_335.out; have hnc7 := NB335_336.out; obtain ⟨hcz8_0, hcz8_1, hfz8_0, hfz8_1⟩ := q_2 BK336.out) | (go_at_call 105; (with_reducible refine (spec_ContractFault.calls k a1_0 _ _ l1_1 t337 _ ?side1 ?side2 A3.out).mono ?_); (case side1 => exact q_c ((Kd.C_below HR1_1.out HB.out))); (case side2 => exact HC1_1.out); rintro e w9 ⟨rfl, hb⟩; have n0_ := am (blk_below (q_b BK335.out) hb); have n1_ := am (blk_below (q_b BK336.out) hb); have n2_ := am (below_step bq hb); revert n0_ n1_ n2_; clear BK335 BK336 HB; intro BK335 BK336 HB; (try clear hb); (try clear hb2); (try clear hk); (try clear hi))); try go_wp2_with (first | ((with_reducible refine gate_dst (N := 2) rfl ?_); refine q_box (N := 2) (cs := #[.slice A0_0 l0_0.length c0_0]) (t := 26) ?_; intro gb335 hg w5 hbox hb; have n0_ := am (below_step bq hb); have n1_ := am (hbox); have n2_ := am ((q_g hg bq : w.heap.size ≤ gb335)); have n3_ := n2_; revert n0_ n1_ n2_ n3_; clear HB; intro HB BK335 GW335 GE335; clear hb hbox hg) | ((with_reducible refine gate_dst (N := 3) rfl ?_); refine q_box (N := 3) (cs := #[.int .i64 a1_0, .slice A1_1 l1_1.length c1_1]) (t := 40) ?_; intro gb336 hg w6 hbox hb; have n0_ := am (blk_below (q_b BK335.out) hb); have n1_ := am (below_step bq hb); have n2_ := am (hbox); have n3_ := am ((q_g hg bq : w.heap.size ≤ gb336)); have n4_ := n3_; have n5_ := am ((q_n hg (q_b BK335.out) : gb335 ≠ gb336)); have n6_ := am n5_.out.symm; revert n0_ n1_ n2_ n3_ n4_ n5_ n6_; clear BK335 HB; intro BK335 HB BK336 GW336 GE336 NB335_336 NB336_335; clear hb hbox hg; have hnb7 := NB336_335.out; have hnc7 := NB335_336.out; obtain ⟨hcz8_0, hcz8_1, hfz8_0, hfz8_1⟩ := q_2 BK336.out) | (go_at_call 105; (with_reducible refine (spec_ContractFault.calls k a1_0 _ _ l1_1 t337 _ ?side1 ?side2 A3.out).mono ?_); (case side1 => exact q_c ((Kd.C_below HR1_1.out HB.out))); (case side2 => exact HC1_1.out); rintro e w9 ⟨rfl, hb⟩; have n0_ := am (blk_below (q_b BK335.out) hb); have n1_ := am (blk_below (q_b BK336.out) hb); have n2_ := am (below_step bq hb); revert n0_ n1_ n2_; clear BK335 BK336 HB; intro BK335 BK336 HB; (try clear hb); (try clear hb2); (try clear hk); (try clear hi))))
  go_loopg [6] k (fun kq v6 w' => ∃ (x6_1 : Int), v6 = .int .i64 x6_1 ∧ Aside0 (spec_l2Can.l0 kq x6_1 l0_0 a1_0 l1_1 = some r) ∧ Aside0 (kq ≤ k) ∧ Aside0 (w'.heap[gb335]? = some (.cells #[(.slice A0_0 l0_0.length c0_0)] 26 (0, 0))) ∧ Aside0 (w'.heap[gb336]? = some (.cells #[.int .i64 a1_0, (.slice A1_1 l1_1.length c1_1)] 40 (0, 0))) ∧ Aside0 (Below w.heap.size w w'))
  case atStart => exact ⟨(0), q_i, H', ⟨Nat.le_refl _⟩, ⟨q_b BK335.out⟩, ⟨q_b BK336.out⟩, ⟨bq⟩⟩
  case round =>
   clear H'
   (try clear c1); (try clear p2); (try clear c4); (try clear c4b0); (try clear c4b1); (try clear c6); (try clear c7); (try clear hcz8_0); (try clear hcz8_1); (try clear hfz8_0); (try clear hfz8_1)
   obtain ⟨x6_1, rfl, HA, HK1, BK335, BK336, HB⟩ := hrel
   cases gk with
   | zero => exact absurd HA.out (by simp [spec_l2Can.l0])
   | succ k1 =>
    have H := HA.out
    clear HA
    simp only [spec_l2Can.l0] at H
    by_cases c10 : x6_1 < (l1_1.length : Int)
    ·rw [if_pos c10] at H
     have c10b0 := decide_eq_true c10
     clear c10
     by_cases c11 : 0 ≤ x6_1
     ·rw [if_pos c11] at H
      have c11b0 := decide_eq_true c11
      clear c11
      by_cases c12 : ((rd_T86 l1_1 x6_1).f0) ≥ (l0_0.length : Int)
      ·rw [if_pos c12] at H
       have c12b0 := decide_eq_true c12
       clear c12
       obtain rfl := Option.some.inj H
       have hnb13 := NB336_335.out
       have hnc13 := NB335_336.out
       obtain ⟨hcz14_0, hcz14_1, hfz14_0, hfz14_1⟩ := q_2 BK336.out
       have p338 : 0 ≤ (x6_1 : Int) := q_d
       have q338 : x6_1 < (l1_1.length : Int) := q_d
       obtain ⟨ad338, e338, hx338_0, hx338_1, hx338_2, hx338_3⟩ := at_T86 HR1_1.out x6_1 p338 q338
       cases e338
       replace hx338_0 := q_x HB.out hx338_0
       replace hx338_1 := q_x HB.out hx338_1
       replace hx338_2 := q_x HB.out hx338_2
       replace hx338_3 := q_x HB.out hx338_3
       replace p338 := eq_true p338
       replace q338 := eq_true q338
       obtain ⟨hcz15_0, hfz15_0⟩ := q_1 BK335.out
       go_wp2
       repeat (go_quiet (fail); try go_wp2)
       go_ret
       exact ⟨q_e, bq⟩
      ·rw [if_neg c12] at H
       have c12b0 := decide_eq_false c12
       clear c12
       have H' := am H
       clear H
       have hnb16 := NB336_335.out
       have hnc16 := NB335_336.out
       obtain ⟨hcz17_0, hcz17_1, hfz17_0, hfz17_1⟩ := q_2 BK336.out
       have p338 : 0 ≤ (x6_1 : Int) := q_d
       have q338 : x6_1 < (l1_1.length : Int) := q_d
       obtain ⟨ad338, e338, hx338_0, hx338_1, hx338_2, hx338_3⟩ := at_T86 HR1_1.out x6_1 p338 q338
       cases e338
       replace hx338_0 := q_x HB.out hx338_0
       replace hx338_1 := q_x HB.out hx338_1
       replace hx338_2 := q_x HB.out hx338_2
       replace hx338_3 := q_x HB.out hx338_3
       replace p338 := eq_true p338
       replace q338 := eq_true q338
       obtain ⟨hcz18_0, hfz18_0⟩ := q_1 BK335.out
       go_wp2
       repeat (go_quiet (fail); try go_wp2)
       go_roundg k1
       case measure => have := HK1.out; omega
       case rel => exact ⟨(wrap64 (x6_1 + 1)), q_i, H', ⟨by have := HK1.out; omega⟩, ⟨q_b BK335.out⟩, ⟨q_b BK336.out⟩, ⟨bq⟩⟩
     ·rw [if_neg c11] at H
      exact absurd H (by simp)
    ·rw [if_neg c10] at H
     have c10b0 := decide_eq_false c10
     clear c10
     have H' := am H
     clear H
     have hnb19 := NB336_335.out
     have hnc19 := NB335_336.out
     obtain ⟨hcz20_0, hcz20_1, hfz20_0, hfz20_1⟩ := q_2 BK336.out
     go_wp2
     repeat (go_quiet (fail); try go_wp2)
     go_loopg [7] k1 (fun kq v7 w' => ∃ (x7_2 : Int), v7 = .int .i64 x7_2 ∧ Aside0 (spec_l2Can.l1 kq x7_2 l0_0 a1_0 l1_1 = some r) ∧ Aside0 (kq ≤ k1) ∧ Aside0 (w'.heap[gb335]? = some (.cells #[(.slice A0_0 l0_0.length c0_0)] 26 (0, 0))) ∧ Aside0 (w'.heap[gb336]? = some (.cells #[.int .i64 a1_0, (.slice A1_1 l1_1.length c1_1)] 40 (0, 0))) ∧ Aside0 (Below w.heap.size w w'))
     case atStart => exact ⟨(0), q_i, H', ⟨Nat.le_refl _⟩, ⟨q_b BK335.out⟩, ⟨q_b BK336.out⟩, ⟨bq⟩⟩
     case round =>
      clear H'
      (try clear c1); (try clear p2); (try clear p3); (try clear q3); (try clear hx3); (try clear c4); (try clear c4b0); (try clear c4b1); (try clear c6); (try clear p6); (try clear c7); (try clear c10)
      (try clear c10b0); (try clear c11); (try clear c11b0); (try clear c12); (try clear c12b0); (try clear c13); (try clear c16); (try clear c19); (try clear hcz14_0); (try clear hcz14_1); (try clear hcz15_0)
      (try clear hcz17_0); (try clear hcz17_1); (try clear hcz18_0); (try clear hcz20_0); (try clear hcz20_1); (try clear hcz8_0); (try clear hcz8_1); (try clear hfz14_0); (try clear hfz14_1); (try clear hfz15_0)
      (try clear hfz17_0); (try clear hfz17_1); (try clear hfz18_0); (try clear hfz20_0); (try clear hfz20_1); (try clear hfz8_0); (try clear hfz8_1); (try clear hx338_0); (try clear hx338_1); (try clear hx338_2)
      (try clear hx338_3); (try clear p2); (try clear p338); (try clear q338)
      obtain ⟨x7_2, rfl, HA, HK2, BK335, BK336, HB⟩ := hrel
      cases gk with
      | zero => exact absurd HA.out (by simp [spec_l2Can.l1])
      | succ k2 =>
       have H := HA.out
       clear HA
       simp only [spec_l2Can.l1] at H
       by_cases c21 : x7_2 < (l1_1.length : Int)
       ·rw [if_pos c21] at H
        have c21b0 := decide_eq_true c21
        clear c21
        by_cases c22 : 0 ≤ x7_2
        ·rw [if_pos c22] at H
         have c22b0 := decide_eq_true c22
         clear c22
         by_cases c23 : 0 ≤ ((rd_T86 l1_1 x7_2).f0)
         ·rw [if_pos c23] at H
          have c23b0 := decide_eq_true c23
          clear c23
          by_cases c24 : ((rd_T86 l1_1 x7_2).f0) < (l0_0.length : Int)
          ·rw [if_pos c24] at H
           have c24b0 := decide_eq_true c24
           clear c24
           have c25b0 := eq_true (q_d : 0 ≤ x7_2)
           by_cases c26 : x7_2 ≤ (wrap64 (x7_2 + 1))
           ·rw [if_pos c26] at H
            have c26b0 := eq_true c26
            have c26b1 := decide_eq_true c26
            by_cases c27 : (wrap64 (x7_2 + 1)) ≤ (l1_1.length : Int)
            ·rw [if_pos c27] at H
             have c27b0 := eq_true c27
             have c27b1 := decide_eq_true c27
             obtain ⟨y341, hy341⟩ : ∃ y_ : List (S86), y_ = ((l1_1.take ((wrap64 (x7_2 + 1)) : Int).toNat).drop (x7_2 : Int).toNat) := ⟨_, rfl⟩
             replace H : ((spec_l2Legs.f k2 (rd_L2 l0_0 ((rd_T86 l1_1 x7_2).f0)) y341).bind fun t345 => (if t345 = 0 then (spec_l2Can.l1 k2 (wrap64 (x7_2 + 1)) l0_0 a1_0 l1_1) else (some t345))) = some r := q_h hy341 H
             have Ny341 := am hy341
             clear hy341
             replace H := ob H
             obtain ⟨t345, A280, H⟩ := H
             replace H : (if t345 = 0 then (spec_l2Can.l1 k2 (wrap64 (x7_2 + 1)) l0_0 a1_0 l1_1) else (some t345)) = some r := H
             have A28 := am A280
             clear A280
             by_cases c29 : t345 = 0
             ·rw [if_pos c29] at H
              have c29b0 : (t345 == 0) = true := beq_iff_eq.mpr c29
              have c29b1 : (t345 != 0) = false := bne_eq_false_iff_eq.mpr c29
              clear c29
              have H' := am H
              clear H
              have hnb30 := NB336_335.out
              have hnc30 := NB335_336.out
              obtain ⟨hcz31_0, hcz31_1, hfz31_0, hfz31_1⟩ := q_2 BK336.out
              obtain ⟨hcz32_0, hfz32_0⟩ := q_1 BK335.out
              have p339 : 0 ≤ (x7_2 : Int) := q_d
              have q339 : x7_2 < (l1_1.length : Int) := q_d
              obtain ⟨ad339, e339, hx339_0, hx339_1, hx339_2, hx339_3⟩ := at_T86 HR1_1.out x7_2 p339 q339
              cases e339
              replace hx339_0 := q_x HB.out hx339_0
              replace hx339_1 := q_x HB.out hx339_1
              replace hx339_2 := q_x HB.out hx339_2
              replace hx339_3 := q_x HB.out hx339_3
              replace p339 := eq_true p339
              replace q339 := eq_true q339
              have p340 : 0 ≤ (((rd_T86 l1_1 x7_2).f0) : Int) := q_d
              have q340 : ((rd_T86 l1_1 x7_2).f0) < (l0_0.length : Int) := q_d
              obtain ⟨ad340, A340_0, c340_0, e340, hx340_0, hl340_0, hi340_0⟩ := at_L2 HR0_0.out ((rd_T86 l1_1 x7_2).f0) p340 q340
              cases e340
              replace hx340_0 := q_x HB.out hx340_0
              have HR340_0 := am hi340_0
              have HC340_0 := am hl340_0
              clear hi340_0 hl340_0
              replace p340 := eq_true p340
              replace q340 := eq_true q340
              have q33 : ((wrap64 (x7_2 + 1)) : Int) ≤ ((l1_1.length : Int) : Int) := q_d
              obtain ⟨i033, hi033, _, hsz33, _⟩ := info_parts info86
              have hroom33 : l1_1.length ≤ c1_1 := HC1_1.out
              have hC33 : Kd.C k86 _ (some ad339) l1_1.length l1_1 := HR1_1.out
              have ql33 : (x7_2 : Int) ≤ ((wrap64 (x7_2 + 1)) : Int) := q_d
              have q033 : (0 : Int) ≤ (x7_2 : Int) := q_d
              have hcut33 := cut_mid (P := Try.prog) 38 86 .i64 .i64 Try.underlying38 hi033 4 hsz33 (some ad339) l1_1.length c1_1 x7_2 (wrap64 (x7_2 + 1)) q033 ql33 q33 hroom33
              have hr33 := Kd.C_mid (lo := (x7_2 : Int).toNat) (hi := ((wrap64 (x7_2 + 1)) : Int).toNat) (c := c1_1) hC33 (by omega) (by omega) hroom33
              obtain ⟨A33, hA33⟩ : ∃ A1, A1 = (if c1_1 = (x7_2 : Int).toNat then (some ad339) else ((some ad339) : Option Addr).map (·.add ((x7_2 : Int).toNat * 4))) := ⟨_, rfl⟩
              obtain ⟨c33, hc33⟩ : ∃ c1, c1 = c1_1 - (x7_2 : Int).toNat := ⟨_, rfl⟩
              have hy33 : y341.length = ((wrap64 (x7_2 + 1)) : Int).toNat - (x7_2 : Int).toNat := (by rw [Ny341.out, List.length_drop, List.length_take] <;> omega)
              rw [show ((l1_1).take ((wrap64 (x7_2 + 1)) : Int).toNat).drop (x7_2 : Int).toNat = y341 from Ny341.out.symm] at hr33
              replace hr33 : Kd.C k86 _ A33 y341.length y341 := (by rw [hA33]; exact hr33)
              rw [← hy33, ← hA33, ← hc33] at hcut33
              have HR344 := am hr33
              have HC344 := am (show y341.length ≤ c33 from by rw [hy33, hc33]; exact Nat.sub_le_sub_right (Nat.le_trans (by omega) hroom33) _)
              clear hr33 hC33 hroom33 hi033 hsz33 hc33
              have KY33 := am hy33
              have KA33 := am hA33
              clear hy33 hA33
              replace q33 := eq_true q33
              go_wp2_with (first | (go_at_call 106; (with_reducible refine (spec_l2Legs.calls k2 _ _ (rd_L2 l0_0 ((rd_T86 l1_1 x7_2).f0)) _ _ y341 t345 _ ?side1 ?side2 ?side3 ?side4 A28.out).mono ?_); (case side1 => exact q_c ((Kd.C_below HR340_0.out HB.out))); (case side2 => exact HC340_0.out); (case side3 => exact q_c ((Kd.C_below HR344.out HB.out))); (case side4 => exact HC344.out); rintro e w' ⟨rfl, ⟨nd, rfl⟩⟩; (try first | exact ⟨rfl, _, World.drewN_drewN _ _ _⟩ | exact ⟨rfl, _, Eq.trans (World.drewN_drewN _ _ _) (congrArg (World.drewN _) (Nat.add_assoc _ _ _))⟩)))
              repeat (go_quiet (first | (go_at_call 106; (with_reducible refine (spec_l2Legs.calls k2 _ _ (rd_L2 l0_0 ((rd_T86 l1_1 x7_2).f0)) _ _ y341 t345 _ ?side1 ?side2 ?side3 ?side4 A28.out).mono ?_); (case side1 => exact q_c ((Kd.C_below HR340_0.out HB.out))); (case side2 => exact HC340_0.out); (case side3 => exact q_c ((Kd.C_below HR344.out HB.out))); (case side4 => exact HC344.out); rintro e w' ⟨rfl, ⟨nd, rfl⟩⟩; (try first | exact ⟨rfl, _, World.drewN_drewN _ _ _⟩ | exact ⟨rfl, _, Eq.trans (World.drewN_drewN _ _ _) (congrArg (World.drewN _) (Nat.add_assoc _ _ _))⟩))); try go_wp2_with (first | (go_at_call 106; (with_reducible refine (spec_l2Legs.calls k2 _ _ (rd_L2 l0_0 ((rd_T86 l1_1 x7_2).f0)) _ _ y341 t345 _ ?side1 ?side2 ?side3 ?side4 A28.out).mono ?_); (case side1 => exact q_c ((Kd.C_below HR340_0.out HB.out))); (case side2 => exact HC340_0.out); (case side3 => exact q_c ((Kd.C_below HR344.out HB.out))); (case side4 => exact HC344.out); rintro e w' ⟨rfl, ⟨nd, rfl⟩⟩; (try first | exact ⟨rfl, _, World.drewN_drewN _ _ _⟩ | exact ⟨rfl, _, Eq.trans (World.drewN_drewN _ _ _) (congrArg (World.drewN _) (Nat.add_assoc _ _ _))⟩))))
              go_roundg k2
              case measure => have := HK1.out; have := HK2.out; omega
              case rel => exact ⟨(wrap64 (x7_2 + 1)), q_i, H', ⟨by have := HK1.out; have := HK2.out; omega⟩, ⟨q_b BK335.out⟩, ⟨q_b BK336.out⟩, ⟨bq⟩⟩
             ·rw [if_neg c29] at H
              have c29b0 : (t345 == 0) = false := beq_eq_false_iff_ne.mpr c29
              have c29b1 : (t345 != 0) = true := bne_iff_ne.mpr c29
              obtain rfl := Option.some.inj H
              have hnb34 := NB336_335.out
              have hnc34 := NB335_336.out
              obtain ⟨hcz35_0, hcz35_1, hfz35_0, hfz35_1⟩ := q_2 BK336.out
              obtain ⟨hcz36_0, hfz36_0⟩ := q_1 BK335.out
              have p339 : 0 ≤ (x7_2 : Int) := q_d
              have q339 : x7_2 < (l1_1.length : Int) := q_d
              obtain ⟨ad339, e339, hx339_0, hx339_1, hx339_2, hx339_3⟩ := at_T86 HR1_1.out x7_2 p339 q339
              cases e339
              replace hx339_0 := q_x HB.out hx339_0
              replace hx339_1 := q_x HB.out hx339_1
              replace hx339_2 := q_x HB.out hx339_2
              replace hx339_3 := q_x HB.out hx339_3
              replace p339 := eq_true p339
              replace q339 := eq_true q339
              have p340 : 0 ≤ (((rd_T86 l1_1 x7_2).f0) : Int) := q_d
              have q340 : ((rd_T86 l1_1 x7_2).f0) < (l0_0.length : Int) := q_d
              obtain ⟨ad340, A340_0, c340_0, e340, hx340_0, hl340_0, hi340_0⟩ := at_L2 HR0_0.out ((rd_T86 l1_1 x7_2).f0) p340 q340
              cases e340
              replace hx340_0 := q_x HB.out hx340_0
              have HR340_0 := am hi340_0
              have HC340_0 := am hl340_0
              clear hi340_0 hl340_0
              replace p340 := eq_true p340
              replace q340 := eq_true q340
              have q37 : ((wrap64 (x7_2 + 1)) : Int) ≤ ((l1_1.length : Int) : Int) := q_d
              obtain ⟨i037, hi037, _, hsz37, _⟩ := info_parts info86
              have hroom37 : l1_1.length ≤ c1_1 := HC1_1.out
              have hC37 : Kd.C k86 _ (some ad339) l1_1.length l1_1 := HR1_1.out
              have ql37 : (x7_2 : Int) ≤ ((wrap64 (x7_2 + 1)) : Int) := q_d
              have q037 : (0 : Int) ≤ (x7_2 : Int) := q_d
              have hcut37 := cut_mid (P := Try.prog) 38 86 .i64 .i64 Try.underlying38 hi037 4 hsz37 (some ad339) l1_1.length c1_1 x7_2 (wrap64 (x7_2 + 1)) q037 ql37 q37 hroom37
              have hr37 := Kd.C_mid (lo := (x7_2 : Int).toNat) (hi := ((wrap64 (x7_2 + 1)) : Int).toNat) (c := c1_1) hC37 (by omega) (by omega) hroom37
              obtain ⟨A37, hA37⟩ : ∃ A1, A1 = (if c1_1 = (x7_2 : Int).toNat then (some ad339) else ((some ad339) : Option Addr).map (·.add ((x7_2 : Int).toNat * 4))) := ⟨_, rfl⟩
              obtain ⟨c37, hc37⟩ : ∃ c1, c1 = c1_1 - (x7_2 : Int).toNat := ⟨_, rfl⟩
              have hy37 : y341.length = ((wrap64 (x7_2 + 1)) : Int).toNat - (x7_2 : Int).toNat := (by rw [Ny341.out, List.length_drop, List.length_take] <;> omega)
              rw [show ((l1_1).take ((wrap64 (x7_2 + 1)) : Int).toNat).drop (x7_2 : Int).toNat = y341 from Ny341.out.symm] at hr37
              replace hr37 : Kd.C k86 _ A37 y341.length y341 := (by rw [hA37]; exact hr37)
              rw [← hy37, ← hA37, ← hc37] at hcut37
              have HR344 := am hr37
              have HC344 := am (show y341.length ≤ c37 from by rw [hy37, hc37]; exact Nat.sub_le_sub_right (Nat.le_trans (by omega) hroom37) _)
              clear hr37 hC37 hroom37 hi037 hsz37 hc37
              have KY37 := am hy37
              have KA37 := am hA37
              clear hy37 hA37
              replace q37 := eq_true q37
              go_wp2_with (first | (go_at_call 106; (with_reducible refine (spec_l2Legs.calls k2 _ _ (rd_L2 l0_0 ((rd_T86 l1_1 x7_2).f0)) _ _ y341 t345 _ ?side1 ?side2 ?side3 ?side4 A28.out).mono ?_); (case side1 => exact q_c ((Kd.C_below HR340_0.out HB.out))); (case side2 => exact HC340_0.out); (case side3 => exact q_c ((Kd.C_below HR344.out HB.out))); (case side4 => exact HC344.out); rintro e w' ⟨rfl, ⟨nd, rfl⟩⟩; (try first | exact ⟨rfl, _, World.drewN_drewN _ _ _⟩ | exact ⟨rfl, _, Eq.trans (World.drewN_drewN _ _ _) (congrArg (World.drewN _) (Nat.add_assoc _ _ _))⟩)))
              repeat (go_quiet (first | (go_at_call 106; (with_reducible refine (spec_l2Legs.calls k2 _ _ (rd_L2 l0_0 ((rd_T86 l1_1 x7_2).f0)) _ _ y341 t345 _ ?side1 ?side2 ?side3 ?side4 A28.out).mono ?_); (case side1 => exact q_c ((Kd.C_below HR340_0.out HB.out))); (case side2 => exact HC340_0.out); (case side3 => exact q_c ((Kd.C_below HR344.out HB.out))); (case side4 => exact HC344.out); rintro e w' ⟨rfl, ⟨nd, rfl⟩⟩; (try first | exact ⟨rfl, _, World.drewN_drewN _ _ _⟩ | exact ⟨rfl, _, Eq.trans (World.drewN_drewN _ _ _) (congrArg (World.drewN _) (Nat.add_assoc _ _ _))⟩))); try go_wp2_with (first | (go_at_call 106; (with_reducible refine (spec_l2Legs.calls k2 _ _ (rd_L2 l0_0 ((rd_T86 l1_1 x7_2).f0)) _ _ y341 t345 _ ?side1 ?side2 ?side3 ?side4 A28.out).mono ?_); (case side1 => exact q_c ((Kd.C_below HR340_0.out HB.out))); (case side2 => exact HC340_0.out); (case side3 => exact q_c ((Kd.C_below HR344.out HB.out))); (case side4 => exact HC344.out); rintro e w' ⟨rfl, ⟨nd, rfl⟩⟩; (try first | exact ⟨rfl, _, World.drewN_drewN _ _ _⟩ | exact ⟨rfl, _, Eq.trans (World.drewN_drewN _ _ _) (congrArg (World.drewN _) (Nat.add_assoc _ _ _))⟩))))
              go_ret
              exact ⟨q_e, bq⟩
            ·rw [if_neg c27] at H
             exact absurd H (by simp)
           ·rw [if_neg c26] at H
            exact absurd H (by simp)
          ·rw [if_neg c24] at H
           exact absurd H (by simp)
         ·rw [if_neg c23] at H
          exact absurd H (by simp)
        ·rw [if_neg c22] at H
         exact absurd H (by simp)
       ·rw [if_neg c21] at H
        have c21b0 := decide_eq_false c21
        clear c21
        obtain rfl := Option.some.inj H
        have hnb38 := NB336_335.out
        have hnc38 := NB335_336.out
        obtain ⟨hcz39_0, hcz39_1, hfz39_0, hfz39_1⟩ := q_2 BK336.out
        go_wp2
        repeat (go_quiet (fail); try go_wp2)
        go_ret
        exact ⟨q_e, bq⟩
 ·rw [if_neg c4] at H
  have c4b0 : (t337 == 0) = false := beq_eq_false_iff_ne.mpr c4
  have c4b1 : (t337 != 0) = true := bne_iff_ne.mpr c4
  obtain rfl := Option.some.inj H
  go_enter Try.func64, Try.ntmps64
  go_wp2_with (first | ((with_reducible refine gate_dst (N := 2) rfl ?_); refine q_box (N := 2) (cs := #[.slice A0_0 l0_0.length c0_0]) (t := 26) ?_; intro gb335 hg w40 hbox hb; have n0_ := am (below_step bq hb); have n1_ := am (hbox); have n2_ := am ((q_g hg bq : w.heap.size ≤ gb335)); have n3_ := n2_; revert n0_ n1_ n2_ n3_; clear HB; intro HB BK335 GW335 GE335; clear hb hbox hg) | ((with_reducible refine gate_dst (N := 3) rfl ?_); refine q_box (N := 3) (cs := #[.int .i64 a1_0, .slice A1_1 l1_1.length c1_1]) (t := 40) ?_; intro gb336 hg w41 hbox hb; have n0_ := am (blk_below (q_b BK335.out) hb); have n1_ := am (below_step bq hb); have n2_ := am (hbox); have n3_ := am ((q_g hg bq : w.heap.size ≤ gb336)); have n4_ := n3_; have n5_ := am ((q_n hg (q_b BK335.out) : gb335 ≠ gb336)); have n6_ := am n5_.out.symm; revert n0_ n1_ n2_ n3_ n4_ n5_ n6_; clear BK335 HB; intro BK335 HB BK336 GW336 GE336 NB335_336 NB336_335; clear hb hbox hg; have hnb42 := NB336_335.out; have hnc42 := NB335_336.out; obtain ⟨hcz43_0, hcz43_1, hfz43_0, hfz43_1⟩ := q_2 BK336.out) | (go_at_call 105; (with_reducible refine (spec_ContractFault.calls k a1_0 _ _ l1_1 t337 _ ?side1 ?side2 A3.out).mono ?_); (case side1 => exact q_c ((Kd.C_below HR1_1.out HB.out))); (case side2 => exact HC1_1.out); rintro e w44 ⟨rfl, hb⟩; have n0_ := am (blk_below (q_b BK335.out) hb); have n1_ := am (blk_below (q_b BK336.out) hb); have n2_ := am (below_step bq hb); revert n0_ n1_ n2_; clear BK335 BK336 HB; intro BK335 BK336 HB; (try clear hb); (try clear hb2); (try clear hk); (try clear hi)))
  repeat (go_quiet (first | ((with_reducible refine gate_dst (N := 2) rfl ?_); refine q_box (N := 2) (cs := #[.slice A0_0 l0_0.length c0_0]) (t := 26) ?_; intro gb335 hg w40 hbox hb; have n0_ := am (below_step bq hb); have n1_ := am (hbox); have n2_ := am ((q_g hg bq : w.heap.size ≤ gb335)); have n3_ := n2_; revert n0_ n1_ n2_ n3_; clear HB; intro HB BK335 GW335 GE335; clear hb hbox hg) | ((with_reducible refine gate_dst (N := 3) rfl ?_); refine q_box (N := 3) (cs := #[.int .i64 a1_0, .slice A1_1 l1_1.length c1_1]) (t := 40) ?_; intro gb336 hg w41 hbox hb; have n0_ := am (blk_below (q_b BK335.out) hb); have n1_ := am (below_step bq hb); have n2_ := am (hbox); have n3_ := am ((q_g hg bq : w.heap.size ≤ gb336)); have n4_ := n3_; have n5_ := am ((q_n hg (q_b BK335.out) : gb335 ≠ gb336)); have n6_ := am n5_.out.symm; revert n0_ n1_ n2_ n3_ n4_ n5_ n6_; clear BK335 HB; intro BK335 HB BK336 GW336 GE336 NB335_336 NB336_335; clear hb hbox hg; have hnb42 := NB336_335.out; have hnc42 := NB335_336.out; obtain ⟨hcz43_0, hcz43_1, hfz43_0, hfz43_1⟩ := q_2 BK336.out) | (go_at_call 105; (with_reducible refine (spec_ContractFault.calls k a1_0 _ _ l1_1 t337 _ ?side1 ?side2 A3.out).mono ?_); (case side1 => exact q_c ((Kd.C_below HR1_1.out HB.out))); (case side2 => exact HC1_1.out); rintro e w44 ⟨rfl, hb⟩; have n0_ := am (blk_below (q_b BK335.out) hb); have n1_ := am (blk_below (q_b BK336.out) hb); have n2_ := am (below_step bq hb); revert n0_ n1_ n2_; clear BK335 BK336 HB; intro BK335 BK336 HB; (try clear hb); (try clear hb2); (try clear hk); (try clear hi))); try go_wp2_with (first | ((with_reducible refine gate_dst (N := 2) rfl ?_); refine q_box (N := 2) (cs := #[.slice A0_0 l0_0.length c0_0]) (t := 26) ?_; intro gb335 hg w40 hbox hb; have n0_ := am (below_step bq hb); have n1_ := am (hbox); have n2_ := am ((q_g hg bq : w.heap.size ≤ gb335)); have n3_ := n2_; revert n0_ n1_ n2_ n3_; clear HB; intro HB BK335 GW335 GE335; clear hb hbox hg) | ((with_reducible refine gate_dst (N := 3) rfl ?_); refine q_box (N := 3) (cs := #[.int .i64 a1_0, .slice A1_1 l1_1.length c1_1]) (t := 40) ?_; intro gb336 hg w41 hbox hb; have n0_ := am (blk_below (q_b BK335.out) hb); have n1_ := am (below_step bq hb); have n2_ := am (hbox); have n3_ := am ((q_g hg bq : w.heap.size ≤ gb336)); have n4_ := n3_; have n5_ := am ((q_n hg (q_b BK335.out) : gb335 ≠ gb336)); have n6_ := am n5_.out.symm; revert n0_ n1_ n2_ n3_ n4_ n5_ n6_; clear BK335 HB; intro BK335 HB BK336 GW336 GE336 NB335_336 NB336_335; clear hb hbox hg; have hnb42 := NB336_335.out; have hnc42 := NB335_336.out; obtain ⟨hcz43_0, hcz43_1, hfz43_0, hfz43_1⟩ := q_2 BK336.out) | (go_at_call 105; (with_reducible refine (spec_ContractFault.calls k a1_0 _ _ l1_1 t337 _ ?side1 ?side2 A3.out).mono ?_); (case side1 => exact q_c ((Kd.C_below HR1_1.out HB.out))); (case side2 => exact HC1_1.out); rintro e w44 ⟨rfl, hb⟩; have n0_ := am (blk_below (q_b BK335.out) hb); have n1_ := am (blk_below (q_b BK336.out) hb); have n2_ := am (below_step bq hb); revert n0_ n1_ n2_; clear BK335 BK336 HB; intro BK335 BK336 HB; (try clear hb); (try clear hb2); (try clear hk); (try clear hi))))
  go_ret
  exact ⟨q_e, bq⟩

end Go.Proofs.Ytanegggacfmkcaa.PFnExactSettleAll
