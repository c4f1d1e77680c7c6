/- Functions that a law reaches, as plain Lean functions, with the proof that the machine comes to their answers. No conditions. -/
import Derived.Test.YtanegggacfmkcaaPFnExactSettleAllx0
import Derived.Test.YtanegggacfmkcaaPFnExactSettleAllx16
namespace Go.Proofs.Ytanegggacfmkcaa.PFnExactSettleAll
open Go.RowKit Go.Proofs.YtanegggacfmkcaaW.PrintWords Go.Proofs.YtanegggacfmkcaaW.PrintLast Go.Proofs.YtanegggacfmkcaaW.PrintMore
attribute [local go_sem] max2_int min2_int max_two min_two max_three min_three max_four min_four   -- for this text's walks alone
set_option linter.unusedVariables false
set_option linter.unusedSimpArgs false
set_option maxHeartbeats 8000000
set_option maxRecDepth 100000

/-! ### laws_eqBalanceSS: function 75 -/
def laws_eqBalanceSS.l0 : Nat → List (List (S104)) → List (List (S104)) → Int → Option (Bool)
  | 0, _, _, _ => none
  | k + 1, x0, x1, x5 => if x5 < (x0.length : Int) then (if 0 ≤ x5 then (if x5 < (x1.length : Int) then ((laws_eqBalanceS.f k (rd_L2 x0 x5) (rd_L2 x1 x5)).bind fun t401 => (if t401 = true then (laws_eqBalanceSS.l0 k x0 x1 (wrap64 (x5 + 1))) else (some false))) else (none)) else (none)) else (some true)
def laws_eqBalanceSS.f (k : Nat) (l0 : List (List (S104))) (l1 : List (List (S104))) : Option (Bool) := if (l0.length : Int) = (l1.length : Int) then (laws_eqBalanceSS.l0 k l0 l1 0) else (some false)
def laws_eqBalanceSS.T6 : Bool × List (List Nat × List Nat) := (true, [([], []), ([], []), ([0, 1], [0, 1]), ([2], [2]), ([], []), ([], []), ([4, 5], [4, 5]), ([6], [6]), ([3, 7], [3, 7]), ([8], [8])])
def laws_eqBalanceSS.B6 : List Nat := [0, 0, 3, 7, 0, 0, 48, 112, 255, 511]
theorem laws_eqBalanceSS.tab6 : rtab .any (opsOf Try.f75 6) = laws_eqBalanceSS.T6 := by kernel_rfl
theorem laws_eqBalanceSS.bits6 : waitsOk laws_eqBalanceSS.T6.2 laws_eqBalanceSS.B6 = true := by kernel_rfl
theorem laws_eqBalanceSS.calls (k : Nat) (A0 : Option Addr) (c0 : Nat) (l0 : List (List (S104))) (A1 : Option Addr) (c1 : Nat) (l1 : List (List (S104))) (r : Bool) (w : World) (hr0 : Kd.C (Kd.slice 104 k104) w A0 l0.length l0) (hc0 : l0.length ≤ c0) (hr1 : Kd.C (Kd.slice 104 k104) w A1 l1.length l1) (hc1 : l1.length ≤ c1) (h : laws_eqBalanceSS.f k l0 l1 = some r) :
  Calls Try.prog 75 #[.slice A0 l0.length c0, .slice A1 l1.length c1] w fun e w' => e = .returned (.bool r) ∧ Below w.heap.size w w' := by
 have HR0 := am hr0
 have HC0 := am hc0
 clear hr0 hc0
 have HR1 := am hr1
 have HC1 := am hc1
 clear hr1 hc1
 have HB := am (Below.refl w.heap.size w)
 have H : (if (l0.length : Int) = (l1.length : Int) then (laws_eqBalanceSS.l0 k l0 l1 0) else (some false)) = some r := h
 clear h
 by_cases c3 : (l0.length : Int) = (l1.length : Int)
 ·rw [if_pos c3] at H
  have c3b0 : ((l0.length : Int) == (l1.length : Int)) = true := beq_iff_eq.mpr c3
  have c3b1 : ((l0.length : Int) != (l1.length : Int)) = false := bne_eq_false_iff_eq.mpr c3
  have c3b2 : (l0.length == l1.length) = true := by first | simpa using c3 | (simp at c3 ⊢; omega)
  clear c3
  have H' := am H
  clear H
  go_enter Try.func75, Try.ntmps75
  go_wp2
  go_loopg [5] k (fun kq v5 w' => ∃ (x5_1 : Int), v5 = .int .i64 x5_1 ∧ Aside0 (laws_eqBalanceSS.l0 kq l0 l1 x5_1 = some r) ∧ Aside0 (kq ≤ k) ∧ Aside0 (Below w.heap.size w w'))
  case atStart => exact ⟨(0), q_i, H', ⟨Nat.le_refl _⟩, ⟨bq⟩⟩
  case round =>
   clear H'
   (try clear c1); (try clear p2); (try clear c3); (try clear c3b0); (try clear c3b1); (try clear c3b2)
   obtain ⟨x5_1, rfl, HA, HK1, HB⟩ := hrel
   cases gk with
   | zero => exact absurd HA.out (by simp [laws_eqBalanceSS.l0])
   | succ k1 =>
    have H := HA.out
    clear HA
    simp only [laws_eqBalanceSS.l0] at H
    by_cases c4 : x5_1 < (l0.length : Int)
    ·rw [if_pos c4] at H
     have c4b0 := decide_eq_true c4
     clear c4
     by_cases c5 : 0 ≤ x5_1
     ·rw [if_pos c5] at H
      have c5b0 := decide_eq_true c5
      clear c5
      by_cases c6 : x5_1 < (l1.length : Int)
      ·rw [if_pos c6] at H
       have c6b0 := decide_eq_true c6
       clear c6
       replace H := ob H
       obtain ⟨t401, A70, H⟩ := H
       replace H : (if t401 = true then (laws_eqBalanceSS.l0 k1 l0 l1 (wrap64 (x5_1 + 1))) else (some false)) = some r := H
       have A7 := am A70
       clear A70
       by_cases c8 : t401 = true
       ·subst c8
        have H1 : (laws_eqBalanceSS.l0 k1 l0 l1 (wrap64 (x5_1 + 1))) = some r := by rw [if_pos rfl] at H; exact H
        clear H
        have H := H1
        clear H1
        have H' := am H
        clear H
        try go_wp2
        have n0_ := am (below_drew1 HB.out)
        clear HB
        have HB := n0_
        clear n0_
        have p399 : 0 ≤ (x5_1 : Int) := q_d
        have q399 : x5_1 < (l0.length : Int) := q_d
        obtain ⟨ad399, A399_0, c399_0, e399, hx399_0, hl399_0, hi399_0⟩ := at_L2 HR0.out x5_1 p399 q399
        have hw399_0 := hx399_0
        cases e399
        replace hx399_0 := q_x HB.out hx399_0
        have HR399_0 := am hi399_0
        have HC399_0 := am hl399_0
        clear hi399_0 hl399_0
        replace p399 := eq_true p399
        replace q399 := eq_true q399
        have p400 : 0 ≤ (x5_1 : Int) := q_d
        have q400 : x5_1 < (l1.length : Int) := q_d
        obtain ⟨ad400, A400_0, c400_0, e400, hx400_0, hl400_0, hi400_0⟩ := at_L2 HR1.out x5_1 p400 q400
        have hw400_0 := hx400_0
        cases e400
        replace hx400_0 := q_x HB.out hx400_0
        have HR400_0 := am hi400_0
        have HC400_0 := am hl400_0
        clear hi400_0 hl400_0
        replace p400 := eq_true p400
        replace q400 := eq_true q400
        refine start_ (n := 10) (S := fun w' => w'.cell? (ad399.add (x5_1).toNat) = some (.slice A399_0 (rd_L2 l0 x5_1).length c399_0) ∧ w'.cell? (ad400.add (x5_1).toNat) = some (.slice A400_0 (rd_L2 l1 x5_1).length c400_0)) (ds := []) #[false, false, false, false, false, false, false, false, false, false] (by kernel_rfl) rfl rfl ⟨((HB.out.cell (wb hw399_0)).trans hw399_0), ((HB.out.cell (wb hw400_0)).trans hw400_0)⟩ (fun hHeld => ?_); refine with_tabW laws_eqBalanceSS.tab6 laws_eqBalanceSS.bits6 (fun HT_ HW_ => ?_)
        generalize wr.drew = w9 at HB HR399_0 HR400_0 hx399_0 hx400_0 hHeld ⊢
        refine q_p 0 (some 17) #[true, false, false, false, false, false, false, false, false, false] HT_.out ?_
        refine q_p 1 (some 18) #[true, true, false, false, false, false, false, false, false, false] HT_.out ?_
        refine q_p 2 (some 19) #[true, true, true, false, false, false, false, false, false, false] HT_.out ?_
        refine q_p 4 (some 21) #[true, true, true, false, true, false, false, false, false, false] HT_.out ?_
        refine q_p 5 (some 22) #[true, true, true, false, true, true, false, false, false, false] HT_.out ?_
        refine q_p 6 (some 23) #[true, true, true, false, true, true, true, false, false, false] HT_.out ?_
        refine q_t 3 (some 20) #[true, true, true, true, true, true, true, false, false, false] HT_.out HW_.out hHeld ?_
        refine q_t 7 (some 24) #[true, true, true, true, true, true, true, true, false, false] HT_.out HW_.out hHeld ?_
        refine one_ (i := 8) (N := some 25) #[true, true, true, true, true, true, true, true, true, false] rfl rfl (one_of HT_.out (by kernel_rfl)) (by decide) (fun K hK => ?_)
        refine goes_ Try.func37 (by kernel_rfl) rfl #[.slice A399_0 (rd_L2 l0 x5_1).length c399_0, .slice A400_0 (rd_L2 l1 x5_1).length c400_0] (by rfl) rfl rfl (by (try simp only [List.map_toArray, List.map_cons, List.map_nil]); first | done | rfl | (simp only [List.length_drop, List.length_take]; rfl)) ?_
        with_reducible refine (laws_eqBalanceS.calls k1 _ _ (rd_L2 l0 x5_1) _ _ (rd_L2 l1 x5_1) true _ ?side1 ?side2 ?side3 ?side4 A7.out).mono ?_
        (case side1 => exact q_c ((Kd.C_below HR399_0.out HB.out)))
        (case side2 => exact HC399_0.out)
        (case side3 => exact q_c ((Kd.C_below HR400_0.out HB.out)))
        (case side4 => exact HC400_0.out)
        rintro e w10 ⟨rfl, hb⟩
        refine ⟨_, rfl, ?_⟩
        have n0_ := am (below_step bq hb)
        clear HB
        have HB := n0_
        clear n0_
        (try clear hb)
        (try clear hb2)
        (try clear hk)
        (try clear hi)
        refine hK.out _ _ ⟨((HB.out.cell (wb hw399_0)).trans hw399_0), ((HB.out.cell (wb hw400_0)).trans hw400_0)⟩ (fun hHeld => ?_)
        clear hK K
        refine norm_ (a' := ?_) ?_ ?_
        rotate_left
        ·show Act.put _ (some 25) _ = _
         simp only [Act.put, List.setIfInBounds_toArray, List.set_cons_zero, List.set_cons_succ, i64_w, i32_w]
         rfl
        refine q_p 9 (some 26) #[true, true, true, true, true, true, true, true, true, true] HT_.out ?_
        refine done_ (done_of HT_.out (by kernel_rfl)) ?_
        try go_wp2
        go_roundg k1
        case measure => have := HK1.out; omega
        case rel => exact ⟨(wrap64 (x5_1 + 1)), q_i, H', ⟨by have := HK1.out; omega⟩, ⟨bq⟩⟩
       ·replace c8 := Bool.eq_false_iff.mpr c8
        subst c8
        have H1 : (some false) = some r := by rw [if_neg (show ¬ (false = true) by decide)] at H; exact H
        clear H
        have H := H1
        clear H1
        obtain rfl := Option.some.inj H
        try go_wp2
        have n0_ := am (below_drew1 HB.out)
        clear HB
        have HB := n0_
        clear n0_
        have p399 : 0 ≤ (x5_1 : Int) := q_d
        have q399 : x5_1 < (l0.length : Int) := q_d
        obtain ⟨ad399, A399_0, c399_0, e399, hx399_0, hl399_0, hi399_0⟩ := at_L2 HR0.out x5_1 p399 q399
        have hw399_0 := hx399_0
        cases e399
        replace hx399_0 := q_x HB.out hx399_0
        have HR399_0 := am hi399_0
        have HC399_0 := am hl399_0
        clear hi399_0 hl399_0
        replace p399 := eq_true p399
        replace q399 := eq_true q399
        have p400 : 0 ≤ (x5_1 : Int) := q_d
        have q400 : x5_1 < (l1.length : Int) := q_d
        obtain ⟨ad400, A400_0, c400_0, e400, hx400_0, hl400_0, hi400_0⟩ := at_L2 HR1.out x5_1 p400 q400
        have hw400_0 := hx400_0
        cases e400
        replace hx400_0 := q_x HB.out hx400_0
        have HR400_0 := am hi400_0
        have HC400_0 := am hl400_0
        clear hi400_0 hl400_0
        replace p400 := eq_true p400
        replace q400 := eq_true q400
        refine start_ (n := 10) (S := fun w' => w'.cell? (ad399.add (x5_1).toNat) = some (.slice A399_0 (rd_L2 l0 x5_1).length c399_0) ∧ w'.cell? (ad400.add (x5_1).toNat) = some (.slice A400_0 (rd_L2 l1 x5_1).length c400_0)) (ds := []) #[false, false, false, false, false, false, false, false, false, false] (by kernel_rfl) rfl rfl ⟨((HB.out.cell (wb hw399_0)).trans hw399_0), ((HB.out.cell (wb hw400_0)).trans hw400_0)⟩ (fun hHeld => ?_); refine with_tabW laws_eqBalanceSS.tab6 laws_eqBalanceSS.bits6 (fun HT_ HW_ => ?_)
        generalize wr.drew = w11 at HB HR399_0 HR400_0 hx399_0 hx400_0 hHeld ⊢
        refine q_p 0 (some 17) #[true, false, false, false, false, false, false, false, false, false] HT_.out ?_
        refine q_p 1 (some 18) #[true, true, false, false, false, false, false, false, false, false] HT_.out ?_
        refine q_p 2 (some 19) #[true, true, true, false, false, false, false, false, false, false] HT_.out ?_
        refine q_p 4 (some 21) #[true, true, true, false, true, false, false, false, false, false] HT_.out ?_
        refine q_p 5 (some 22) #[true, true, true, false, true, true, false, false, false, false] HT_.out ?_
        refine q_p 6 (some 23) #[true, true, true, false, true, true, true, false, false, false] HT_.out ?_
        refine q_t 3 (some 20) #[true, true, true, true, true, true, true, false, false, false] HT_.out HW_.out hHeld ?_
        refine q_t 7 (some 24) #[true, true, true, true, true, true, true, true, false, false] HT_.out HW_.out hHeld ?_
        refine one_ (i := 8) (N := some 25) #[true, true, true, true, true, true, true, true, true, false] rfl rfl (one_of HT_.out (by kernel_rfl)) (by decide) (fun K hK => ?_)
        refine goes_ Try.func37 (by kernel_rfl) rfl #[.slice A399_0 (rd_L2 l0 x5_1).length c399_0, .slice A400_0 (rd_L2 l1 x5_1).length c400_0] (by rfl) rfl rfl (by (try simp only [List.map_toArray, List.map_cons, List.map_nil]); first | done | rfl | (simp only [List.length_drop, List.length_take]; rfl)) ?_
        with_reducible refine (laws_eqBalanceS.calls k1 _ _ (rd_L2 l0 x5_1) _ _ (rd_L2 l1 x5_1) false _ ?side1 ?side2 ?side3 ?side4 A7.out).mono ?_
        (case side1 => exact q_c ((Kd.C_below HR399_0.out HB.out)))
        (case side2 => exact HC399_0.out)
        (case side3 => exact q_c ((Kd.C_below HR400_0.out HB.out)))
        (case side4 => exact HC400_0.out)
        rintro e w12 ⟨rfl, hb⟩
        refine ⟨_, rfl, ?_⟩
        have n0_ := am (below_step bq hb)
        clear HB
        have HB := n0_
        clear n0_
        (try clear hb)
        (try clear hb2)
        (try clear hk)
        (try clear hi)
        refine hK.out _ _ ⟨((HB.out.cell (wb hw399_0)).trans hw399_0), ((HB.out.cell (wb hw400_0)).trans hw400_0)⟩ (fun hHeld => ?_)
        clear hK K
        refine norm_ (a' := ?_) ?_ ?_
        rotate_left
        ·show Act.put _ (some 25) _ = _
         simp only [Act.put, List.setIfInBounds_toArray, List.set_cons_zero, List.set_cons_succ, i64_w, i32_w]
         rfl
        refine q_p 9 (some 26) #[true, true, true, true, true, true, true, true, true, true] HT_.out ?_
        refine done_ (done_of HT_.out (by kernel_rfl)) ?_
        try go_wp2
        go_ret
        exact ⟨q_e, bq⟩
      ·rw [if_neg c6] at H
       exact absurd H (by simp)
     ·rw [if_neg c5] at H
      exact absurd H (by simp)
    ·rw [if_neg c4] at H
     have c4b0 := decide_eq_false c4
     clear c4
     obtain rfl := Option.some.inj H
     go_wp2
     go_ret
     exact ⟨q_e, bq⟩
 ·rw [if_neg c3] at H
  have c3b0 : ((l0.length : Int) == (l1.length : Int)) = false := beq_eq_false_iff_ne.mpr c3
  have c3b1 : ((l0.length : Int) != (l1.length : Int)) = true := bne_iff_ne.mpr c3
  have c3b2 : (l0.length == l1.length) = false := by first | simpa using c3 | (simp at c3 ⊢; omega)
  obtain rfl := Option.some.inj H
  go_enter Try.func75, Try.ntmps75
  go_wp2
  go_ret
  exact ⟨q_e, bq⟩

/-! ### laws_eqLedger: function 27 -/
def laws_eqLedger.f (k : Nat) (l0_0 : List (List (S104))) (l1_0 : List (List (S104))) : Option (Bool) := (laws_eqBalanceSS.f k l0_0 l1_0).bind fun t404 => (if t404 = true then (some true) else (some false))
theorem laws_eqLedger.calls (k : Nat) (A0_0 : Option Addr) (c0_0 : Nat) (l0_0 : List (List (S104))) (A1_0 : Option Addr) (c1_0 : Nat) (l1_0 : List (List (S104))) (r : Bool) (w : World) (hr0_0 : Kd.C (Kd.slice 104 k104) w A0_0 l0_0.length l0_0) (hc0_0 : l0_0.length ≤ c0_0) (hr1_0 : Kd.C (Kd.slice 104 k104) w A1_0 l1_0.length l1_0) (hc1_0 : l1_0.length ≤ c1_0) (h : laws_eqLedger.f k l0_0 l1_0 = some r) :
  Calls Try.prog 27 #[.agg #[.slice A0_0 l0_0.length c0_0], .agg #[.slice A1_0 l1_0.length c1_0]] w fun e w' => e = .returned (.bool r) ∧ Below w.heap.size w w' := by
 have hu26 := Try.underlying26
 have HR0_0 := am hr0_0
 have HC0_0 := am hc0_0
 clear hr0_0 hc0_0
 have HR1_0 := am hr1_0
 have HC1_0 := am hc1_0
 clear hr1_0 hc1_0
 have HB := am (Below.refl w.heap.size w)
 have H : ((laws_eqBalanceSS.f k l0_0 l1_0).bind fun t404 => (if t404 = true then (some true) else (some false))) = some r := h
 clear h
 replace H := ob H
 obtain ⟨t404, A30, H⟩ := H
 replace H : (if t404 = true then (some true) else (some false)) = some r := H
 have A3 := am A30
 clear A30
 by_cases c4 : t404 = true
 ·subst c4
  have H1 : (some true) = some r := by rw [if_pos rfl] at H; exact H
  clear H
  have H := H1
  clear H1
  obtain rfl := Option.some.inj H
  go_enter Try.func27, Try.ntmps27
  go_wp2_with (first | ((with_reducible refine gate_dst (N := 2) rfl ?_); refine q_box (N := 2) (cs := #[.slice A0_0 l0_0.length c0_0]) (t := 26) ?_; intro gb402 hg w5 hbox hb; have n0_ := am (below_step bq hb); have n1_ := am (hbox); have n2_ := am ((q_g hg bq : w.heap.size ≤ gb402)); have n3_ := n2_; revert n0_ n1_ n2_ n3_; clear HB; intro HB BK402 GW402 GE402; clear hb hbox hg) | ((with_reducible refine gate_dst (N := 3) rfl ?_); refine q_box (N := 3) (cs := #[.slice A1_0 l1_0.length c1_0]) (t := 26) ?_; intro gb403 hg w6 hbox hb; have n0_ := am (blk_below (q_b BK402.out) hb); have n1_ := am (below_step bq hb); have n2_ := am (hbox); have n3_ := am ((q_g hg bq : w.heap.size ≤ gb403)); have n4_ := n3_; have n5_ := am ((q_n hg (q_b BK402.out) : gb402 ≠ gb403)); have n6_ := am n5_.out.symm; revert n0_ n1_ n2_ n3_ n4_ n5_ n6_; clear BK402 HB; intro BK402 HB BK403 GW403 GE403 NB402_403 NB403_402; clear hb hbox hg; have hnb7 := NB402_403.out; have hnc7 := NB403_402.out; obtain ⟨hcz8_0, hfz8_0⟩ := q_1 BK402.out; obtain ⟨hcz9_0, hfz9_0⟩ := q_1 BK403.out) | ((with_reducible refine gate_callee (f := 75) rfl ?_); refine goesLq (some 9) rfl rfl Try.func75 (by kernel_rfl) rfl #[.slice A0_0 l0_0.length c0_0, .slice A1_0 l1_0.length c1_0] rfl ?_; (with_reducible refine (laws_eqBalanceSS.calls k _ _ l0_0 _ _ l1_0 true _ ?side1 ?side2 ?side3 ?side4 A3.out).mono ?_); (case side1 => exact q_c ((Kd.C_below HR0_0.out HB.out))); (case side2 => exact HC0_0.out); (case side3 => exact q_c ((Kd.C_below HR1_0.out HB.out))); (case side4 => exact HC1_0.out); rintro e w10 ⟨rfl, hb⟩; refine ⟨_, rfl, ?_⟩; have n0_ := am (blk_below (q_b BK402.out) hb); have n1_ := am (blk_below (q_b BK403.out) hb); have n2_ := am (below_step bq hb); revert n0_ n1_ n2_; clear BK402 BK403 HB; intro BK402 BK403 HB; (try clear hb); (try clear hb2); (try clear hk); (try clear hi)))
  go_ret
  exact ⟨q_e, bq⟩
 ·replace c4 := Bool.eq_false_iff.mpr c4
  subst c4
  have H1 : (some false) = some r := by rw [if_neg (show ¬ (false = true) by decide)] at H; exact H
  clear H
  have H := H1
  clear H1
  obtain rfl := Option.some.inj H
  go_enter Try.func27, Try.ntmps27
  go_wp2_with (first | ((with_reducible refine gate_dst (N := 2) rfl ?_); refine q_box (N := 2) (cs := #[.slice A0_0 l0_0.length c0_0]) (t := 26) ?_; intro gb402 hg w11 hbox hb; have n0_ := am (below_step bq hb); have n1_ := am (hbox); have n2_ := am ((q_g hg bq : w.heap.size ≤ gb402)); have n3_ := n2_; revert n0_ n1_ n2_ n3_; clear HB; intro HB BK402 GW402 GE402; clear hb hbox hg) | ((with_reducible refine gate_dst (N := 3) rfl ?_); refine q_box (N := 3) (cs := #[.slice A1_0 l1_0.length c1_0]) (t := 26) ?_; intro gb403 hg w12 hbox hb; have n0_ := am (blk_below (q_b BK402.out) hb); have n1_ := am (below_step bq hb); have n2_ := am (hbox); have n3_ := am ((q_g hg bq : w.heap.size ≤ gb403)); have n4_ := n3_; have n5_ := am ((q_n hg (q_b BK402.out) : gb402 ≠ gb403)); have n6_ := am n5_.out.symm; revert n0_ n1_ n2_ n3_ n4_ n5_ n6_; clear BK402 HB; intro BK402 HB BK403 GW403 GE403 NB402_403 NB403_402; clear hb hbox hg; have hnb13 := NB402_403.out; have hnc13 := NB403_402.out; obtain ⟨hcz14_0, hfz14_0⟩ := q_1 BK402.out; obtain ⟨hcz15_0, hfz15_0⟩ := q_1 BK403.out) | ((with_reducible refine gate_callee (f := 75) rfl ?_); refine goesLq (some 9) rfl rfl Try.func75 (by kernel_rfl) rfl #[.slice A0_0 l0_0.length c0_0, .slice A1_0 l1_0.length c1_0] rfl ?_; (with_reducible refine (laws_eqBalanceSS.calls k _ _ l0_0 _ _ l1_0 false _ ?side1 ?side2 ?side3 ?side4 A3.out).mono ?_); (case side1 => exact q_c ((Kd.C_below HR0_0.out HB.out))); (case side2 => exact HC0_0.out); (case side3 => exact q_c ((Kd.C_below HR1_0.out HB.out))); (case side4 => exact HC1_0.out); rintro e w16 ⟨rfl, hb⟩; refine ⟨_, rfl, ?_⟩; have n0_ := am (blk_below (q_b BK402.out) hb); have n1_ := am (blk_below (q_b BK403.out) hb); have n2_ := am (below_step bq hb); revert n0_ n1_ n2_; clear BK402 BK403 HB; intro BK402 BK403 HB; (try clear hb); (try clear hb2); (try clear hk); (try clear hi)))
  go_ret
  exact ⟨q_e, bq⟩

/-! ### laws_markBalanceS: function 109 -/
def laws_markBalanceS.l0 : Nat → List (S104) → Int → Int → Option (Int × (List (S104)))
  | 0, _, _, _ => none
  | k + 1, x0, x1, x5 => if x5 < (x0.length : Int) then (if 0 ≤ x5 then ((some (x0.set (x5 : Int).toNat (⟨x1, (rd_T104 x0 x5).f1, (rd_T104 x0 x5).f2⟩ : S104) : List (S104))).bind fun y405 => ((some (y405.set (x5 : Int).toNat (⟨(rd_T104 y405 x5).f0, wrap64 (x1 + 1), (rd_T104 y405 x5).f2⟩ : S104) : List (S104))).bind fun y406 => (laws_markBalanceS.l0 k (y406.set (x5 : Int).toNat (⟨(rd_T104 y406 x5).f0, (rd_T104 y406 x5).f1, wrap64 ((wrap64 (x1 + 1)) + 1)⟩ : S104)) (wrap64 ((wrap64 ((wrap64 (x1 + 1)) + 1)) + 1)) (wrap64 (x5 + 1))))) else (none)) else (some (x1, x0))
def laws_markBalanceS.f (k : Nat) (l0 : List (S104)) (a1 : Int) : Option (Int × (List (S104))) := laws_markBalanceS.l0 k l0 a1 0
theorem laws_markBalanceS.calls (k : Nat) (P0_ : Nat → Prop) (u9000_ : Value) (l0 : List (S104)) (a1 : Int) (r1 : Int) (r2 : List (S104)) (w0 w : World) (hB : Below w0.heap.size w0 w) (ho0 : Kd.R k104 104 w w0.heap.size P0_ u9000_ l0) (h : laws_markBalanceS.f k l0 a1 = some (r1, r2)) :
  Calls Try.prog 109 #[u9000_, .int .i64 a1] w fun e w' => e = .returned (.int .i64 r1) ∧ Kd.R k104 104 w' w0.heap.size (fun k_ => (P0_ k_ ∨ w.heap.size ≤ k_)) u9000_ r2 ∧ Below w0.heap.size w0 w' ∧ Kept w w' (fun k_ => P0_ k_) := by
 have HO0 := am (show Kd.R k104 104 w w0.heap.size (fun k_ => (P0_ k_ ∨ w.heap.size ≤ k_)) u9000_ l0 from Kd.R_mono ho0 (fun k_ hk => (.inl hk)))
 have HK := am (Kept.refl w (fun k_ => P0_ k_))
 have HW0 := am hB.size
 have HB := am hB
 clear hB
 have H : (laws_markBalanceS.l0 k l0 a1 0) = some (r1, r2) := h
 clear h
 have H' := am H
 clear H
 go_enter Try.func109, Try.ntmps109
 go_wp2
 go_loopg [1, 5] k (fun kq v1 v5 w' => ∃ (x0_1 : List (S104)) (x1_1 : Int) (x5_1 : Int), v1 = .int .i64 x1_1 ∧ v5 = .int .i64 x5_1 ∧ Aside0 (laws_markBalanceS.l0 kq x0_1 x1_1 x5_1 = some (r1, r2)) ∧ Aside0 (kq ≤ k) ∧ Aside0 (Kd.R k104 104 w' w0.heap.size (fun k_ => (P0_ k_ ∨ w.heap.size ≤ k_)) u9000_ x0_1) ∧ Aside0 (Kept w w' (fun k_ => P0_ k_)) ∧ Aside0 (Below w0.heap.size w0 w'))
 case atStart => exact ⟨(l0), (a1), (0), q_i, q_i, H', ⟨Nat.le_refl _⟩, ⟨q_r (HO0.out)⟩, ⟨q_k⟩, ⟨bq⟩⟩
 case round =>
  clear H'
  (try clear c1); (try clear p2)
  obtain ⟨x0_1, x1_1, x5_1, rfl, rfl, HA, HK1, HO_0, HK, HB⟩ := hrel
  cases gk with
  | zero => exact absurd HA.out (by simp [laws_markBalanceS.l0])
  | succ k1 =>
   have H := HA.out
   clear HA
   simp only [laws_markBalanceS.l0] at H
   by_cases c3 : x5_1 < (x0_1.length : Int)
   ·rw [if_pos c3] at H
    have c3b0 := decide_eq_true c3
    clear c3
    by_cases c4 : 0 ≤ x5_1
    ·rw [if_pos c4] at H
     have c4b0 := decide_eq_true c4
     clear c4
     obtain ⟨y405, hy405⟩ : ∃ y_ : List (S104), y_ = (x0_1.set (x5_1 : Int).toNat (⟨x1_1, (rd_T104 x0_1 x5_1).f1, (rd_T104 x0_1 x5_1).f2⟩ : S104)) := ⟨_, rfl⟩
     replace H : ((some (y405.set (x5_1 : Int).toNat (⟨(rd_T104 y405 x5_1).f0, wrap64 (x1_1 + 1), (rd_T104 y405 x5_1).f2⟩ : S104) : List (S104))).bind fun y406 => (laws_markBalanceS.l0 k1 (y406.set (x5_1 : Int).toNat (⟨(rd_T104 y406 x5_1).f0, (rd_T104 y406 x5_1).f1, wrap64 ((wrap64 (x1_1 + 1)) + 1)⟩ : S104)) (wrap64 ((wrap64 ((wrap64 (x1_1 + 1)) + 1)) + 1)) (wrap64 (x5_1 + 1)))) = some (r1, r2) := q_h hy405 H
     have Ny405 := am hy405
     clear hy405
     obtain ⟨y406, hy406⟩ : ∃ y_ : List (S104), y_ = (y405.set (x5_1 : Int).toNat (⟨(rd_T104 y405 x5_1).f0, wrap64 (x1_1 + 1), (rd_T104 y405 x5_1).f2⟩ : S104)) := ⟨_, rfl⟩
     replace H : (laws_markBalanceS.l0 k1 (y406.set (x5_1 : Int).toNat (⟨(rd_T104 y406 x5_1).f0, (rd_T104 y406 x5_1).f1, wrap64 ((wrap64 (x1_1 + 1)) + 1)⟩ : S104)) (wrap64 ((wrap64 ((wrap64 (x1_1 + 1)) + 1)) + 1)) (wrap64 (x5_1 + 1))) = some (r1, r2) := q_h hy406 H
     have Ny406 := am hy406
     clear hy406
     obtain ⟨y407, hy407⟩ : ∃ y_ : List (S104), y_ = (y406.set (x5_1 : Int).toNat (⟨(rd_T104 y406 x5_1).f0, (rd_T104 y406 x5_1).f1, wrap64 ((wrap64 (x1_1 + 1)) + 1)⟩ : S104)) := ⟨_, rfl⟩
     replace H : (laws_markBalanceS.l0 k1 y407 (wrap64 ((wrap64 ((wrap64 (x1_1 + 1)) + 1)) + 1)) (wrap64 (x5_1 + 1))) = some (r1, r2) := q_h hy407 H
     have Ny407 := am hy407
     clear hy407
     have H' := am H
     clear H
     obtain ⟨Ao8, co8, eo8⟩ := Kd.R_slice HO_0.out
     subst eo8
     have p5 : 0 ≤ (x5_1 : Int) := q_d
     have q5 : (x5_1 : Int) < ((x0_1.length : Int) : Int) := q_d
     obtain ⟨go5, co5, eo5, gb5, gl5, cl5, HG5⟩ := Kd.R_form HO_0.out (by omega)
     (first | cases eo5 | (injection eo5 with ea_ en_ ec_; (first | subst ea_ | (injection ea_ with ea_; subst ea_)); subst ec_; clear en_))
     have GB5 := am gb5
     have GG5 := am HG5
     clear gb5 gl5 HG5
     have HMgo5 := am (show (P0_ go5 ∨ w.heap.size ≤ go5) from (HO_0.out.1 _ rfl))
     obtain ⟨ce5, hcl5, hM5, hcc5, hfr5⟩ := Kd.R_elem HO_0.out z104 (x5_1 : Int) p5 q5
     obtain rfl := k104_openM hM5
     have hx5_0 : wr.cell? ⟨go5, (x5_1 : Int).toNat * 3, none⟩ = some (.int .i64 ((rd_T104 x0_1 x5_1).f0)) := hcc5 0 _ rfl
     have hx5_1 : wr.cell? ⟨go5, (x5_1 : Int).toNat * 3 + 1, none⟩ = some (.int .i64 ((rd_T104 x0_1 x5_1).f1)) := hcc5 1 _ rfl
     have hx5_2 : wr.cell? ⟨go5, (x5_1 : Int).toNat * 3 + 2, none⟩ = some (.int .i64 ((rd_T104 x0_1 x5_1).f2)) := hcc5 2 _ rfl
     have hf5_0 : wr.frozen? ⟨go5, (x5_1 : Int).toNat * 3, none⟩ = false := hfr5 0
     have hf5_1 : wr.frozen? ⟨go5, (x5_1 : Int).toNat * 3 + 1, none⟩ = false := hfr5 1
     have hf5_2 : wr.frozen? ⟨go5, (x5_1 : Int).toNat * 3 + 2, none⟩ = false := hfr5 2
     clear hcl5 hcc5 hfr5; (try clear hM5)
     replace p5 := eq_true p5
     replace q5 := eq_true q5
     have HX9 := am (show Kd.R k104 104 wr w0.heap.size (fun k_ => (P0_ k_ ∨ w.heap.size ≤ k_)) (.slice (some ⟨go5, 0, none⟩) x0_1.length co8) x0_1 from (q_r (HO_0.out)))
     obtain ⟨ce9, hcl9, hM9, hcc9, hfr9⟩ := Kd.R_elem HX9.out z104 (x5_1 : Int) q_d (by have h_ : (x5_1 : Int) < ((x0_1.length : Int) : Int) := q_d; first | exact h_ | (have e_ := (Kd.R_reads' HO_0.out).1; omega) | simpa using h_)
     obtain rfl := k104_openM hM9
     have HP9 := Kd.R_seg HX9.out (x5_1 : Int) q_d (by have h_ : (x5_1 : Int) < ((x0_1.length : Int) : Int) := q_d; first | exact h_ | (have e_ := (Kd.R_reads' HO_0.out).1; omega) | simpa using h_) (seg := [.int .i64 x1_1]) (j := 0) hcl9 hcc9 (show 1 ≤ 3 from by decide) (x' := (⟨x1_1, (rd_T104 x0_1 x5_1).f1, (rd_T104 x0_1 x5_1).f2⟩ : S104)) (k104_mkM _ _ _ (⟨x1_1, (rd_T104 x0_1 x5_1).f1, (rd_T104 x0_1 x5_1).f2⟩ : S104) ) (fun _ hk => hk)
     have hx9_0 := hcc9 0 _ rfl
     (try simp only [show (k104).sz = 3 from rfl, Nat.mul_one, Nat.add_zero] at hx9_0)
     have hf9_0 := hfr9 0
     (try simp only [show (k104).sz = 3 from rfl, Nat.mul_one, Nat.add_zero] at hf9_0)
     clear hcl9 hcc9 hfr9; (try clear hM9)
     go_wp2_with (first | ((with_reducible refine gate_store (t := 2) (p := 16) rfl ?_); refine store_event (t := 2) (p := 16) (v := ?vo_w10) (w1 := (wr.setCell ⟨go5, (x5_1 : Int).toNat * 3, none⟩ (.int .i64 x1_1))) ?hg ?ho ?hn ?hr ?_; (case ho => rfl); (case hg => rfl); (case hn => rfl); (case hr => first | (go_simp; done) | (go_simp; rfl)); intro w10 hw; have hg : wr.grownBy w10 (some go5) := (by rw [hw]; exact HP9.2); have hp_ : Kd.R k104 104 w10 w0.heap.size (fun k_ => (P0_ k_ ∨ w.heap.size ≤ k_)) (.slice (some ⟨go5, 0, none⟩) x0_1.length co8) y405 := (by rw [hw, Ny405.out]; exact HP9.1); clear HP9; have n0_ := am (hp_); have n1_ := am ((by rw [hw]; exact below_set (HB.out) GB5.out : Below w0.heap.size w0 w10)); have n2_ := am (Kept.of_grown (S := (fun k_ => P0_ k_)) hg q_k (fun k_ e_ => (HO_0.out.1 k_ e_))); revert n0_ n1_ n2_; clear HO_0 HB HK; intro HO_0 HB HK; clear hg hw hp_; have p6 : 0 ≤ (x5_1 : Int) := q_d; have q6 : (x5_1 : Int) < ((x0_1.length : Int) : Int) := q_d; obtain ⟨ce6, hcl6, hM6, hcc6, hfr6⟩ := Kd.R_elem HO_0.out z104 (x5_1 : Int) p6 q6; obtain rfl := k104_openM hM6; have hx6_0 : w10.cell? ⟨go5, (x5_1 : Int).toNat * 3, none⟩ = some (.int .i64 ((rd_T104 y405 x5_1).f0)) := hcc6 0 _ rfl; have hx6_1 : w10.cell? ⟨go5, (x5_1 : Int).toNat * 3 + 1, none⟩ = some (.int .i64 ((rd_T104 y405 x5_1).f1)) := hcc6 1 _ rfl; have hx6_2 : w10.cell? ⟨go5, (x5_1 : Int).toNat * 3 + 2, none⟩ = some (.int .i64 ((rd_T104 y405 x5_1).f2)) := hcc6 2 _ rfl; have hf6_0 : w10.frozen? ⟨go5, (x5_1 : Int).toNat * 3, none⟩ = false := hfr6 0; have hf6_1 : w10.frozen? ⟨go5, (x5_1 : Int).toNat * 3 + 1, none⟩ = false := hfr6 1; have hf6_2 : w10.frozen? ⟨go5, (x5_1 : Int).toNat * 3 + 2, none⟩ = false := hfr6 2; clear hcl6 hcc6 hfr6; (try clear hM6); replace p6 := eq_true p6; replace q6 := eq_true q6; have HX11 := am (show Kd.R k104 104 w10 w0.heap.size (fun k_ => (P0_ k_ ∨ w.heap.size ≤ k_)) (.slice (some ⟨go5, 0, none⟩) x0_1.length co8) y405 from (q_r (HO_0.out))); obtain ⟨ce11, hcl11, hM11, hcc11, hfr11⟩ := Kd.R_elem HX11.out z104 (x5_1 : Int) q_d (by have h_ : (x5_1 : Int) < ((x0_1.length : Int) : Int) := q_d; first | exact h_ | (have e_ := (Kd.R_reads' HO_0.out).1; omega) | simpa using h_); obtain rfl := k104_openM hM11; have HP11 := Kd.R_seg HX11.out (x5_1 : Int) q_d (by have h_ : (x5_1 : Int) < ((x0_1.length : Int) : Int) := q_d; first | exact h_ | (have e_ := (Kd.R_reads' HO_0.out).1; omega) | simpa using h_) (seg := [.int .i64 (wrap64 (x1_1 + 1))]) (j := 1) hcl11 hcc11 (show 2 ≤ 3 from by decide) (x' := (⟨(rd_T104 y405 x5_1).f0, wrap64 (x1_1 + 1), (rd_T104 y405 x5_1).f2⟩ : S104)) (k104_mkM _ _ _ (⟨(rd_T104 y405 x5_1).f0, wrap64 (x1_1 + 1), (rd_T104 y405 x5_1).f2⟩ : S104) ) (fun _ hk => hk); have hx11_1 := hcc11 1 _ rfl; (try simp only [show (k104).sz = 3 from rfl, Nat.mul_one, Nat.add_zero] at hx11_1); have hf11_1 := hfr11 1; (try simp only [show (k104).sz = 3 from rfl, Nat.mul_one, Nat.add_zero] at hf11_1); clear hcl11 hcc11 hfr11; (try clear hM11)) | ((with_reducible refine gate_store (t := 2) (p := 23) rfl ?_); refine store_event (t := 2) (p := 23) (v := ?vo_w12) (w1 := (w10.setCell ⟨go5, (x5_1 : Int).toNat * 3 + 1, none⟩ (.int .i64 (wrap64 (x1_1 + 1))))) ?hg ?ho ?hn ?hr ?_; (case ho => rfl); (case hg => rfl); (case hn => rfl); (case hr => first | (go_simp; done) | (go_simp; rfl)); intro w12 hw; have hg : w10.grownBy w12 (some go5) := (by rw [hw]; exact HP11.2); have hp_ : Kd.R k104 104 w12 w0.heap.size (fun k_ => (P0_ k_ ∨ w.heap.size ≤ k_)) (.slice (some ⟨go5, 0, none⟩) x0_1.length co8) y406 := (by rw [hw, Ny406.out]; exact HP11.1); clear HP11; have n0_ := am (hp_); have n1_ := am ((by rw [hw]; exact below_set (HB.out) GB5.out : Below w0.heap.size w0 w12)); have n2_ := am (Kept.of_grown (S := (fun k_ => P0_ k_)) hg q_k (fun k_ e_ => (HO_0.out.1 k_ e_))); revert n0_ n1_ n2_; clear HO_0 HB HK; intro HO_0 HB HK; clear hg hw hp_; have p7 : 0 ≤ (x5_1 : Int) := q_d; have q7 : (x5_1 : Int) < ((x0_1.length : Int) : Int) := q_d; obtain ⟨ce7, hcl7, hM7, hcc7, hfr7⟩ := Kd.R_elem HO_0.out z104 (x5_1 : Int) p7 q7; obtain rfl := k104_openM hM7; have hx7_0 : w12.cell? ⟨go5, (x5_1 : Int).toNat * 3, none⟩ = some (.int .i64 ((rd_T104 y406 x5_1).f0)) := hcc7 0 _ rfl; have hx7_1 : w12.cell? ⟨go5, (x5_1 : Int).toNat * 3 + 1, none⟩ = some (.int .i64 ((rd_T104 y406 x5_1).f1)) := hcc7 1 _ rfl; have hx7_2 : w12.cell? ⟨go5, (x5_1 : Int).toNat * 3 + 2, none⟩ = some (.int .i64 ((rd_T104 y406 x5_1).f2)) := hcc7 2 _ rfl; have hf7_0 : w12.frozen? ⟨go5, (x5_1 : Int).toNat * 3, none⟩ = false := hfr7 0; have hf7_1 : w12.frozen? ⟨go5, (x5_1 : Int).toNat * 3 + 1, none⟩ = false := hfr7 1; have hf7_2 : w12.frozen? ⟨go5, (x5_1 : Int).toNat * 3 + 2, none⟩ = false := hfr7 2; clear hcl7 hcc7 hfr7; (try clear hM7); replace p7 := eq_true p7; replace q7 := eq_true q7; have HX13 := am (show Kd.R k104 104 w12 w0.heap.size (fun k_ => (P0_ k_ ∨ w.heap.size ≤ k_)) (.slice (some ⟨go5, 0, none⟩) x0_1.length co8) y406 from (q_r (HO_0.out))); obtain ⟨ce13, hcl13, hM13, hcc13, hfr13⟩ := Kd.R_elem HX13.out z104 (x5_1 : Int) q_d (by have h_ : (x5_1 : Int) < ((x0_1.length : Int) : Int) := q_d; first | exact h_ | (have e_ := (Kd.R_reads' HO_0.out).1; omega) | simpa using h_); obtain rfl := k104_openM hM13; have HP13 := Kd.R_seg HX13.out (x5_1 : Int) q_d (by have h_ : (x5_1 : Int) < ((x0_1.length : Int) : Int) := q_d; first | exact h_ | (have e_ := (Kd.R_reads' HO_0.out).1; omega) | simpa using h_) (seg := [.int .i64 (wrap64 ((wrap64 (x1_1 + 1)) + 1))]) (j := 2) hcl13 hcc13 (show 3 ≤ 3 from by decide) (x' := (⟨(rd_T104 y406 x5_1).f0, (rd_T104 y406 x5_1).f1, wrap64 ((wrap64 (x1_1 + 1)) + 1)⟩ : S104)) (k104_mkM _ _ _ (⟨(rd_T104 y406 x5_1).f0, (rd_T104 y406 x5_1).f1, wrap64 ((wrap64 (x1_1 + 1)) + 1)⟩ : S104) ) (fun _ hk => hk); have hx13_2 := hcc13 2 _ rfl; (try simp only [show (k104).sz = 3 from rfl, Nat.mul_one, Nat.add_zero] at hx13_2); have hf13_2 := hfr13 2; (try simp only [show (k104).sz = 3 from rfl, Nat.mul_one, Nat.add_zero] at hf13_2); clear hcl13 hcc13 hfr13; (try clear hM13)) | ((with_reducible refine gate_store (t := 2) (p := 30) rfl ?_); refine store_event (t := 2) (p := 30) (v := ?vo_w14) (w1 := (w12.setCell ⟨go5, (x5_1 : Int).toNat * 3 + 2, none⟩ (.int .i64 (wrap64 ((wrap64 (x1_1 + 1)) + 1))))) ?hg ?ho ?hn ?hr ?_; (case ho => rfl); (case hg => rfl); (case hn => rfl); (case hr => first | (go_simp; done) | (go_simp; rfl)); intro w14 hw; have hg : w12.grownBy w14 (some go5) := (by rw [hw]; exact HP13.2); have hp_ : Kd.R k104 104 w14 w0.heap.size (fun k_ => (P0_ k_ ∨ w.heap.size ≤ k_)) (.slice (some ⟨go5, 0, none⟩) x0_1.length co8) y407 := (by rw [hw, Ny407.out]; exact HP13.1); clear HP13; have n0_ := am (hp_); have n1_ := am ((by rw [hw]; exact below_set (HB.out) GB5.out : Below w0.heap.size w0 w14)); have n2_ := am (Kept.of_grown (S := (fun k_ => P0_ k_)) hg q_k (fun k_ e_ => (HO_0.out.1 k_ e_))); revert n0_ n1_ n2_; clear HO_0 HB HK; intro HO_0 HB HK; clear hg hw hp_))
     go_roundg k1
     case measure => have := HK1.out; omega
     case rel => exact ⟨(y407), (wrap64 ((wrap64 ((wrap64 (x1_1 + 1)) + 1)) + 1)), (wrap64 (x5_1 + 1)), q_i, q_i, H', ⟨by have := HK1.out; omega⟩, ⟨q_r (HO_0.out)⟩, ⟨q_k⟩, ⟨bq⟩⟩
    ·rw [if_neg c4] at H
     exact absurd H (by simp)
   ·rw [if_neg c3] at H
    have c3b0 := decide_eq_false c3
    clear c3
    simp only [Option.some.injEq, Prod.mk.injEq] at H
    obtain ⟨rfl, rfl⟩ := H
    obtain ⟨Ao15, co15, eo15⟩ := Kd.R_slice HO_0.out
    subst eo15
    go_wp2
    go_ret
    exact ⟨q_e, q_r (HO_0.out), bq, q_k⟩

/-! ### laws_markBalanceSS: function 77 -/
def laws_markBalanceSS.l0 : Nat → List (List (S104)) → Int → Int → Option (Int × List (List (S104)))
  | 0, _, _, _ => none
  | k + 1, x0, x1, x5 => if x5 < (x0.length : Int) then (if 0 ≤ x5 then ((laws_markBalanceS.f k (x0.getD x5.toNat []) x1).bind fun bt => (laws_markBalanceSS.l0 k (x0.set x5.toNat bt.2) bt.1 (wrap64 (x5 + 1)))) else (none)) else (some (x1, x0))
def laws_markBalanceSS.f (k : Nat) (l0 : List (List (S104))) (a1 : Int) : Option (Int × List (List (S104))) := laws_markBalanceSS.l0 k l0 a1 0
theorem laws_markBalanceSS.calls (k : Nat) (P0_ : Nat → Prop) (u9000_ : Value) (l0 : List (List (S104))) (a1 : Int) (r1 : Int) (r2 : List (List (S104))) (w0 w : World) (hB : Below w0.heap.size w0 w) (ho0 : Kd.S (Kd.slice 104 k104) 64 w w0.heap.size P0_ u9000_ l0) (h : laws_markBalanceSS.f k l0 a1 = some (r1, r2)) :
  Calls Try.prog 77 #[u9000_, .int .i64 a1] w fun e w' => e = .returned (.int .i64 r1) ∧ Kd.S (Kd.slice 104 k104) 64 w' w0.heap.size P0_ u9000_ r2 ∧ Below w0.heap.size w0 w' ∧ Kept w w' (fun k_ => P0_ k_) := by
 have HO0 := am ho0
 have HK := am (Kept.refl w (fun k_ => P0_ k_))
 have HB := am hB
 clear hB ho0
 have H' := am (show laws_markBalanceSS.l0 k l0 a1 0 = some (r1, r2) from h)
 clear h
 go_enter Try.func77, Try.ntmps77
 go_wp2
 go_loopg [1, 5] k (fun kq v1 v5 w' => ∃ (x0_1 : List (List (S104))) (x1_1 : Int) (x5_1 : Int), v1 = .int .i64 x1_1 ∧ v5 = .int .i64 x5_1 ∧ Aside0 (laws_markBalanceSS.l0 kq x0_1 x1_1 x5_1 = some (r1, r2)) ∧ Aside0 (kq ≤ k) ∧ Aside0 (Kd.S (Kd.slice 104 k104) 64 w' w0.heap.size P0_ u9000_ x0_1) ∧ Aside0 (Kept w w' (fun k_ => P0_ k_)) ∧ Aside0 (Below w0.heap.size w0 w'))
 case atStart => exact ⟨l0, a1, 0, rfl, rfl, H', ⟨Nat.le_refl _⟩, HO0, HK, HB⟩
 case round =>
  clear H'
  obtain ⟨x0_1, x1_1, x5_1, rfl, rfl, HA, HK1, HO_0, HK, HB⟩ := hrel
  cases gk with
  | zero => exact absurd HA.out (by simp [laws_markBalanceSS.l0])
  | succ k1 =>
   have H := HA.out
   clear HA
   simp only [laws_markBalanceSS.l0] at H
   by_cases c3 : x5_1 < (x0_1.length : Int)
   ·rw [if_pos c3] at H
    by_cases c4 : 0 ≤ x5_1
    ·rw [if_pos c4] at H
     obtain ⟨⟨t1, t2⟩, A10, H⟩ := ob H
     have A1 := am A10
     have H' := am (show laws_markBalanceSS.l0 k1 (x0_1.set x5_1.toNat t2) t1 (wrap64 (x5_1 + 1)) = some (r1, r2) from H)
     clear H A10
     obtain ⟨go5, co5, eo5, gb5, gl5, cl5, HG5⟩ := Kd.R_form (Kd.S_R HO_0.out) (by omega)
     subst eo5
     clear gb5 gl5 HG5
     obtain ⟨oki, cs_, hcl, hM, hcc, hfr, hoki, hH⟩ := Kd.S_elem HO_0.out [] x5_1 c4 c3
     obtain ⟨yi, hyi⟩ : ∃ y_ : (List (S104)), y_ = x0_1.getD x5_1.toNat [] := ⟨_, rfl⟩
     have A1 := am (show laws_markBalanceS.f k1 yi x1_1 = some (t1, t2) from by rw [hyi]; exact A1.out)
     rw [← hyi] at hM
     clear hyi
     obtain ⟨vi_, rfl, hR⟩ := hM
     have hx5_0 : wr.cell? ⟨go5, (x5_1 : Int).toNat, none⟩ = some vi_ := by have h_ := hcc 0 vi_ rfl; simpa [Kd.slice] using h_
     have hf5_0 : wr.frozen? ⟨go5, (x5_1 : Int).toNat, none⟩ = false := by have h_ := hfr 0; simpa [Kd.slice] using h_
     obtain ⟨Ai, ci, rfl⟩ := Kd.R_slice hR
     have HRI := am hR
     have HOK := am hoki
     have HH := am hH
     clear hR hoki hH hcc hfr hcl
     have c3b0 := decide_eq_true c3
     have c4b0 := decide_eq_true c4
     have p5 := eq_true c4
     have q5 := eq_true c3
     clear c3 c4
     go_wp2_with (first | ((with_reducible refine gate_callee (f := 109) rfl ?_); refine goesL_ (some 17) rfl rfl Try.func109 (by kernel_rfl) rfl #[.slice Ai yi.length ci, .int .i64 x1_1] rfl (by (try simp only [List.map_toArray, List.map_cons, List.map_nil]); first | done | rfl) ?_; (with_reducible refine (laws_markBalanceS.calls k1 oki _ _ x1_1 t1 t2 w0 _ ?side1 ?side2 A1.out).mono ?_); (case side1 => exact HB.out); (case side2 => exact HRI.out); rintro e w8 ⟨rfl, hy, hb, hkp⟩; refine ⟨_, rfl, ?_⟩; have n0_ := am (show Kd.S (Kd.slice 104 k104) 64 w8 w0.heap.size P0_ (.slice (some ⟨go5, 0, none⟩) x0_1.length co5) (x0_1.set x5_1.toNat t2) from Kd.H_back (Kd.H_kept HH.out hkp (fun _ _ hn hs => hn hs)) ⟨_, rfl, Kd.R_reok rfl hy (fun k_ e_ => HRI.out.1 k_ e_)⟩ (fun _ h_ => h_)); have n1_ := am (HK.out.then_ hkp (fun k_ hk => .inl (HOK.out k_ hk).1)); have n2_ := am hb; clear HO_0 HK HB HH; have HO_0 := n0_; have HK := n1_; have HB := n2_; clear n0_ n1_ n2_ hy hb hkp))
     go_roundg k1
     case measure => have := HK1.out; omega
     case rel => exact ⟨_, t1, (wrap64 (x5_1 + 1)), q_i, q_i, H', ⟨by have := HK1.out; omega⟩, HO_0, HK, HB⟩
    ·rw [if_neg c4] at H
     exact absurd H (by simp)
   ·rw [if_neg c3] at H
    have c3b0 := decide_eq_false c3
    clear c3
    simp only [Option.some.injEq, Prod.mk.injEq] at H
    obtain ⟨rfl, rfl⟩ := H
    obtain ⟨Ao9, co9, eo9⟩ := Kd.S_slice HO_0.out
    subst eo9
    go_wp2
    go_ret
    exact ⟨by first | rfl | (simp; done), HO_0.out, HB.out, HK.out⟩

/-! ### laws_markLedger: function 29 -/
def laws_markLedger.f (k : Nat) (l0_0 : List (List (S104))) (a1 : Int) : Option (Int × List (List (S104))) := laws_markBalanceSS.f k l0_0 a1
theorem laws_markLedger.calls (k : Nat) (P0_0_ : Nat → Prop) (u9000_ : Value) (l0_0 : List (List (S104))) (a1 : Int) (r1 : Int) (r2 : List (List (S104))) (w0 w : World) (hB : Below w0.heap.size w0 w) (ho0_0 : Kd.S (Kd.slice 104 k104) 64 w w0.heap.size P0_0_ u9000_ l0_0) (h : laws_markLedger.f k l0_0 a1 = some (r1, r2)) :
  Calls Try.prog 29 #[.agg #[u9000_], .int .i64 a1] w fun e w' => e = .returned (.int .i64 r1) ∧ Kd.S (Kd.slice 104 k104) 64 w' w0.heap.size P0_0_ u9000_ r2 ∧ Below w0.heap.size w0 w' ∧ Kept w w' (fun k_ => P0_0_ k_) := by
 have HB := am hB
 have HK := am (Kept.refl w (fun k_ => P0_0_ k_))
 have HO0 := am ho0_0
 clear hB ho0_0
 have A1 := am (show laws_markBalanceSS.f k l0_0 a1 = some (r1, r2) from h)
 clear h
 obtain ⟨Ao0, co0, eo0⟩ := Kd.S_slice HO0.out
 subst eo0
 go_enter Try.func29, Try.ntmps29
 go_wp2_with (first | ((with_reducible refine gate_dst (N := 2) rfl ?_); refine q_box (N := 2) (cs := #[.slice Ao0 l0_0.length co0]) (t := 26) ?_; intro gb hg w5 hbox hb; replace HO0 := am (Kd.S_below HO0.out hb); have n1_ := am (HK.out.below hb); have n2_ := am (below_then HB.out HB.out.size hb); have BK := am hbox; clear HK HB; have HK := n1_; have HB := n2_; clear n1_ n2_ hbox; obtain ⟨hcz0, hfz0⟩ := q_1 BK.out; clear hb hg) | ((with_reducible refine gate_dst (N := 8) rfl ?_); refine goesL_ (some 8) rfl rfl Try.func77 (by kernel_rfl) rfl #[.slice Ao0 l0_0.length co0, .int .i64 a1] rfl (by (try simp only [List.map_toArray, List.map_cons, List.map_nil]); first | done | rfl) ?_; (with_reducible refine (laws_markBalanceSS.calls k P0_0_ _ l0_0 a1 r1 r2 w0 _ ?side1 ?side2 A1.out).mono ?_); (case side1 => exact HB.out); (case side2 => exact HO0.out); rintro e w8 ⟨rfl, hy, hb, hkp⟩; refine ⟨_, rfl, ?_⟩; replace HO0 := am hy; replace HK := am (HK.out.then_ hkp (fun k_ hk => .inl hk)); replace HB := am hb; clear hy hb hkp))
 go_ret
 exact ⟨rfl, HO0.out, HB.out, HK.out⟩

/-! ### laws_szLegS: function 72 -/
def laws_szLegS.f (l0 : List (S137)) (a1 : Int) : Option (Int) := if (wrap64 (a1 - (l0.length : Int))) < 0 then (some (-1)) else (some (wrap64 (a1 - (l0.length : Int))))
theorem laws_szLegS.calls (A0 : Option Addr) (c0 : Nat) (l0 : List (S137)) (a1 : Int) (r : Int) (w : World) (hr0 : Kd.C k137 w A0 l0.length l0) (hc0 : l0.length ≤ c0) (h : laws_szLegS.f l0 a1 = some r) :
  Calls Try.prog 72 #[.slice A0 l0.length c0, .int .i64 a1] w fun e w' => e = .returned (.int .i64 r) ∧ Drawn0 w w' := by
 have HR0 := am hr0
 have HC0 := am hc0
 clear hr0 hc0
 have H : (if (wrap64 (a1 - (l0.length : Int))) < 0 then (some (-1)) else (some (wrap64 (a1 - (l0.length : Int))))) = some r := h
 clear h
 by_cases c3 : (wrap64 (a1 - (l0.length : Int))) < 0
 ·rw [if_pos c3] at H
  have c3b0 := decide_eq_true c3
  clear c3
  obtain rfl := Option.some.inj H
  go_enter Try.func72, Try.ntmps72
  go_wp2
  go_ret
  exact ⟨by first | rfl | (simp; done) | (simp [*]; done), q_0⟩
 ·rw [if_neg c3] at H
  have c3b0 := decide_eq_false c3
  clear c3
  obtain rfl := Option.some.inj H
  go_enter Try.func72, Try.ntmps72
  go_wp2
  go_ret
  exact ⟨by first | rfl | (simp; done) | (simp [*]; done), q_0⟩

/-! ### laws_szContract: function 22 -/
def laws_szContract.f (a0_0 : Int) (l0_1 : List (S137)) (a1 : Int) : Option (Int) := (laws_szLegS.f l0_1 a1).bind fun t409 => (if t409 < 0 then (some (-1)) else (some t409))
theorem laws_szContract.calls (a0_0 : Int) (A0_1 : Option Addr) (c0_1 : Nat) (l0_1 : List (S137)) (a1 : Int) (r : Int) (w : World) (hr0_1 : Kd.C k137 w A0_1 l0_1.length l0_1) (hc0_1 : l0_1.length ≤ c0_1) (h : laws_szContract.f a0_0 l0_1 a1 = some r) :
  Calls Try.prog 22 #[.agg #[.int .i64 a0_0, .slice A0_1 l0_1.length c0_1], .int .i64 a1] w fun e w' => e = .returned (.int .i64 r) ∧ Below w.heap.size w w' := by
 have hu50 := Try.underlying50
 have HR0_1 := am hr0_1
 have HC0_1 := am hc0_1
 clear hr0_1 hc0_1
 have HB := am (Below.refl w.heap.size w)
 have H : ((laws_szLegS.f l0_1 a1).bind fun t409 => (if t409 < 0 then (some (-1)) else (some t409))) = some r := h
 clear h
 replace H := ob H
 obtain ⟨t409, A30, H⟩ := H
 replace H : (if t409 < 0 then (some (-1)) else (some t409)) = some r := H
 have A3 := am A30
 clear A30
 by_cases c4 : t409 < 0
 ·rw [if_pos c4] at H
  have c4b0 := decide_eq_true c4
  clear c4
  obtain rfl := Option.some.inj H
  go_enter Try.func22, Try.ntmps22
  go_wp2_with (first | ((with_reducible refine gate_dst (N := 2) rfl ?_); refine q_box (N := 2) (cs := #[.int .i64 a0_0, .slice A0_1 l0_1.length c0_1]) (t := 50) ?_; intro gb408 hg w5 hbox hb; have n0_ := am (below_step bq hb); have n1_ := am (hbox); have n2_ := am ((q_g hg bq : w.heap.size ≤ gb408)); have n3_ := n2_; revert n0_ n1_ n2_ n3_; clear HB; intro HB BK408 GW408 GE408; clear hb hbox hg; obtain ⟨hcz6_0, hcz6_1, hfz6_0, hfz6_1⟩ := q_2 BK408.out) | ((with_reducible refine gate_callee (f := 72) rfl ?_); refine goesLq (some 8) rfl rfl Try.func72 (by kernel_rfl) rfl #[.slice A0_1 l0_1.length c0_1, .int .i64 a1] rfl ?_; (with_reducible refine (laws_szLegS.calls _ _ l0_1 a1 t409 _ ?side1 ?side2 A3.out).mono ?_); (case side1 => exact q_c ((Kd.C_below HR0_1.out HB.out))); (case side2 => exact HC0_1.out); rintro e w' ⟨rfl, ⟨nd, rfl⟩⟩; refine ⟨_, rfl, ?_⟩))
  go_ret
  exact ⟨q_e, bq⟩
 ·rw [if_neg c4] at H
  have c4b0 := decide_eq_false c4
  clear c4
  obtain rfl := Option.some.inj H
  go_enter Try.func22, Try.ntmps22
  go_wp2_with (first | ((with_reducible refine gate_dst (N := 2) rfl ?_); refine q_box (N := 2) (cs := #[.int .i64 a0_0, .slice A0_1 l0_1.length c0_1]) (t := 50) ?_; intro gb408 hg w7 hbox hb; have n0_ := am (below_step bq hb); have n1_ := am (hbox); have n2_ := am ((q_g hg bq : w.heap.size ≤ gb408)); have n3_ := n2_; revert n0_ n1_ n2_ n3_; clear HB; intro HB BK408 GW408 GE408; clear hb hbox hg; obtain ⟨hcz8_0, hcz8_1, hfz8_0, hfz8_1⟩ := q_2 BK408.out) | ((with_reducible refine gate_callee (f := 72) rfl ?_); refine goesLq (some 8) rfl rfl Try.func72 (by kernel_rfl) rfl #[.slice A0_1 l0_1.length c0_1, .int .i64 a1] rfl ?_; (with_reducible refine (laws_szLegS.calls _ _ l0_1 a1 t409 _ ?side1 ?side2 A3.out).mono ?_); (case side1 => exact q_c ((Kd.C_below HR0_1.out HB.out))); (case side2 => exact HC0_1.out); rintro e w' ⟨rfl, ⟨nd, rfl⟩⟩; refine ⟨_, rfl, ?_⟩))
  go_ret
  exact ⟨q_e, bq⟩

/-! ### laws_szContractS: function 39 -/
def laws_szContractS.l0 : Nat → List (S50) → Int → Int → Option (Int)
  | 0, _, _, _ => none
  | k + 1, x0, x1, x5 => if x5 < (x0.length : Int) then (if 0 ≤ x5 then ((laws_szContract.f ((rd_T50 x0 x5).f0) ((rd_T50 x0 x5).f1) x1).bind fun t411 => (if t411 < 0 then (some (-1)) else (laws_szContractS.l0 k x0 t411 (wrap64 (x5 + 1))))) else (none)) else (some x1)
def laws_szContractS.f (k : Nat) (l0 : List (S50)) (a1 : Int) : Option (Int) := if (wrap64 (a1 - (l0.length : Int))) < 0 then (some (-1)) else (laws_szContractS.l0 k l0 (wrap64 (a1 - (l0.length : Int))) 0)
theorem laws_szContractS.calls (k : Nat) (A0 : Option Addr) (c0 : Nat) (l0 : List (S50)) (a1 : Int) (r : Int) (w : World) (hr0 : Kd.C k50 w A0 l0.length l0) (hc0 : l0.length ≤ c0) (h : laws_szContractS.f k l0 a1 = some r) :
  Calls Try.prog 39 #[.slice A0 l0.length c0, .int .i64 a1] w fun e w' => e = .returned (.int .i64 r) ∧ Below w.heap.size w w' := by
 have hu50 := Try.underlying50
 have HR0 := am hr0
 have HC0 := am hc0
 clear hr0 hc0
 have HB := am (Below.refl w.heap.size w)
 have H : (if (wrap64 (a1 - (l0.length : Int))) < 0 then (some (-1)) else (laws_szContractS.l0 k l0 (wrap64 (a1 - (l0.length : Int))) 0)) = some r := h
 clear h
 by_cases c3 : (wrap64 (a1 - (l0.length : Int))) < 0
 ·rw [if_pos c3] at H
  have c3b0 := decide_eq_true c3
  clear c3
  obtain rfl := Option.some.inj H
  go_enter Try.func39, Try.ntmps39
  go_wp2
  go_ret
  exact ⟨q_e, bq⟩
 ·rw [if_neg c3] at H
  have c3b0 := decide_eq_false c3
  clear c3
  have H' := am H
  clear H
  go_enter Try.func39, Try.ntmps39
  go_wp2
  go_loopg [1, 5] k (fun kq v1 v5 w' => ∃ (x1_1 : Int) (x5_1 : Int), v1 = .int .i64 x1_1 ∧ v5 = .int .i64 x5_1 ∧ Aside0 (laws_szContractS.l0 kq l0 x1_1 x5_1 = some r) ∧ Aside0 (kq ≤ k) ∧ Aside0 (Below w.heap.size w w'))
  case atStart => exact ⟨(wrap64 (a1 - (l0.length : Int))), (0), q_i, q_i, H', ⟨Nat.le_refl _⟩, ⟨bq⟩⟩
  case round =>
   clear H'
   (try clear p2); (try clear c3); (try clear c3b0)
   obtain ⟨x1_1, x5_1, rfl, rfl, HA, HK1, HB⟩ := hrel
   cases gk with
   | zero => exact absurd HA.out (by simp [laws_szContractS.l0])
   | succ k1 =>
    have H := HA.out
    clear HA
    simp only [laws_szContractS.l0] at H
    by_cases c4 : x5_1 < (l0.length : Int)
    ·rw [if_pos c4] at H
     have c4b0 := decide_eq_true c4
     clear c4
     by_cases c5 : 0 ≤ x5_1
     ·rw [if_pos c5] at H
      have c5b0 := decide_eq_true c5
      clear c5
      replace H := ob H
      obtain ⟨t411, A60, H⟩ := H
      replace H : (if t411 < 0 then (some (-1)) else (laws_szContractS.l0 k1 l0 t411 (wrap64 (x5_1 + 1)))) = some r := H
      have A6 := am A60
      clear A60
      by_cases c7 : t411 < 0
      ·rw [if_pos c7] at H
       have c7b0 := decide_eq_true c7
       clear c7
       obtain rfl := Option.some.inj H
       have p410 : 0 ≤ (x5_1 : Int) := q_d
       have q410 : x5_1 < (l0.length : Int) := q_d
       obtain ⟨ad410, A410_1, c410_1, e410, hx410_0, hx410_1, hl410_1, hi410_1⟩ := at_T50 HR0.out x5_1 p410 q410
       cases e410
       replace hx410_0 := q_x HB.out hx410_0
       replace hx410_1 := q_x HB.out hx410_1
       have HR410_1 := am hi410_1
       have HC410_1 := am hl410_1
       clear hi410_1 hl410_1
       replace p410 := eq_true p410
       replace q410 := eq_true q410
       go_wp2_with (first | ((with_reducible refine gate_callee (f := 22) rfl ?_); refine goesLq (some 23) rfl rfl Try.func22 (by kernel_rfl) rfl #[.agg #[.int .i64 ((rd_T50 l0 x5_1).f0), .slice A410_1 ((rd_T50 l0 x5_1).f1).length c410_1], .int .i64 x1_1] rfl ?_; (with_reducible refine (laws_szContract.calls ((rd_T50 l0 x5_1).f0) _ _ ((rd_T50 l0 x5_1).f1) x1_1 t411 _ ?side1 ?side2 A6.out).mono ?_); (case side1 => exact q_c ((Kd.C_below HR410_1.out HB.out))); (case side2 => exact HC410_1.out); rintro e w8 ⟨rfl, hb⟩; refine ⟨_, rfl, ?_⟩; have n0_ := am (below_step bq hb); revert n0_; clear HB; intro HB; (try clear hb); (try clear hb2); (try clear hk); (try clear hi)))
       go_ret
       exact ⟨q_e, bq⟩
      ·rw [if_neg c7] at H
       have c7b0 := decide_eq_false c7
       clear c7
       have H' := am H
       clear H
       have p410 : 0 ≤ (x5_1 : Int) := q_d
       have q410 : x5_1 < (l0.length : Int) := q_d
       obtain ⟨ad410, A410_1, c410_1, e410, hx410_0, hx410_1, hl410_1, hi410_1⟩ := at_T50 HR0.out x5_1 p410 q410
       cases e410
       replace hx410_0 := q_x HB.out hx410_0
       replace hx410_1 := q_x HB.out hx410_1
       have HR410_1 := am hi410_1
       have HC410_1 := am hl410_1
       clear hi410_1 hl410_1
       replace p410 := eq_true p410
       replace q410 := eq_true q410
       go_wp2_with (first | ((with_reducible refine gate_callee (f := 22) rfl ?_); refine goesLq (some 23) rfl rfl Try.func22 (by kernel_rfl) rfl #[.agg #[.int .i64 ((rd_T50 l0 x5_1).f0), .slice A410_1 ((rd_T50 l0 x5_1).f1).length c410_1], .int .i64 x1_1] rfl ?_; (with_reducible refine (laws_szContract.calls ((rd_T50 l0 x5_1).f0) _ _ ((rd_T50 l0 x5_1).f1) x1_1 t411 _ ?side1 ?side2 A6.out).mono ?_); (case side1 => exact q_c ((Kd.C_below HR410_1.out HB.out))); (case side2 => exact HC410_1.out); rintro e w9 ⟨rfl, hb⟩; refine ⟨_, rfl, ?_⟩; have n0_ := am (below_step bq hb); revert n0_; clear HB; intro HB; (try clear hb); (try clear hb2); (try clear hk); (try clear hi)))
       go_roundg k1
       case measure => have := HK1.out; omega
       case rel => exact ⟨(t411), (wrap64 (x5_1 + 1)), q_i, q_i, H', ⟨by have := HK1.out; omega⟩, ⟨bq⟩⟩
     ·rw [if_neg c5] at H
      exact absurd H (by simp)
    ·rw [if_neg c4] at H
     have c4b0 := decide_eq_false c4
     clear c4
     obtain rfl := Option.some.inj H
     go_wp2
     go_ret
     exact ⟨q_e, bq⟩

/-! ### laws_toLeg: function 107 -/
def laws_toLeg.f (a0_0 : Int) (a0_1 : Int) (a0_2 : Int) (a0_3 : Int) : Option (Int × Int × Int × Int) := some (a0_0, a0_1, a0_2, a0_3)
theorem laws_toLeg.calls (a0_0 : Int) (a0_1 : Int) (a0_2 : Int) (a0_3 : Int) (r1 : Int) (r2 : Int) (r3 : Int) (r4 : Int) (w : World) (h : laws_toLeg.f a0_0 a0_1 a0_2 a0_3 = some (r1, r2, r3, r4)) :
  Calls Try.prog 107 #[.agg #[.int .i64 a0_0, .int .i64 a0_1, .int .i64 a0_2, .int .i64 a0_3]] w fun e w' => e = .returned (.agg #[.int .i64 r1, .int .i64 r2, .int .i64 r3, .int .i64 r4]) ∧ Below w.heap.size w w' := by
 have hu137 := Try.underlying137
 have hu86 := Try.underlying86
 have HB := am (Below.refl w.heap.size w)
 have H : (some (a0_0, a0_1, a0_2, a0_3)) = some (r1, r2, r3, r4) := h
 clear h
 simp only [Option.some.injEq, Prod.mk.injEq] at H
 obtain ⟨rfl, rfl, rfl, rfl⟩ := H
 go_enter Try.func107, Try.ntmps107
 go_wp2_with (first | ((with_reducible refine gate_dst (N := 1) rfl ?_); refine q_box (N := 1) (cs := #[.int .i64 a0_0, .int .i64 a0_1, .int .i64 a0_2, .int .i64 a0_3]) (t := 137) ?_; intro gb412 hg w2 hbox hb; have n0_ := am (below_step bq hb); have n1_ := am (hbox); have n2_ := am ((q_g hg bq : w.heap.size ≤ gb412)); have n3_ := n2_; revert n0_ n1_ n2_ n3_; clear HB; intro HB BK412 GW412 GE412; clear hb hbox hg) | ((with_reducible refine gate_dst (N := 2) rfl ?_); refine q_box (N := 2) (cs := #[.int .i64 0, .int .i64 0, .int .i64 0, .int .i64 0]) (t := 86) ?_; intro gb413 hg w3 hbox hb; have n0_ := am (blk_below (q_b BK412.out) hb); have n1_ := am (below_step bq hb); have n2_ := am (hbox); have n3_ := am ((q_g hg bq : w.heap.size ≤ gb413)); have n4_ := n3_; have n5_ := am ((q_n hg (q_b BK412.out) : gb412 ≠ gb413)); have n6_ := am n5_.out.symm; revert n0_ n1_ n2_ n3_ n4_ n5_ n6_; clear BK412 HB; intro BK412 HB BK413 GW413 GE413 NB412_413 NB413_412; clear hb hbox hg) | ((with_reducible refine gate_dst (N := 3) rfl ?_); refine q_box (N := 3) (cs := #[.int .i64 0, .int .i64 0, .int .i64 0, .int .i64 0]) (t := 86) ?_; intro gb414 hg w4 hbox hb; have n0_ := am (blk_below (q_b BK412.out) hb); have n1_ := am (blk_below (q_b BK413.out) hb); have n2_ := am (below_step bq hb); have n3_ := am (hbox); have n4_ := am ((q_g hg bq : w.heap.size ≤ gb414)); have n5_ := n4_; have n6_ := am ((q_n hg (q_b BK412.out) : gb412 ≠ gb414)); have n7_ := am n6_.out.symm; have n8_ := am ((q_n hg (q_b BK413.out) : gb413 ≠ gb414)); have n9_ := am n8_.out.symm; revert n0_ n1_ n2_ n3_ n4_ n5_ n6_ n7_ n8_ n9_; clear BK412 BK413 HB; intro BK412 BK413 HB BK414 GW414 GE414 NB412_414 NB414_412 NB413_414 NB414_413; clear hb hbox hg; have hnb5 := NB412_413.out; have hnc5 := NB413_412.out; have hnb6 := NB412_414.out; have hnc6 := NB414_412.out; obtain ⟨hcz7_0, hcz7_1, hcz7_2, hcz7_3, hfz7_0, hfz7_1, hfz7_2, hfz7_3⟩ := q_4 BK412.out; have hnb8 := NB414_413.out; have hnc8 := NB413_414.out; obtain ⟨hcz9_0, hcz9_1, hcz9_2, hcz9_3, hfz9_0, hfz9_1, hfz9_2, hfz9_3⟩ := q_4 BK414.out; obtain ⟨hcz10_0, hcz10_1, hcz10_2, hcz10_3, hfz10_0, hfz10_1, hfz10_2, hfz10_3⟩ := q_4 BK413.out))
 refine bodyPost_ret (results_cell_row rfl _ _ gb413 86 #[.int .i64 a0_0, .int .i64 a0_1, .int .i64 a0_2, .int .i64 a0_3] (0, 0) _ rfl (by (with_reducible repeat (first | refine blk_drewN ?_ _ | refine blk_drew ?_ | refine blk_alloc ?_ _)); refine blk_put (cs := #[.int .i64 a0_0, .int .i64 a0_1, .int .i64 a0_2, .int .i64 0]) ?_ 3 _ rfl; (with_reducible repeat (first | refine blk_drewN ?_ _ | refine blk_drew ?_ | refine blk_alloc ?_ _)); refine blk_put (cs := #[.int .i64 a0_0, .int .i64 a0_1, .int .i64 0, .int .i64 0]) ?_ 2 _ rfl; (with_reducible repeat (first | refine blk_drewN ?_ _ | refine blk_drew ?_ | refine blk_alloc ?_ _)); refine blk_put (cs := #[.int .i64 a0_0, .int .i64 0, .int .i64 0, .int .i64 0]) ?_ 1 _ rfl; (with_reducible repeat (first | refine blk_drewN ?_ _ | refine blk_drew ?_ | refine blk_alloc ?_ _)); refine blk_put (cs := #[.int .i64 0, .int .i64 0, .int .i64 0, .int .i64 0]) ?_ 0 _ rfl; (with_reducible repeat (first | refine blk_drewN ?_ _ | refine blk_drew ?_ | refine blk_alloc ?_ _)); refine blk_far ?_ NB413_414.out _; (with_reducible repeat (first | refine blk_drewN ?_ _ | refine blk_drew ?_ | refine blk_alloc ?_ _)); refine blk_far ?_ NB413_414.out _; (with_reducible repeat (first | refine blk_drewN ?_ _ | refine blk_drew ?_ | refine blk_alloc ?_ _)); refine blk_far ?_ NB413_414.out _; (with_reducible repeat (first | refine blk_drewN ?_ _ | refine blk_drew ?_ | refine blk_alloc ?_ _)); refine blk_far ?_ NB413_414.out _; (with_reducible repeat (first | refine blk_drewN ?_ _ | refine blk_drew ?_ | refine blk_alloc ?_ _)); exact BK413.out) Try.underlying86 rfl (by kernel_rfl)) rfl ?_
 exact ⟨q_e, bq⟩

end Go.Proofs.Ytanegggacfmkcaa.PFnExactSettleAll
