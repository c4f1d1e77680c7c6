/- The functions that a law reaches, each as a plain Lean function with the proof that the machine comes to its answer: written by program (the kit's print, turned by wip/gen). No conditions. -/
import Derived.Test.YtanegggacfmkcaaPFnExactSettleOnex0
import Derived.Test.YtanegggacfmkcaaPFnExactSettleOnex16
namespace Go.Proofs.Ytanegggacfmkcaa.PFnExactSettleOne
open Go.RowKit Go.Proofs.YtanegggacfmkcaaW.PrintWords Go.Proofs.YtanegggacfmkcaaW.PrintLast Go.Proofs.YtanegggacfmkcaaW.PrintMore
attribute [local go_sem] max2_int min2_int max_two min_two max_three min_three max_four min_four   -- for this text's walks alone
set_option linter.unusedVariables false
set_option linter.unusedSimpArgs false

/-! ### laws_eqBalanceSS: function 75 -/
def laws_eqBalanceSS.l0 : Nat → List (List (S104)) → List (List (S104)) → Int → Option (Bool)
  | 0, _, _, _ => none
  | k + 1, x0, x1, x5 => if x5 < (x0.length : Int) then (if 0 ≤ x5 then (if x5 < (x1.length : Int) then ((laws_eqBalanceS.f k (rd_L2 x0 x5) (rd_L2 x1 x5)).bind fun t410 => (if t410 = true then (laws_eqBalanceSS.l0 k x0 x1 (wrap64 (x5 + 1))) else (some false))) else (none)) else (none)) else (some true)
def laws_eqBalanceSS.f (k : Nat) (l0 : List (List (S104))) (l1 : List (List (S104))) : Option (Bool) := if (l0.length : Int) = (l1.length : Int) then (laws_eqBalanceSS.l0 k l0 l1 0) else (some false)
def laws_eqBalanceSS.T6 : Bool × List (List Nat × List Nat) := (true, [([], []), ([], []), ([0, 1], [0, 1]), ([2], [2]), ([], []), ([], []), ([4, 5], [4, 5]), ([6], [6]), ([3, 7], [3, 7]), ([8], [8])])
def laws_eqBalanceSS.B6 : List Nat := [0, 0, 3, 7, 0, 0, 48, 112, 255, 511]
theorem laws_eqBalanceSS.tab6 : rtab .any (opsOf Try.f75 6) = laws_eqBalanceSS.T6 := by kernel_rfl
theorem laws_eqBalanceSS.bits6 : waitsOk laws_eqBalanceSS.T6.2 laws_eqBalanceSS.B6 = true := by kernel_rfl
set_option maxHeartbeats 8000000 in
set_option maxRecDepth 100000 in
theorem laws_eqBalanceSS.calls (k : Nat) (A0 : Option Addr) (c0 : Nat) (l0 : List (List (S104))) (A1 : Option Addr) (c1 : Nat) (l1 : List (List (S104))) (r : Bool) (w : World) (hr0 : Kd.C (Kd.slice 104 k104) w A0 l0.length l0) (hc0 : l0.length ≤ c0) (hr1 : Kd.C (Kd.slice 104 k104) w A1 l1.length l1) (hc1 : l1.length ≤ c1) (h : laws_eqBalanceSS.f k l0 l1 = some r) :
  Calls Try.prog 75 #[.slice A0 l0.length c0, .slice A1 l1.length c1] w fun e w' => e = .returned (.bool r) ∧ Below w.heap.size w w' := by
 have HR0 := Aside0.mk hr0
 have HC0 := Aside0.mk hc0
 clear hr0 hc0
 have HR1 := Aside0.mk hr1
 have HC1 := Aside0.mk hc1
 clear hr1 hc1
 have HB := Aside0.mk (Below.refl w.heap.size w)
 have H : (if (l0.length : Int) = (l1.length : Int) then (laws_eqBalanceSS.l0 k l0 l1 0) else (some false)) = some r := h
 clear h
 by_cases c3 : (l0.length : Int) = (l1.length : Int)
 ·rw [if_pos c3] at H
  have c3b0 : ((l0.length : Int) == (l1.length : Int)) = true := beq_iff_eq.mpr c3
  have c3b1 : ((l0.length : Int) != (l1.length : Int)) = false := bne_eq_false_iff_eq.mpr c3
  have c3b2 : (l0.length == l1.length) = true := by first | simpa using c3 | (simp at c3 ⊢; omega)
  clear c3
  have H' := Aside0.mk H
  clear H
  go_enter Try.func75, Try.ntmps75
  go_wp2
  go_loopg [5] k (fun kq v5 w' => ∃ (x5_1 : Int), v5 = .int .i64 x5_1 ∧ Aside0 (laws_eqBalanceSS.l0 kq l0 l1 x5_1 = some r) ∧ Aside0 (kq ≤ k) ∧ Aside0 (Below w.heap.size w w'))
  case atStart => exact ⟨(0), q_i, H', ⟨Nat.le_refl _⟩, ⟨bq⟩⟩
  case round =>
   clear H'
   (try clear c1); (try clear p2); (try clear c3); (try clear c3b0); (try clear c3b1); (try clear c3b2)
   obtain ⟨x5_1, rfl, HA, HK1, HB⟩ := hrel
   cases gk with
   | zero => exact absurd HA.out (by simp [laws_eqBalanceSS.l0])
   | succ k1 =>
    have H := HA.out
    clear HA
    simp only [laws_eqBalanceSS.l0] at H
    by_cases c4 : x5_1 < (l0.length : Int)
    ·rw [if_pos c4] at H
     have c4b0 := decide_eq_true c4
     clear c4
     by_cases c5 : 0 ≤ x5_1
     ·rw [if_pos c5] at H
      have c5b0 := decide_eq_true c5
      clear c5
      by_cases c6 : x5_1 < (l1.length : Int)
      ·rw [if_pos c6] at H
       have c6b0 := decide_eq_true c6
       clear c6
       replace H := Option.bind_eq_some_iff.mp H
       obtain ⟨t410, A70, H⟩ := H
       replace H : (if t410 = true then (laws_eqBalanceSS.l0 k1 l0 l1 (wrap64 (x5_1 + 1))) else (some false)) = some r := H
       have A7 := Aside0.mk A70
       clear A70
       by_cases c8 : t410 = true
       ·subst c8
        have H1 : (laws_eqBalanceSS.l0 k1 l0 l1 (wrap64 (x5_1 + 1))) = some r := by rw [if_pos rfl] at H; exact H
        clear H
        have H := H1
        clear H1
        have H' := Aside0.mk H
        clear H
        try go_wp2
        have n0_ := Aside0.mk (below_drew1 HB.out)
        clear HB
        have HB := n0_
        clear n0_
        have p408 : 0 ≤ (x5_1 : Int) := q_d
        have q408 : x5_1 < (l0.length : Int) := q_d
        obtain ⟨ad408, A408_0, c408_0, e408, hx408_0, hl408_0, hi408_0⟩ := at_L2 HR0.out x5_1 p408 q408
        have hw408_0 := hx408_0
        cases e408
        replace hx408_0 := q_x HB.out hx408_0
        have HR408_0 := Aside0.mk hi408_0
        have HC408_0 := Aside0.mk hl408_0
        clear hi408_0 hl408_0
        replace p408 := eq_true p408
        replace q408 := eq_true q408
        have p409 : 0 ≤ (x5_1 : Int) := q_d
        have q409 : x5_1 < (l1.length : Int) := q_d
        obtain ⟨ad409, A409_0, c409_0, e409, hx409_0, hl409_0, hi409_0⟩ := at_L2 HR1.out x5_1 p409 q409
        have hw409_0 := hx409_0
        cases e409
        replace hx409_0 := q_x HB.out hx409_0
        have HR409_0 := Aside0.mk hi409_0
        have HC409_0 := Aside0.mk hl409_0
        clear hi409_0 hl409_0
        replace p409 := eq_true p409
        replace q409 := eq_true q409
        refine start_ (n := 10) (S := fun w' => w'.cell? (ad408.add (x5_1).toNat) = some (.slice A408_0 (rd_L2 l0 x5_1).length c408_0) ∧ w'.cell? (ad409.add (x5_1).toNat) = some (.slice A409_0 (rd_L2 l1 x5_1).length c409_0)) (ds := []) #[false, false, false, false, false, false, false, false, false, false] (by kernel_rfl) rfl rfl ⟨((HB.out.cell (World.block_lt_of_cell? w _ hw408_0)).trans hw408_0), ((HB.out.cell (World.block_lt_of_cell? w _ hw409_0)).trans hw409_0)⟩ (fun hHeld => ?_); refine with_tabW laws_eqBalanceSS.tab6 laws_eqBalanceSS.bits6 (fun HT_ HW_ => ?_)
        generalize wr.drew = w9 at HB HR408_0 HR409_0 hx408_0 hx409_0 hHeld ⊢
        refine q_p 0 (some 17) #[true, false, false, false, false, false, false, false, false, false] HT_.out ?_
        refine q_p 1 (some 18) #[true, true, false, false, false, false, false, false, false, false] HT_.out ?_
        refine q_p 2 (some 19) #[true, true, true, false, false, false, false, false, false, false] HT_.out ?_
        refine q_p 4 (some 21) #[true, true, true, false, true, false, false, false, false, false] HT_.out ?_
        refine q_p 5 (some 22) #[true, true, true, false, true, true, false, false, false, false] HT_.out ?_
        refine q_p 6 (some 23) #[true, true, true, false, true, true, true, false, false, false] HT_.out ?_
        refine q_t 3 (some 20) #[true, true, true, true, true, true, true, false, false, false] HT_.out HW_.out hHeld ?_
        refine q_t 7 (some 24) #[true, true, true, true, true, true, true, true, false, false] HT_.out HW_.out hHeld ?_
        refine one_ (i := 8) (N := some 25) #[true, true, true, true, true, true, true, true, true, false] rfl rfl (one_of HT_.out (by kernel_rfl)) (by decide) (fun K hK => ?_)
        refine goes_ Try.func37 (by kernel_rfl) rfl #[.slice A408_0 (rd_L2 l0 x5_1).length c408_0, .slice A409_0 (rd_L2 l1 x5_1).length c409_0] (by rfl) rfl rfl (by (try simp only [List.map_toArray, List.map_cons, List.map_nil]); first | done | rfl | (simp only [List.length_drop, List.length_take]; rfl)) ?_
        with_reducible refine (laws_eqBalanceS.calls k1 _ _ (rd_L2 l0 x5_1) _ _ (rd_L2 l1 x5_1) true _ ?side1 ?side2 ?side3 ?side4 A7.out).mono ?_
        (case side1 => exact q_c ((Kd.C_below HR408_0.out HB.out)))
        (case side2 => exact HC408_0.out)
        (case side3 => exact q_c ((Kd.C_below HR409_0.out HB.out)))
        (case side4 => exact HC409_0.out)
        rintro e w10 ⟨rfl, hb⟩
        refine ⟨_, rfl, ?_⟩
        have n0_ := Aside0.mk (below_step bq hb)
        clear HB
        have HB := n0_
        clear n0_
        (try clear hb)
        (try clear hb2)
        (try clear hk)
        (try clear hi)
        refine hK.out _ _ ⟨((HB.out.cell (World.block_lt_of_cell? w _ hw408_0)).trans hw408_0), ((HB.out.cell (World.block_lt_of_cell? w _ hw409_0)).trans hw409_0)⟩ (fun hHeld => ?_)
        clear hK K
        refine norm_ (a' := ?_) ?_ ?_
        rotate_left
        ·show Act.put _ (some 25) _ = _
         simp only [Act.put, List.setIfInBounds_toArray, List.set_cons_zero, List.set_cons_succ, i64_w, i32_w]
         rfl
        refine q_p 9 (some 26) #[true, true, true, true, true, true, true, true, true, true] HT_.out ?_
        refine done_ (done_of HT_.out (by kernel_rfl)) ?_
        try go_wp2
        go_roundg k1
        case measure => have := HK1.out; omega
        case rel => exact ⟨(wrap64 (x5_1 + 1)), q_i, H', ⟨by have := HK1.out; omega⟩, ⟨bq⟩⟩
       ·replace c8 := Bool.eq_false_iff.mpr c8
        subst c8
        have H1 : (some false) = some r := by rw [if_neg (show ¬ (false = true) by decide)] at H; exact H
        clear H
        have H := H1
        clear H1
        obtain rfl := Option.some.inj H
        try go_wp2
        have n0_ := Aside0.mk (below_drew1 HB.out)
        clear HB
        have HB := n0_
        clear n0_
        have p408 : 0 ≤ (x5_1 : Int) := q_d
        have q408 : x5_1 < (l0.length : Int) := q_d
        obtain ⟨ad408, A408_0, c408_0, e408, hx408_0, hl408_0, hi408_0⟩ := at_L2 HR0.out x5_1 p408 q408
        have hw408_0 := hx408_0
        cases e408
        replace hx408_0 := q_x HB.out hx408_0
        have HR408_0 := Aside0.mk hi408_0
        have HC408_0 := Aside0.mk hl408_0
        clear hi408_0 hl408_0
        replace p408 := eq_true p408
        replace q408 := eq_true q408
        have p409 : 0 ≤ (x5_1 : Int) := q_d
        have q409 : x5_1 < (l1.length : Int) := q_d
        obtain ⟨ad409, A409_0, c409_0, e409, hx409_0, hl409_0, hi409_0⟩ := at_L2 HR1.out x5_1 p409 q409
        have hw409_0 := hx409_0
        cases e409
        replace hx409_0 := q_x HB.out hx409_0
        have HR409_0 := Aside0.mk hi409_0
        have HC409_0 := Aside0.mk hl409_0
        clear hi409_0 hl409_0
        replace p409 := eq_true p409
        replace q409 := eq_true q409
        refine start_ (n := 10) (S := fun w' => w'.cell? (ad408.add (x5_1).toNat) = some (.slice A408_0 (rd_L2 l0 x5_1).length c408_0) ∧ w'.cell? (ad409.add (x5_1).toNat) = some (.slice A409_0 (rd_L2 l1 x5_1).length c409_0)) (ds := []) #[false, false, false, false, false, false, false, false, false, false] (by kernel_rfl) rfl rfl ⟨((HB.out.cell (World.block_lt_of_cell? w _ hw408_0)).trans hw408_0), ((HB.out.cell (World.block_lt_of_cell? w _ hw409_0)).trans hw409_0)⟩ (fun hHeld => ?_); refine with_tabW laws_eqBalanceSS.tab6 laws_eqBalanceSS.bits6 (fun HT_ HW_ => ?_)
        generalize wr.drew = w11 at HB HR408_0 HR409_0 hx408_0 hx409_0 hHeld ⊢
        refine q_p 0 (some 17) #[true, false, false, false, false, false, false, false, false, false] HT_.out ?_
        refine q_p 1 (some 18) #[true, true, false, false, false, false, false, false, false, false] HT_.out ?_
        refine q_p 2 (some 19) #[true, true, true, false, false, false, false, false, false, false] HT_.out ?_
        refine q_p 4 (some 21) #[true, true, true, false, true, false, false, false, false, false] HT_.out ?_
        refine q_p 5 (some 22) #[true, true, true, false, true, true, false, false, false, false] HT_.out ?_
        refine q_p 6 (some 23) #[true, true, true, false, true, true, true, false, false, false] HT_.out ?_
        refine q_t 3 (some 20) #[true, true, true, true, true, true, true, false, false, false] HT_.out HW_.out hHeld ?_
        refine q_t 7 (some 24) #[true, true, true, true, true, true, true, true, false, false] HT_.out HW_.out hHeld ?_
        refine one_ (i := 8) (N := some 25) #[true, true, true, true, true, true, true, true, true, false] rfl rfl (one_of HT_.out (by kernel_rfl)) (by decide) (fun K hK => ?_)
        refine goes_ Try.func37 (by kernel_rfl) rfl #[.slice A408_0 (rd_L2 l0 x5_1).length c408_0, .slice A409_0 (rd_L2 l1 x5_1).length c409_0] (by rfl) rfl rfl (by (try simp only [List.map_toArray, List.map_cons, List.map_nil]); first | done | rfl | (simp only [List.length_drop, List.length_take]; rfl)) ?_
        with_reducible refine (laws_eqBalanceS.calls k1 _ _ (rd_L2 l0 x5_1) _ _ (rd_L2 l1 x5_1) false _ ?side1 ?side2 ?side3 ?side4 A7.out).mono ?_
        (case side1 => exact q_c ((Kd.C_below HR408_0.out HB.out)))
        (case side2 => exact HC408_0.out)
        (case side3 => exact q_c ((Kd.C_below HR409_0.out HB.out)))
        (case side4 => exact HC409_0.out)
        rintro e w12 ⟨rfl, hb⟩
        refine ⟨_, rfl, ?_⟩
        have n0_ := Aside0.mk (below_step bq hb)
        clear HB
        have HB := n0_
        clear n0_
        (try clear hb)
        (try clear hb2)
        (try clear hk)
        (try clear hi)
        refine hK.out _ _ ⟨((HB.out.cell (World.block_lt_of_cell? w _ hw408_0)).trans hw408_0), ((HB.out.cell (World.block_lt_of_cell? w _ hw409_0)).trans hw409_0)⟩ (fun hHeld => ?_)
        clear hK K
        refine norm_ (a' := ?_) ?_ ?_
        rotate_left
        ·show Act.put _ (some 25) _ = _
         simp only [Act.put, List.setIfInBounds_toArray, List.set_cons_zero, List.set_cons_succ, i64_w, i32_w]
         rfl
        refine q_p 9 (some 26) #[true, true, true, true, true, true, true, true, true, true] HT_.out ?_
        refine done_ (done_of HT_.out (by kernel_rfl)) ?_
        try go_wp2
        go_ret
        exact ⟨q_e, bq⟩
      ·rw [if_neg c6] at H
       exact absurd H (by simp)
     ·rw [if_neg c5] at H
      exact absurd H (by simp)
    ·rw [if_neg c4] at H
     have c4b0 := decide_eq_false c4
     clear c4
     obtain rfl := Option.some.inj H
     go_wp2
     go_ret
     exact ⟨q_e, bq⟩
 ·rw [if_neg c3] at H
  have c3b0 : ((l0.length : Int) == (l1.length : Int)) = false := beq_eq_false_iff_ne.mpr c3
  have c3b1 : ((l0.length : Int) != (l1.length : Int)) = true := bne_iff_ne.mpr c3
  have c3b2 : (l0.length == l1.length) = false := by first | simpa using c3 | (simp at c3 ⊢; omega)
  obtain rfl := Option.some.inj H
  go_enter Try.func75, Try.ntmps75
  go_wp2
  go_ret
  exact ⟨q_e, bq⟩

/-! ### laws_eqLedger: function 27 -/
def laws_eqLedger.f (k : Nat) (l0_0 : List (List (S104))) (l1_0 : List (List (S104))) : Option (Bool) := (laws_eqBalanceSS.f k l0_0 l1_0).bind fun t413 => (if t413 = true then (some true) else (some false))
set_option maxHeartbeats 8000000 in
set_option maxRecDepth 100000 in
theorem laws_eqLedger.calls (k : Nat) (A0_0 : Option Addr) (c0_0 : Nat) (l0_0 : List (List (S104))) (A1_0 : Option Addr) (c1_0 : Nat) (l1_0 : List (List (S104))) (r : Bool) (w : World) (hr0_0 : Kd.C (Kd.slice 104 k104) w A0_0 l0_0.length l0_0) (hc0_0 : l0_0.length ≤ c0_0) (hr1_0 : Kd.C (Kd.slice 104 k104) w A1_0 l1_0.length l1_0) (hc1_0 : l1_0.length ≤ c1_0) (h : laws_eqLedger.f k l0_0 l1_0 = some r) :
  Calls Try.prog 27 #[.agg #[.slice A0_0 l0_0.length c0_0], .agg #[.slice A1_0 l1_0.length c1_0]] w fun e w' => e = .returned (.bool r) ∧ Below w.heap.size w w' := by
 have hu26 := Try.underlying26
 have HR0_0 := Aside0.mk hr0_0
 have HC0_0 := Aside0.mk hc0_0
 clear hr0_0 hc0_0
 have HR1_0 := Aside0.mk hr1_0
 have HC1_0 := Aside0.mk hc1_0
 clear hr1_0 hc1_0
 have HB := Aside0.mk (Below.refl w.heap.size w)
 have H : ((laws_eqBalanceSS.f k l0_0 l1_0).bind fun t413 => (if t413 = true then (some true) else (some false))) = some r := h
 clear h
 replace H := Option.bind_eq_some_iff.mp H
 obtain ⟨t413, A30, H⟩ := H
 replace H : (if t413 = true then (some true) else (some false)) = some r := H
 have A3 := Aside0.mk A30
 clear A30
 by_cases c4 : t413 = true
 ·subst c4
  have H1 : (some true) = some r := by rw [if_pos rfl] at H; exact H
  clear H
  have H := H1
  clear H1
  obtain rfl := Option.some.inj H
  go_enter Try.func27, Try.ntmps27
  go_wp2_with (first | ((with_reducible refine gate_dst (N := 2) rfl ?_); refine q_box (N := 2) (cs := #[.slice A0_0 l0_0.length c0_0]) (t := 26) ?_; intro gb411 hg w5 hbox hb; have n0_ := Aside0.mk (below_step bq hb); have n1_ := Aside0.mk (hbox); have n2_ := Aside0.mk ((q_g hg bq : w.heap.size ≤ gb411)); have n3_ := Aside0.mk ((q_g hg bq : w.heap.size ≤ gb411)); revert n0_ n1_ n2_ n3_; clear HB; intro HB BK411 GW411 GE411; clear hb hbox hg) | ((with_reducible refine gate_dst (N := 3) rfl ?_); refine q_box (N := 3) (cs := #[.slice A1_0 l1_0.length c1_0]) (t := 26) ?_; intro gb412 hg w6 hbox hb; have n0_ := Aside0.mk (blk_below (q_b BK411.out) hb); have n1_ := Aside0.mk (below_step bq hb); have n2_ := Aside0.mk (hbox); have n3_ := Aside0.mk ((q_g hg bq : w.heap.size ≤ gb412)); have n4_ := Aside0.mk ((q_g hg bq : w.heap.size ≤ gb412)); have n5_ := Aside0.mk ((q_n hg (q_b BK411.out) : gb411 ≠ gb412)); have n6_ := Aside0.mk ((q_m hg (q_b BK411.out) : gb412 ≠ gb411)); revert n0_ n1_ n2_ n3_ n4_ n5_ n6_; clear BK411 HB; intro BK411 HB BK412 GW412 GE412 NB411_412 NB412_411; clear hb hbox hg; have hnb7 := NB411_412.out; have hnc7 := NB412_411.out; obtain ⟨hcz8_0, hfz8_0⟩ := q_1 BK411.out; obtain ⟨hcz9_0, hfz9_0⟩ := q_1 BK412.out) | ((with_reducible refine gate_callee (f := 75) rfl ?_); refine goesLq (some 9) rfl rfl Try.func75 (by kernel_rfl) rfl #[.slice A0_0 l0_0.length c0_0, .slice A1_0 l1_0.length c1_0] rfl ?_; (with_reducible refine (laws_eqBalanceSS.calls k _ _ l0_0 _ _ l1_0 true _ ?side1 ?side2 ?side3 ?side4 A3.out).mono ?_); (case side1 => exact q_c ((Kd.C_below HR0_0.out HB.out))); (case side2 => exact HC0_0.out); (case side3 => exact q_c ((Kd.C_below HR1_0.out HB.out))); (case side4 => exact HC1_0.out); rintro e w10 ⟨rfl, hb⟩; refine ⟨_, rfl, ?_⟩; have n0_ := Aside0.mk (blk_below (q_b BK411.out) hb); have n1_ := Aside0.mk (blk_below (q_b BK412.out) hb); have n2_ := Aside0.mk (below_step bq hb); revert n0_ n1_ n2_; clear BK411 BK412 HB; intro BK411 BK412 HB; (try clear hb); (try clear hb2); (try clear hk); (try clear hi)))
  go_ret
  exact ⟨q_e, bq⟩
 ·replace c4 := Bool.eq_false_iff.mpr c4
  subst c4
  have H1 : (some false) = some r := by rw [if_neg (show ¬ (false = true) by decide)] at H; exact H
  clear H
  have H := H1
  clear H1
  obtain rfl := Option.some.inj H
  go_enter Try.func27, Try.ntmps27
  go_wp2_with (first | ((with_reducible refine gate_dst (N := 2) rfl ?_); refine q_box (N := 2) (cs := #[.slice A0_0 l0_0.length c0_0]) (t := 26) ?_; intro gb411 hg w11 hbox hb; have n0_ := Aside0.mk (below_step bq hb); have n1_ := Aside0.mk (hbox); have n2_ := Aside0.mk ((q_g hg bq : w.heap.size ≤ gb411)); have n3_ := Aside0.mk ((q_g hg bq : w.heap.size ≤ gb411)); revert n0_ n1_ n2_ n3_; clear HB; intro HB BK411 GW411 GE411; clear hb hbox hg) | ((with_reducible refine gate_dst (N := 3) rfl ?_); refine q_box (N := 3) (cs := #[.slice A1_0 l1_0.length c1_0]) (t := 26) ?_; intro gb412 hg w12 hbox hb; have n0_ := Aside0.mk (blk_below (q_b BK411.out) hb); have n1_ := Aside0.mk (below_step bq hb); have n2_ := Aside0.mk (hbox); have n3_ := Aside0.mk ((q_g hg bq : w.heap.size ≤ gb412)); have n4_ := Aside0.mk ((q_g hg bq : w.heap.size ≤ gb412)); have n5_ := Aside0.mk ((q_n hg (q_b BK411.out) : gb411 ≠ gb412)); have n6_ := Aside0.mk ((q_m hg (q_b BK411.out) : gb412 ≠ gb411)); revert n0_ n1_ n2_ n3_ n4_ n5_ n6_; clear BK411 HB; intro BK411 HB BK412 GW412 GE412 NB411_412 NB412_411; clear hb hbox hg; have hnb13 := NB411_412.out; have hnc13 := NB412_411.out; obtain ⟨hcz14_0, hfz14_0⟩ := q_1 BK411.out; obtain ⟨hcz15_0, hfz15_0⟩ := q_1 BK412.out) | ((with_reducible refine gate_callee (f := 75) rfl ?_); refine goesLq (some 9) rfl rfl Try.func75 (by kernel_rfl) rfl #[.slice A0_0 l0_0.length c0_0, .slice A1_0 l1_0.length c1_0] rfl ?_; (with_reducible refine (laws_eqBalanceSS.calls k _ _ l0_0 _ _ l1_0 false _ ?side1 ?side2 ?side3 ?side4 A3.out).mono ?_); (case side1 => exact q_c ((Kd.C_below HR0_0.out HB.out))); (case side2 => exact HC0_0.out); (case side3 => exact q_c ((Kd.C_below HR1_0.out HB.out))); (case side4 => exact HC1_0.out); rintro e w16 ⟨rfl, hb⟩; refine ⟨_, rfl, ?_⟩; have n0_ := Aside0.mk (blk_below (q_b BK411.out) hb); have n1_ := Aside0.mk (blk_below (q_b BK412.out) hb); have n2_ := Aside0.mk (below_step bq hb); revert n0_ n1_ n2_; clear BK411 BK412 HB; intro BK411 BK412 HB; (try clear hb); (try clear hb2); (try clear hk); (try clear hi)))
  go_ret
  exact ⟨q_e, bq⟩

/-! ### laws_eqLedgerResult: function 26 -/
def laws_eqLedgerResult.f (k : Nat) (a0_0 : Int) (l0_1 : List (List (S104))) (a1_0 : Int) (l1_1 : List (List (S104))) : Option (Bool) := if a0_0 = a1_0 then ((laws_eqLedger.f k l0_1 l1_1).bind fun t416 => (if t416 = true then (some true) else (some false))) else (some false)
set_option maxHeartbeats 8000000 in
set_option maxRecDepth 100000 in
theorem laws_eqLedgerResult.calls (k : Nat) (a0_0 : Int) (A0_1 : Option Addr) (c0_1 : Nat) (l0_1 : List (List (S104))) (a1_0 : Int) (A1_1 : Option Addr) (c1_1 : Nat) (l1_1 : List (List (S104))) (r : Bool) (w : World) (hr0_1 : Kd.C (Kd.slice 104 k104) w A0_1 l0_1.length l0_1) (hc0_1 : l0_1.length ≤ c0_1) (hr1_1 : Kd.C (Kd.slice 104 k104) w A1_1 l1_1.length l1_1) (hc1_1 : l1_1.length ≤ c1_1) (h : laws_eqLedgerResult.f k a0_0 l0_1 a1_0 l1_1 = some r) :
  Calls Try.prog 26 #[.agg #[.int .i64 a0_0, .slice A0_1 l0_1.length c0_1], .agg #[.int .i64 a1_0, .slice A1_1 l1_1.length c1_1]] w fun e w' => e = .returned (.bool r) ∧ Below w.heap.size w w' := by
 have hu36 := Try.underlying36
 have hu26 := Try.underlying26
 have HR0_1 := Aside0.mk hr0_1
 have HC0_1 := Aside0.mk hc0_1
 clear hr0_1 hc0_1
 have HR1_1 := Aside0.mk hr1_1
 have HC1_1 := Aside0.mk hc1_1
 clear hr1_1 hc1_1
 have HB := Aside0.mk (Below.refl w.heap.size w)
 have H : (if a0_0 = a1_0 then ((laws_eqLedger.f k l0_1 l1_1).bind fun t416 => (if t416 = true then (some true) else (some false))) else (some false)) = some r := h
 clear h
 by_cases c3 : a0_0 = a1_0
 ·rw [if_pos c3] at H
  have c3b0 : (a0_0 == a1_0) = true := beq_iff_eq.mpr c3
  have c3b1 : (a0_0 != a1_0) = false := bne_eq_false_iff_eq.mpr c3
  clear c3
  replace H := Option.bind_eq_some_iff.mp H
  obtain ⟨t416, A40, H⟩ := H
  replace H : (if t416 = true then (some true) else (some false)) = some r := H
  have A4 := Aside0.mk A40
  clear A40
  by_cases c5 : t416 = true
  ·subst c5
   have H1 : (some true) = some r := by rw [if_pos rfl] at H; exact H
   clear H
   have H := H1
   clear H1
   obtain rfl := Option.some.inj H
   go_enter Try.func26, Try.ntmps26
   go_wp2_with (first | ((with_reducible refine gate_dst (N := 2) rfl ?_); refine q_box (N := 2) (cs := #[.int .i64 a0_0, .slice A0_1 l0_1.length c0_1]) (t := 36) ?_; intro gb414 hg w6 hbox hb; have n0_ := Aside0.mk (below_step bq hb); have n1_ := Aside0.mk (hbox); have n2_ := Aside0.mk ((q_g hg bq : w.heap.size ≤ gb414)); have n3_ := Aside0.mk ((q_g hg bq : w.heap.size ≤ gb414)); revert n0_ n1_ n2_ n3_; clear HB; intro HB BK414 GW414 GE414; clear hb hbox hg) | ((with_reducible refine gate_dst (N := 3) rfl ?_); refine q_box (N := 3) (cs := #[.int .i64 a1_0, .slice A1_1 l1_1.length c1_1]) (t := 36) ?_; intro gb415 hg w7 hbox hb; have n0_ := Aside0.mk (blk_below (q_b BK414.out) hb); have n1_ := Aside0.mk (below_step bq hb); have n2_ := Aside0.mk (hbox); have n3_ := Aside0.mk ((q_g hg bq : w.heap.size ≤ gb415)); have n4_ := Aside0.mk ((q_g hg bq : w.heap.size ≤ gb415)); have n5_ := Aside0.mk ((q_n hg (q_b BK414.out) : gb414 ≠ gb415)); have n6_ := Aside0.mk ((q_m hg (q_b BK414.out) : gb415 ≠ gb414)); revert n0_ n1_ n2_ n3_ n4_ n5_ n6_; clear BK414 HB; intro BK414 HB BK415 GW415 GE415 NB414_415 NB415_414; clear hb hbox hg; have hnb8 := NB414_415.out; have hnc8 := NB415_414.out; obtain ⟨hcz9_0, hcz9_1, hfz9_0, hfz9_1⟩ := q_2 BK414.out; obtain ⟨hcz10_0, hcz10_1, hfz10_0, hfz10_1⟩ := q_2 BK415.out) | ((with_reducible refine gate_callee (f := 27) rfl ?_); refine goesLq (some 14) rfl rfl Try.func27 (by kernel_rfl) rfl #[.agg #[.slice A0_1 l0_1.length c0_1], .agg #[.slice A1_1 l1_1.length c1_1]] rfl ?_; (with_reducible refine (laws_eqLedger.calls k _ _ l0_1 _ _ l1_1 true _ ?side1 ?side2 ?side3 ?side4 A4.out).mono ?_); (case side1 => exact q_c ((Kd.C_below HR0_1.out HB.out))); (case side2 => exact HC0_1.out); (case side3 => exact q_c ((Kd.C_below HR1_1.out HB.out))); (case side4 => exact HC1_1.out); rintro e w11 ⟨rfl, hb⟩; refine ⟨_, rfl, ?_⟩; have n0_ := Aside0.mk (blk_below (q_b BK414.out) hb); have n1_ := Aside0.mk (blk_below (q_b BK415.out) hb); have n2_ := Aside0.mk (below_step bq hb); revert n0_ n1_ n2_; clear BK414 BK415 HB; intro BK414 BK415 HB; (try clear hb); (try clear hb2); (try clear hk); (try clear hi)))
   go_ret
   exact ⟨q_e, bq⟩
  ·replace c5 := Bool.eq_false_iff.mpr c5
   subst c5
   have H1 : (some false) = some r := by rw [if_neg (show ¬ (false = true) by decide)] at H; exact H
   clear H
   have H := H1
   clear H1
   obtain rfl := Option.some.inj H
   go_enter Try.func26, Try.ntmps26
   go_wp2_with (first | ((with_reducible refine gate_dst (N := 2) rfl ?_); refine q_box (N := 2) (cs := #[.int .i64 a0_0, .slice A0_1 l0_1.length c0_1]) (t := 36) ?_; intro gb414 hg w12 hbox hb; have n0_ := Aside0.mk (below_step bq hb); have n1_ := Aside0.mk (hbox); have n2_ := Aside0.mk ((q_g hg bq : w.heap.size ≤ gb414)); have n3_ := Aside0.mk ((q_g hg bq : w.heap.size ≤ gb414)); revert n0_ n1_ n2_ n3_; clear HB; intro HB BK414 GW414 GE414; clear hb hbox hg) | ((with_reducible refine gate_dst (N := 3) rfl ?_); refine q_box (N := 3) (cs := #[.int .i64 a1_0, .slice A1_1 l1_1.length c1_1]) (t := 36) ?_; intro gb415 hg w13 hbox hb; have n0_ := Aside0.mk (blk_below (q_b BK414.out) hb); have n1_ := Aside0.mk (below_step bq hb); have n2_ := Aside0.mk (hbox); have n3_ := Aside0.mk ((q_g hg bq : w.heap.size ≤ gb415)); have n4_ := Aside0.mk ((q_g hg bq : w.heap.size ≤ gb415)); have n5_ := Aside0.mk ((q_n hg (q_b BK414.out) : gb414 ≠ gb415)); have n6_ := Aside0.mk ((q_m hg (q_b BK414.out) : gb415 ≠ gb414)); revert n0_ n1_ n2_ n3_ n4_ n5_ n6_; clear BK414 HB; intro BK414 HB BK415 GW415 GE415 NB414_415 NB415_414; clear hb hbox hg; have hnb14 := NB414_415.out; have hnc14 := NB415_414.out; obtain ⟨hcz15_0, hcz15_1, hfz15_0, hfz15_1⟩ := q_2 BK414.out; obtain ⟨hcz16_0, hcz16_1, hfz16_0, hfz16_1⟩ := q_2 BK415.out) | ((with_reducible refine gate_callee (f := 27) rfl ?_); refine goesLq (some 14) rfl rfl Try.func27 (by kernel_rfl) rfl #[.agg #[.slice A0_1 l0_1.length c0_1], .agg #[.slice A1_1 l1_1.length c1_1]] rfl ?_; (with_reducible refine (laws_eqLedger.calls k _ _ l0_1 _ _ l1_1 false _ ?side1 ?side2 ?side3 ?side4 A4.out).mono ?_); (case side1 => exact q_c ((Kd.C_below HR0_1.out HB.out))); (case side2 => exact HC0_1.out); (case side3 => exact q_c ((Kd.C_below HR1_1.out HB.out))); (case side4 => exact HC1_1.out); rintro e w17 ⟨rfl, hb⟩; refine ⟨_, rfl, ?_⟩; have n0_ := Aside0.mk (blk_below (q_b BK414.out) hb); have n1_ := Aside0.mk (blk_below (q_b BK415.out) hb); have n2_ := Aside0.mk (below_step bq hb); revert n0_ n1_ n2_; clear BK414 BK415 HB; intro BK414 BK415 HB; (try clear hb); (try clear hb2); (try clear hk); (try clear hi)))
   go_ret
   exact ⟨q_e, bq⟩
 ·rw [if_neg c3] at H
  have c3b0 : (a0_0 == a1_0) = false := beq_eq_false_iff_ne.mpr c3
  have c3b1 : (a0_0 != a1_0) = true := bne_iff_ne.mpr c3
  obtain rfl := Option.some.inj H
  go_enter Try.func26, Try.ntmps26
  go_wp2_with (first | ((with_reducible refine gate_dst (N := 2) rfl ?_); refine q_box (N := 2) (cs := #[.int .i64 a0_0, .slice A0_1 l0_1.length c0_1]) (t := 36) ?_; intro gb414 hg w18 hbox hb; have n0_ := Aside0.mk (below_step bq hb); have n1_ := Aside0.mk (hbox); have n2_ := Aside0.mk ((q_g hg bq : w.heap.size ≤ gb414)); have n3_ := Aside0.mk ((q_g hg bq : w.heap.size ≤ gb414)); revert n0_ n1_ n2_ n3_; clear HB; intro HB BK414 GW414 GE414; clear hb hbox hg) | ((with_reducible refine gate_dst (N := 3) rfl ?_); refine q_box (N := 3) (cs := #[.int .i64 a1_0, .slice A1_1 l1_1.length c1_1]) (t := 36) ?_; intro gb415 hg w19 hbox hb; have n0_ := Aside0.mk (blk_below (q_b BK414.out) hb); have n1_ := Aside0.mk (below_step bq hb); have n2_ := Aside0.mk (hbox); have n3_ := Aside0.mk ((q_g hg bq : w.heap.size ≤ gb415)); have n4_ := Aside0.mk ((q_g hg bq : w.heap.size ≤ gb415)); have n5_ := Aside0.mk ((q_n hg (q_b BK414.out) : gb414 ≠ gb415)); have n6_ := Aside0.mk ((q_m hg (q_b BK414.out) : gb415 ≠ gb414)); revert n0_ n1_ n2_ n3_ n4_ n5_ n6_; clear BK414 HB; intro BK414 HB BK415 GW415 GE415 NB414_415 NB415_414; clear hb hbox hg; have hnb20 := NB414_415.out; have hnc20 := NB415_414.out; obtain ⟨hcz21_0, hcz21_1, hfz21_0, hfz21_1⟩ := q_2 BK414.out; obtain ⟨hcz22_0, hcz22_1, hfz22_0, hfz22_1⟩ := q_2 BK415.out))
  go_ret
  exact ⟨q_e, bq⟩

/-! ### laws_eqLeg: function 108 -/
def laws_eqLeg.f (a0_0 : Int) (a0_1 : Int) (a0_2 : Int) (a0_3 : Int) (a1_0 : Int) (a1_1 : Int) (a1_2 : Int) (a1_3 : Int) : Option (Bool) := if a0_0 = a1_0 then (if a0_1 = a1_1 then (if a0_2 = a1_2 then (if a0_3 = a1_3 then (some true) else (some false)) else (some false)) else (some false)) else (some false)
set_option maxHeartbeats 8000000 in
set_option maxRecDepth 100000 in
theorem laws_eqLeg.calls (a0_0 : Int) (a0_1 : Int) (a0_2 : Int) (a0_3 : Int) (a1_0 : Int) (a1_1 : Int) (a1_2 : Int) (a1_3 : Int) (r : Bool) (w : World) (h : laws_eqLeg.f a0_0 a0_1 a0_2 a0_3 a1_0 a1_1 a1_2 a1_3 = some r) :
  Calls Try.prog 108 #[.agg #[.int .i64 a0_0, .int .i64 a0_1, .int .i64 a0_2, .int .i64 a0_3], .agg #[.int .i64 a1_0, .int .i64 a1_1, .int .i64 a1_2, .int .i64 a1_3]] w fun e w' => e = .returned (.bool r) ∧ Below w.heap.size w w' := by
 have hu86 := Try.underlying86
 have HB := Aside0.mk (Below.refl w.heap.size w)
 have H : (if a0_0 = a1_0 then (if a0_1 = a1_1 then (if a0_2 = a1_2 then (if a0_3 = a1_3 then (some true) else (some false)) else (some false)) else (some false)) else (some false)) = some r := h
 clear h
 by_cases c3 : a0_0 = a1_0
 ·rw [if_pos c3] at H
  have c3b0 : (a0_0 == a1_0) = true := beq_iff_eq.mpr c3
  have c3b1 : (a0_0 != a1_0) = false := bne_eq_false_iff_eq.mpr c3
  clear c3
  by_cases c4 : a0_1 = a1_1
  ·rw [if_pos c4] at H
   have c4b0 : (a0_1 == a1_1) = true := beq_iff_eq.mpr c4
   have c4b1 : (a0_1 != a1_1) = false := bne_eq_false_iff_eq.mpr c4
   clear c4
   by_cases c5 : a0_2 = a1_2
   ·rw [if_pos c5] at H
    have c5b0 : (a0_2 == a1_2) = true := beq_iff_eq.mpr c5
    have c5b1 : (a0_2 != a1_2) = false := bne_eq_false_iff_eq.mpr c5
    clear c5
    by_cases c6 : a0_3 = a1_3
    ·rw [if_pos c6] at H
     have c6b0 : (a0_3 == a1_3) = true := beq_iff_eq.mpr c6
     have c6b1 : (a0_3 != a1_3) = false := bne_eq_false_iff_eq.mpr c6
     clear c6
     obtain rfl := Option.some.inj H
     go_enter Try.func108, Try.ntmps108
     go_wp2_with (first | ((with_reducible refine gate_dst (N := 2) rfl ?_); refine q_box (N := 2) (cs := #[.int .i64 a0_0, .int .i64 a0_1, .int .i64 a0_2, .int .i64 a0_3]) (t := 86) ?_; intro gb417 hg w7 hbox hb; have n0_ := Aside0.mk (below_step bq hb); have n1_ := Aside0.mk (hbox); have n2_ := Aside0.mk ((q_g hg bq : w.heap.size ≤ gb417)); have n3_ := Aside0.mk ((q_g hg bq : w.heap.size ≤ gb417)); revert n0_ n1_ n2_ n3_; clear HB; intro HB BK417 GW417 GE417; clear hb hbox hg) | ((with_reducible refine gate_dst (N := 3) rfl ?_); refine q_box (N := 3) (cs := #[.int .i64 a1_0, .int .i64 a1_1, .int .i64 a1_2, .int .i64 a1_3]) (t := 86) ?_; intro gb418 hg w8 hbox hb; have n0_ := Aside0.mk (blk_below (q_b BK417.out) hb); have n1_ := Aside0.mk (below_step bq hb); have n2_ := Aside0.mk (hbox); have n3_ := Aside0.mk ((q_g hg bq : w.heap.size ≤ gb418)); have n4_ := Aside0.mk ((q_g hg bq : w.heap.size ≤ gb418)); have n5_ := Aside0.mk ((q_n hg (q_b BK417.out) : gb417 ≠ gb418)); have n6_ := Aside0.mk ((q_m hg (q_b BK417.out) : gb418 ≠ gb417)); revert n0_ n1_ n2_ n3_ n4_ n5_ n6_; clear BK417 HB; intro BK417 HB BK418 GW418 GE418 NB417_418 NB418_417; clear hb hbox hg; have hnb9 := NB417_418.out; have hnc9 := NB418_417.out; obtain ⟨hcz10_0, hcz10_1, hcz10_2, hcz10_3, hfz10_0, hfz10_1, hfz10_2, hfz10_3⟩ := q_4 BK417.out; obtain ⟨hcz11_0, hcz11_1, hcz11_2, hcz11_3, hfz11_0, hfz11_1, hfz11_2, hfz11_3⟩ := q_4 BK418.out))
     go_ret
     exact ⟨q_e, bq⟩
    ·rw [if_neg c6] at H
     have c6b0 : (a0_3 == a1_3) = false := beq_eq_false_iff_ne.mpr c6
     have c6b1 : (a0_3 != a1_3) = true := bne_iff_ne.mpr c6
     obtain rfl := Option.some.inj H
     go_enter Try.func108, Try.ntmps108
     go_wp2_with (first | ((with_reducible refine gate_dst (N := 2) rfl ?_); refine q_box (N := 2) (cs := #[.int .i64 a0_0, .int .i64 a0_1, .int .i64 a0_2, .int .i64 a0_3]) (t := 86) ?_; intro gb417 hg w12 hbox hb; have n0_ := Aside0.mk (below_step bq hb); have n1_ := Aside0.mk (hbox); have n2_ := Aside0.mk ((q_g hg bq : w.heap.size ≤ gb417)); have n3_ := Aside0.mk ((q_g hg bq : w.heap.size ≤ gb417)); revert n0_ n1_ n2_ n3_; clear HB; intro HB BK417 GW417 GE417; clear hb hbox hg) | ((with_reducible refine gate_dst (N := 3) rfl ?_); refine q_box (N := 3) (cs := #[.int .i64 a1_0, .int .i64 a1_1, .int .i64 a1_2, .int .i64 a1_3]) (t := 86) ?_; intro gb418 hg w13 hbox hb; have n0_ := Aside0.mk (blk_below (q_b BK417.out) hb); have n1_ := Aside0.mk (below_step bq hb); have n2_ := Aside0.mk (hbox); have n3_ := Aside0.mk ((q_g hg bq : w.heap.size ≤ gb418)); have n4_ := Aside0.mk ((q_g hg bq : w.heap.size ≤ gb418)); have n5_ := Aside0.mk ((q_n hg (q_b BK417.out) : gb417 ≠ gb418)); have n6_ := Aside0.mk ((q_m hg (q_b BK417.out) : gb418 ≠ gb417)); revert n0_ n1_ n2_ n3_ n4_ n5_ n6_; clear BK417 HB; intro BK417 HB BK418 GW418 GE418 NB417_418 NB418_417; clear hb hbox hg; have hnb14 := NB417_418.out; have hnc14 := NB418_417.out; obtain ⟨hcz15_0, hcz15_1, hcz15_2, hcz15_3, hfz15_0, hfz15_1, hfz15_2, hfz15_3⟩ := q_4 BK417.out; obtain ⟨hcz16_0, hcz16_1, hcz16_2, hcz16_3, hfz16_0, hfz16_1, hfz16_2, hfz16_3⟩ := q_4 BK418.out))
     go_ret
     exact ⟨q_e, bq⟩
   ·rw [if_neg c5] at H
    have c5b0 : (a0_2 == a1_2) = false := beq_eq_false_iff_ne.mpr c5
    have c5b1 : (a0_2 != a1_2) = true := bne_iff_ne.mpr c5
    obtain rfl := Option.some.inj H
    go_enter Try.func108, Try.ntmps108
    go_wp2_with (first | ((with_reducible refine gate_dst (N := 2) rfl ?_); refine q_box (N := 2) (cs := #[.int .i64 a0_0, .int .i64 a0_1, .int .i64 a0_2, .int .i64 a0_3]) (t := 86) ?_; intro gb417 hg w17 hbox hb; have n0_ := Aside0.mk (below_step bq hb); have n1_ := Aside0.mk (hbox); have n2_ := Aside0.mk ((q_g hg bq : w.heap.size ≤ gb417)); have n3_ := Aside0.mk ((q_g hg bq : w.heap.size ≤ gb417)); revert n0_ n1_ n2_ n3_; clear HB; intro HB BK417 GW417 GE417; clear hb hbox hg) | ((with_reducible refine gate_dst (N := 3) rfl ?_); refine q_box (N := 3) (cs := #[.int .i64 a1_0, .int .i64 a1_1, .int .i64 a1_2, .int .i64 a1_3]) (t := 86) ?_; intro gb418 hg w18 hbox hb; have n0_ := Aside0.mk (blk_below (q_b BK417.out) hb); have n1_ := Aside0.mk (below_step bq hb); have n2_ := Aside0.mk (hbox); have n3_ := Aside0.mk ((q_g hg bq : w.heap.size ≤ gb418)); have n4_ := Aside0.mk ((q_g hg bq : w.heap.size ≤ gb418)); have n5_ := Aside0.mk ((q_n hg (q_b BK417.out) : gb417 ≠ gb418)); have n6_ := Aside0.mk ((q_m hg (q_b BK417.out) : gb418 ≠ gb417)); revert n0_ n1_ n2_ n3_ n4_ n5_ n6_; clear BK417 HB; intro BK417 HB BK418 GW418 GE418 NB417_418 NB418_417; clear hb hbox hg; have hnb19 := NB417_418.out; have hnc19 := NB418_417.out; obtain ⟨hcz20_0, hcz20_1, hcz20_2, hcz20_3, hfz20_0, hfz20_1, hfz20_2, hfz20_3⟩ := q_4 BK417.out; obtain ⟨hcz21_0, hcz21_1, hcz21_2, hcz21_3, hfz21_0, hfz21_1, hfz21_2, hfz21_3⟩ := q_4 BK418.out))
    go_ret
    exact ⟨q_e, bq⟩
  ·rw [if_neg c4] at H
   have c4b0 : (a0_1 == a1_1) = false := beq_eq_false_iff_ne.mpr c4
   have c4b1 : (a0_1 != a1_1) = true := bne_iff_ne.mpr c4
   obtain rfl := Option.some.inj H
   go_enter Try.func108, Try.ntmps108
   go_wp2_with (first | ((with_reducible refine gate_dst (N := 2) rfl ?_); refine q_box (N := 2) (cs := #[.int .i64 a0_0, .int .i64 a0_1, .int .i64 a0_2, .int .i64 a0_3]) (t := 86) ?_; intro gb417 hg w22 hbox hb; have n0_ := Aside0.mk (below_step bq hb); have n1_ := Aside0.mk (hbox); have n2_ := Aside0.mk ((q_g hg bq : w.heap.size ≤ gb417)); have n3_ := Aside0.mk ((q_g hg bq : w.heap.size ≤ gb417)); revert n0_ n1_ n2_ n3_; clear HB; intro HB BK417 GW417 GE417; clear hb hbox hg) | ((with_reducible refine gate_dst (N := 3) rfl ?_); refine q_box (N := 3) (cs := #[.int .i64 a1_0, .int .i64 a1_1, .int .i64 a1_2, .int .i64 a1_3]) (t := 86) ?_; intro gb418 hg w23 hbox hb; have n0_ := Aside0.mk (blk_below (q_b BK417.out) hb); have n1_ := Aside0.mk (below_step bq hb); have n2_ := Aside0.mk (hbox); have n3_ := Aside0.mk ((q_g hg bq : w.heap.size ≤ gb418)); have n4_ := Aside0.mk ((q_g hg bq : w.heap.size ≤ gb418)); have n5_ := Aside0.mk ((q_n hg (q_b BK417.out) : gb417 ≠ gb418)); have n6_ := Aside0.mk ((q_m hg (q_b BK417.out) : gb418 ≠ gb417)); revert n0_ n1_ n2_ n3_ n4_ n5_ n6_; clear BK417 HB; intro BK417 HB BK418 GW418 GE418 NB417_418 NB418_417; clear hb hbox hg; have hnb24 := NB417_418.out; have hnc24 := NB418_417.out; obtain ⟨hcz25_0, hcz25_1, hcz25_2, hcz25_3, hfz25_0, hfz25_1, hfz25_2, hfz25_3⟩ := q_4 BK417.out; obtain ⟨hcz26_0, hcz26_1, hcz26_2, hcz26_3, hfz26_0, hfz26_1, hfz26_2, hfz26_3⟩ := q_4 BK418.out))
   go_ret
   exact ⟨q_e, bq⟩
 ·rw [if_neg c3] at H
  have c3b0 : (a0_0 == a1_0) = false := beq_eq_false_iff_ne.mpr c3
  have c3b1 : (a0_0 != a1_0) = true := bne_iff_ne.mpr c3
  obtain rfl := Option.some.inj H
  go_enter Try.func108, Try.ntmps108
  go_wp2_with (first | ((with_reducible refine gate_dst (N := 2) rfl ?_); refine q_box (N := 2) (cs := #[.int .i64 a0_0, .int .i64 a0_1, .int .i64 a0_2, .int .i64 a0_3]) (t := 86) ?_; intro gb417 hg w27 hbox hb; have n0_ := Aside0.mk (below_step bq hb); have n1_ := Aside0.mk (hbox); have n2_ := Aside0.mk ((q_g hg bq : w.heap.size ≤ gb417)); have n3_ := Aside0.mk ((q_g hg bq : w.heap.size ≤ gb417)); revert n0_ n1_ n2_ n3_; clear HB; intro HB BK417 GW417 GE417; clear hb hbox hg) | ((with_reducible refine gate_dst (N := 3) rfl ?_); refine q_box (N := 3) (cs := #[.int .i64 a1_0, .int .i64 a1_1, .int .i64 a1_2, .int .i64 a1_3]) (t := 86) ?_; intro gb418 hg w28 hbox hb; have n0_ := Aside0.mk (blk_below (q_b BK417.out) hb); have n1_ := Aside0.mk (below_step bq hb); have n2_ := Aside0.mk (hbox); have n3_ := Aside0.mk ((q_g hg bq : w.heap.size ≤ gb418)); have n4_ := Aside0.mk ((q_g hg bq : w.heap.size ≤ gb418)); have n5_ := Aside0.mk ((q_n hg (q_b BK417.out) : gb417 ≠ gb418)); have n6_ := Aside0.mk ((q_m hg (q_b BK417.out) : gb418 ≠ gb417)); revert n0_ n1_ n2_ n3_ n4_ n5_ n6_; clear BK417 HB; intro BK417 HB BK418 GW418 GE418 NB417_418 NB418_417; clear hb hbox hg; have hnb29 := NB417_418.out; have hnc29 := NB418_417.out; obtain ⟨hcz30_0, hcz30_1, hcz30_2, hcz30_3, hfz30_0, hfz30_1, hfz30_2, hfz30_3⟩ := q_4 BK417.out; obtain ⟨hcz31_0, hcz31_1, hcz31_2, hcz31_3, hfz31_0, hfz31_1, hfz31_2, hfz31_3⟩ := q_4 BK418.out))
  go_ret
  exact ⟨q_e, bq⟩

end Go.Proofs.Ytanegggacfmkcaa.PFnExactSettleOne
