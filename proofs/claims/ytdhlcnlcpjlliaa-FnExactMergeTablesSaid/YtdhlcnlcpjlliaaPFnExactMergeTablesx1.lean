/- Functions that a law reaches, as plain Lean functions, with the proof that the machine comes to their answers. No conditions. -/
import Derived.Test.YtdhlcnlcpjlliaaPFnExactMergeTablesx0
namespace Go.Proofs.Ytdhlcnlcpjlliaa.PFnExactMergeTables
open Go.RowKit Go.Proofs.YtdhlcnlcpjlliaaW.PrintWords Go.Proofs.YtdhlcnlcpjlliaaW.PrintLast Go.Proofs.YtdhlcnlcpjlliaaW.PrintMore
attribute [local go_sem] max2_int min2_int max_two min_two max_three min_three max_four min_four   -- for this text's walks alone
set_option linter.unusedVariables false
set_option linter.unusedSimpArgs false
set_option maxHeartbeats 8000000
set_option maxRecDepth 100000

/-! ### laws_eqRow: function 68 -/
def laws_eqRow.f (a0_0 : ByteArray) (a0_1 : Int) (a0_2 : ByteArray) (a0_3 : Bool) (a1_0 : ByteArray) (a1_1 : Int) (a1_2 : ByteArray) (a1_3 : Bool) : Option (Bool) := if a0_0.toList = a1_0.toList then (if a0_1 = a1_1 then (if a0_2.toList = a1_2.toList then (if (a0_3 != a1_3) = true then (some false) else (some true)) else (some false)) else (some false)) else (some false)
theorem laws_eqRow.calls (a0_0 : ByteArray) (a0_1 : Int) (a0_2 : ByteArray) (a0_3 : Bool) (a1_0 : ByteArray) (a1_1 : Int) (a1_2 : ByteArray) (a1_3 : Bool) (r : Bool) (w : World) (h : laws_eqRow.f a0_0 a0_1 a0_2 a0_3 a1_0 a1_1 a1_2 a1_3 = some r) :
  Calls Try.prog 68 #[.agg #[.string a0_0, .int .i64 a0_1, .string a0_2, .bool a0_3], .agg #[.string a1_0, .int .i64 a1_1, .string a1_2, .bool a1_3]] w fun e w' => e = .returned (.bool r) ∧ Below w.heap.size w w' := by
 have hu49 := Try.underlying49
 have HB := am (Below.refl w.heap.size w)
 have H : (if a0_0.toList = a1_0.toList then (if a0_1 = a1_1 then (if a0_2.toList = a1_2.toList then (if (a0_3 != a1_3) = true then (some false) else (some true)) else (some false)) else (some false)) else (some false)) = some r := h
 clear h
 by_cases c3 : a0_0.toList = a1_0.toList
 ·rw [if_pos c3] at H
  have c3b0 : (a0_0.toList == a1_0.toList) = true := beq_iff_eq.mpr c3
  have c3b1 : (a0_0.toList != a1_0.toList) = false := bne_eq_false_iff_eq.mpr c3
  clear c3
  by_cases c4 : a0_1 = a1_1
  ·rw [if_pos c4] at H
   have c4b0 : (a0_1 == a1_1) = true := beq_iff_eq.mpr c4
   have c4b1 : (a0_1 != a1_1) = false := bne_eq_false_iff_eq.mpr c4
   clear c4
   by_cases c5 : a0_2.toList = a1_2.toList
   ·rw [if_pos c5] at H
    have c5b0 : (a0_2.toList == a1_2.toList) = true := beq_iff_eq.mpr c5
    have c5b1 : (a0_2.toList != a1_2.toList) = false := bne_eq_false_iff_eq.mpr c5
    clear c5
    by_cases c6 : (a0_3 != a1_3) = true
    ·rw [if_pos c6] at H
     have c6b0 : (a0_3 != a1_3) = true := c6
     (try (have c6b1 : decide (a0_3 = a1_3) = false := by simpa using c6))
     (try (have c6b2 : (a0_3 == a1_3) = false := by simpa using c6))
     (try (have c6b3 : ¬ (a0_3 = a1_3) := by simpa using c6))
     clear c6
     obtain rfl := Option.some.inj H
     go_enter Try.func68, Try.ntmps68
     go_wp2_with (first | ((with_reducible refine gate_dst (N := 2) rfl ?_); refine q_box (N := 2) (cs := #[.string a0_0, .int .i64 a0_1, .string a0_2, .bool a0_3]) (t := 49) ?_; intro gb101 hg w7 hbox hb; have n0_ := am (below_step bq hb); have n1_ := am (hbox); have n2_ := am ((q_g hg bq : w.heap.size ≤ gb101)); have n3_ := n2_; revert n0_ n1_ n2_ n3_; clear HB; intro HB BK101 GW101 GE101; clear hb hbox hg) | ((with_reducible refine gate_dst (N := 3) rfl ?_); refine q_box (N := 3) (cs := #[.string a1_0, .int .i64 a1_1, .string a1_2, .bool a1_3]) (t := 49) ?_; intro gb102 hg w8 hbox hb; have n0_ := am (blk_below (q_b BK101.out) hb); have n1_ := am (below_step bq hb); have n2_ := am (hbox); have n3_ := am ((q_g hg bq : w.heap.size ≤ gb102)); have n4_ := n3_; have n5_ := am ((q_n hg (q_b BK101.out) : gb101 ≠ gb102)); have n6_ := am n5_.out.symm; revert n0_ n1_ n2_ n3_ n4_ n5_ n6_; clear BK101 HB; intro BK101 HB BK102 GW102 GE102 NB101_102 NB102_101; clear hb hbox hg; have hnb9 := NB101_102.out; have hnc9 := NB102_101.out; obtain ⟨hcz10_0, hcz10_1, hcz10_2, hcz10_3, hfz10_0, hfz10_1, hfz10_2, hfz10_3⟩ := q_4 BK101.out; obtain ⟨hcz11_0, hcz11_1, hcz11_2, hcz11_3, hfz11_0, hfz11_1, hfz11_2, hfz11_3⟩ := q_4 BK102.out))
     go_ret
     exact ⟨q_e, bq⟩
    ·rw [if_neg c6] at H
     have c6b0 : (a0_3 != a1_3) = false := by simpa using c6
     (try (have c6b1 : decide (a0_3 = a1_3) = true := by simpa using c6))
     (try (have c6b2 : (a0_3 == a1_3) = true := by simpa using c6))
     clear c6
     obtain rfl := Option.some.inj H
     go_enter Try.func68, Try.ntmps68
     go_wp2_with (first | ((with_reducible refine gate_dst (N := 2) rfl ?_); refine q_box (N := 2) (cs := #[.string a0_0, .int .i64 a0_1, .string a0_2, .bool a0_3]) (t := 49) ?_; intro gb101 hg w12 hbox hb; have n0_ := am (below_step bq hb); have n1_ := am (hbox); have n2_ := am ((q_g hg bq : w.heap.size ≤ gb101)); have n3_ := n2_; revert n0_ n1_ n2_ n3_; clear HB; intro HB BK101 GW101 GE101; clear hb hbox hg) | ((with_reducible refine gate_dst (N := 3) rfl ?_); refine q_box (N := 3) (cs := #[.string a1_0, .int .i64 a1_1, .string a1_2, .bool a1_3]) (t := 49) ?_; intro gb102 hg w13 hbox hb; have n0_ := am (blk_below (q_b BK101.out) hb); have n1_ := am (below_step bq hb); have n2_ := am (hbox); have n3_ := am ((q_g hg bq : w.heap.size ≤ gb102)); have n4_ := n3_; have n5_ := am ((q_n hg (q_b BK101.out) : gb101 ≠ gb102)); have n6_ := am n5_.out.symm; revert n0_ n1_ n2_ n3_ n4_ n5_ n6_; clear BK101 HB; intro BK101 HB BK102 GW102 GE102 NB101_102 NB102_101; clear hb hbox hg; have hnb14 := NB101_102.out; have hnc14 := NB102_101.out; obtain ⟨hcz15_0, hcz15_1, hcz15_2, hcz15_3, hfz15_0, hfz15_1, hfz15_2, hfz15_3⟩ := q_4 BK101.out; obtain ⟨hcz16_0, hcz16_1, hcz16_2, hcz16_3, hfz16_0, hfz16_1, hfz16_2, hfz16_3⟩ := q_4 BK102.out))
     go_ret
     exact ⟨q_e, bq⟩
   ·rw [if_neg c5] at H
    have c5b0 : (a0_2.toList == a1_2.toList) = false := beq_eq_false_iff_ne.mpr c5
    have c5b1 : (a0_2.toList != a1_2.toList) = true := bne_iff_ne.mpr c5
    obtain rfl := Option.some.inj H
    go_enter Try.func68, Try.ntmps68
    go_wp2_with (first | ((with_reducible refine gate_dst (N := 2) rfl ?_); refine q_box (N := 2) (cs := #[.string a0_0, .int .i64 a0_1, .string a0_2, .bool a0_3]) (t := 49) ?_; intro gb101 hg w17 hbox hb; have n0_ := am (below_step bq hb); have n1_ := am (hbox); have n2_ := am ((q_g hg bq : w.heap.size ≤ gb101)); have n3_ := n2_; revert n0_ n1_ n2_ n3_; clear HB; intro HB BK101 GW101 GE101; clear hb hbox hg) | ((with_reducible refine gate_dst (N := 3) rfl ?_); refine q_box (N := 3) (cs := #[.string a1_0, .int .i64 a1_1, .string a1_2, .bool a1_3]) (t := 49) ?_; intro gb102 hg w18 hbox hb; have n0_ := am (blk_below (q_b BK101.out) hb); have n1_ := am (below_step bq hb); have n2_ := am (hbox); have n3_ := am ((q_g hg bq : w.heap.size ≤ gb102)); have n4_ := n3_; have n5_ := am ((q_n hg (q_b BK101.out) : gb101 ≠ gb102)); have n6_ := am n5_.out.symm; revert n0_ n1_ n2_ n3_ n4_ n5_ n6_; clear BK101 HB; intro BK101 HB BK102 GW102 GE102 NB101_102 NB102_101; clear hb hbox hg; have hnb19 := NB101_102.out; have hnc19 := NB102_101.out; obtain ⟨hcz20_0, hcz20_1, hcz20_2, hcz20_3, hfz20_0, hfz20_1, hfz20_2, hfz20_3⟩ := q_4 BK101.out; obtain ⟨hcz21_0, hcz21_1, hcz21_2, hcz21_3, hfz21_0, hfz21_1, hfz21_2, hfz21_3⟩ := q_4 BK102.out))
    go_ret
    exact ⟨q_e, bq⟩
  ·rw [if_neg c4] at H
   have c4b0 : (a0_1 == a1_1) = false := beq_eq_false_iff_ne.mpr c4
   have c4b1 : (a0_1 != a1_1) = true := bne_iff_ne.mpr c4
   obtain rfl := Option.some.inj H
   go_enter Try.func68, Try.ntmps68
   go_wp2_with (first | ((with_reducible refine gate_dst (N := 2) rfl ?_); refine q_box (N := 2) (cs := #[.string a0_0, .int .i64 a0_1, .string a0_2, .bool a0_3]) (t := 49) ?_; intro gb101 hg w22 hbox hb; have n0_ := am (below_step bq hb); have n1_ := am (hbox); have n2_ := am ((q_g hg bq : w.heap.size ≤ gb101)); have n3_ := n2_; revert n0_ n1_ n2_ n3_; clear HB; intro HB BK101 GW101 GE101; clear hb hbox hg) | ((with_reducible refine gate_dst (N := 3) rfl ?_); refine q_box (N := 3) (cs := #[.string a1_0, .int .i64 a1_1, .string a1_2, .bool a1_3]) (t := 49) ?_; intro gb102 hg w23 hbox hb; have n0_ := am (blk_below (q_b BK101.out) hb); have n1_ := am (below_step bq hb); have n2_ := am (hbox); have n3_ := am ((q_g hg bq : w.heap.size ≤ gb102)); have n4_ := n3_; have n5_ := am ((q_n hg (q_b BK101.out) : gb101 ≠ gb102)); have n6_ := am n5_.out.symm; revert n0_ n1_ n2_ n3_ n4_ n5_ n6_; clear BK101 HB; intro BK101 HB BK102 GW102 GE102 NB101_102 NB102_101; clear hb hbox hg; have hnb24 := NB101_102.out; have hnc24 := NB102_101.out; obtain ⟨hcz25_0, hcz25_1, hcz25_2, hcz25_3, hfz25_0, hfz25_1, hfz25_2, hfz25_3⟩ := q_4 BK101.out; obtain ⟨hcz26_0, hcz26_1, hcz26_2, hcz26_3, hfz26_0, hfz26_1, hfz26_2, hfz26_3⟩ := q_4 BK102.out))
   go_ret
   exact ⟨q_e, bq⟩
 ·rw [if_neg c3] at H
  have c3b0 : (a0_0.toList == a1_0.toList) = false := beq_eq_false_iff_ne.mpr c3
  have c3b1 : (a0_0.toList != a1_0.toList) = true := bne_iff_ne.mpr c3
  obtain rfl := Option.some.inj H
  go_enter Try.func68, Try.ntmps68
  go_wp2_with (first | ((with_reducible refine gate_dst (N := 2) rfl ?_); refine q_box (N := 2) (cs := #[.string a0_0, .int .i64 a0_1, .string a0_2, .bool a0_3]) (t := 49) ?_; intro gb101 hg w27 hbox hb; have n0_ := am (below_step bq hb); have n1_ := am (hbox); have n2_ := am ((q_g hg bq : w.heap.size ≤ gb101)); have n3_ := n2_; revert n0_ n1_ n2_ n3_; clear HB; intro HB BK101 GW101 GE101; clear hb hbox hg) | ((with_reducible refine gate_dst (N := 3) rfl ?_); refine q_box (N := 3) (cs := #[.string a1_0, .int .i64 a1_1, .string a1_2, .bool a1_3]) (t := 49) ?_; intro gb102 hg w28 hbox hb; have n0_ := am (blk_below (q_b BK101.out) hb); have n1_ := am (below_step bq hb); have n2_ := am (hbox); have n3_ := am ((q_g hg bq : w.heap.size ≤ gb102)); have n4_ := n3_; have n5_ := am ((q_n hg (q_b BK101.out) : gb101 ≠ gb102)); have n6_ := am n5_.out.symm; revert n0_ n1_ n2_ n3_ n4_ n5_ n6_; clear BK101 HB; intro BK101 HB BK102 GW102 GE102 NB101_102 NB102_101; clear hb hbox hg; have hnb29 := NB101_102.out; have hnc29 := NB102_101.out; obtain ⟨hcz30_0, hcz30_1, hcz30_2, hcz30_3, hfz30_0, hfz30_1, hfz30_2, hfz30_3⟩ := q_4 BK101.out; obtain ⟨hcz31_0, hcz31_1, hcz31_2, hcz31_3, hfz31_0, hfz31_1, hfz31_2, hfz31_3⟩ := q_4 BK102.out))
  go_ret
  exact ⟨q_e, bq⟩

/-! ### laws_eqRowS: function 19 -/
def laws_eqRowS.l0 : Nat → List (S49) → List (S49) → Int → Option (Bool)
  | 0, _, _, _ => none
  | k + 1, x0, x1, x5 => if x5 < (x0.length : Int) then (if 0 ≤ x5 then (if x5 < (x1.length : Int) then ((laws_eqRow.f ((rd_T49 x0 x5).f0) ((rd_T49 x0 x5).f1) ((rd_T49 x0 x5).f2) ((rd_T49 x0 x5).f3) ((rd_T49 x1 x5).f0) ((rd_T49 x1 x5).f1) ((rd_T49 x1 x5).f2) ((rd_T49 x1 x5).f3)).bind fun t105 => (if t105 = true then (laws_eqRowS.l0 k x0 x1 (wrap64 (x5 + 1))) else (some false))) else (none)) else (none)) else (some true)
def laws_eqRowS.f (k : Nat) (l0 : List (S49)) (l1 : List (S49)) : Option (Bool) := if (l0.length : Int) = (l1.length : Int) then (laws_eqRowS.l0 k l0 l1 0) else (some false)
def laws_eqRowS.T6 : Bool × List (List Nat × List Nat) := (true, [([], []), ([], []), ([0, 1], [0, 1]), ([2], [2]), ([], []), ([], []), ([4, 5], [4, 5]), ([6], [6]), ([3, 7], [3, 7]), ([8], [8])])
def laws_eqRowS.B6 : List Nat := [0, 0, 3, 7, 0, 0, 48, 112, 255, 511]
theorem laws_eqRowS.tab6 : rtab .any (opsOf Try.f19 6) = laws_eqRowS.T6 := by kernel_rfl
theorem laws_eqRowS.bits6 : waitsOk laws_eqRowS.T6.2 laws_eqRowS.B6 = true := by kernel_rfl
theorem laws_eqRowS.calls (k : Nat) (A0 : Option Addr) (c0 : Nat) (l0 : List (S49)) (A1 : Option Addr) (c1 : Nat) (l1 : List (S49)) (r : Bool) (w : World) (hr0 : Kd.C k49 w A0 l0.length l0) (hc0 : l0.length ≤ c0) (hr1 : Kd.C k49 w A1 l1.length l1) (hc1 : l1.length ≤ c1) (h : laws_eqRowS.f k l0 l1 = some r) :
  Calls Try.prog 19 #[.slice A0 l0.length c0, .slice A1 l1.length c1] w fun e w' => e = .returned (.bool r) ∧ Below w.heap.size w w' := by
 have hu49 := Try.underlying49
 have HR0 := am hr0
 have HC0 := am hc0
 clear hr0 hc0
 have HR1 := am hr1
 have HC1 := am hc1
 clear hr1 hc1
 have HB := am (Below.refl w.heap.size w)
 have H : (if (l0.length : Int) = (l1.length : Int) then (laws_eqRowS.l0 k l0 l1 0) else (some false)) = some r := h
 clear h
 by_cases c3 : (l0.length : Int) = (l1.length : Int)
 ·rw [if_pos c3] at H
  have c3b0 : ((l0.length : Int) == (l1.length : Int)) = true := beq_iff_eq.mpr c3
  have c3b1 : ((l0.length : Int) != (l1.length : Int)) = false := bne_eq_false_iff_eq.mpr c3
  have c3b2 : (l0.length == l1.length) = true := by first | simpa using c3 | (simp at c3 ⊢; omega)
  clear c3
  have H' := am H
  clear H
  go_enter Try.func19, Try.ntmps19
  go_wp2
  go_loopg [5] k (fun kq v5 w' => ∃ (x5_1 : Int), v5 = .int .i64 x5_1 ∧ Aside0 (laws_eqRowS.l0 kq l0 l1 x5_1 = some r) ∧ Aside0 (kq ≤ k) ∧ Aside0 (Below w.heap.size w w'))
  case atStart => exact ⟨(0), q_i, H', ⟨Nat.le_refl _⟩, ⟨bq⟩⟩
  case round =>
   clear H'
   (try clear c1); (try clear p2); (try clear c3); (try clear c3b0); (try clear c3b1); (try clear c3b2)
   obtain ⟨x5_1, rfl, HA, HK1, HB⟩ := hrel
   cases gk with
   | zero => exact absurd HA.out (by simp [laws_eqRowS.l0])
   | succ k1 =>
    have H := HA.out
    clear HA
    simp only [laws_eqRowS.l0] at H
    by_cases c4 : x5_1 < (l0.length : Int)
    ·rw [if_pos c4] at H
     have c4b0 := decide_eq_true c4
     clear c4
     by_cases c5 : 0 ≤ x5_1
     ·rw [if_pos c5] at H
      have c5b0 := decide_eq_true c5
      clear c5
      by_cases c6 : x5_1 < (l1.length : Int)
      ·rw [if_pos c6] at H
       have c6b0 := decide_eq_true c6
       clear c6
       replace H := ob H
       obtain ⟨t105, A70, H⟩ := H
       replace H : (if t105 = true then (laws_eqRowS.l0 k1 l0 l1 (wrap64 (x5_1 + 1))) else (some false)) = some r := H
       have A7 := am A70
       clear A70
       by_cases c8 : t105 = true
       ·subst c8
        have H1 : (laws_eqRowS.l0 k1 l0 l1 (wrap64 (x5_1 + 1))) = some r := by rw [if_pos rfl] at H; exact H
        clear H
        have H := H1
        clear H1
        have H' := am H
        clear H
        try go_wp2
        have n0_ := am (below_drew1 HB.out)
        clear HB
        have HB := n0_
        clear n0_
        have p103 : 0 ≤ (x5_1 : Int) := q_d
        have q103 : x5_1 < (l0.length : Int) := q_d
        obtain ⟨ad103, e103, hx103_0, hx103_1, hx103_2, hx103_3⟩ := at_T49 HR0.out x5_1 p103 q103
        have hw103_3 := hx103_3
        have hw103_2 := hx103_2
        have hw103_1 := hx103_1
        have hw103_0 := hx103_0
        cases e103
        replace hx103_0 := q_x HB.out hx103_0
        replace hx103_1 := q_x HB.out hx103_1
        replace hx103_2 := q_x HB.out hx103_2
        replace hx103_3 := q_x HB.out hx103_3
        replace p103 := eq_true p103
        replace q103 := eq_true q103
        have p104 : 0 ≤ (x5_1 : Int) := q_d
        have q104 : x5_1 < (l1.length : Int) := q_d
        obtain ⟨ad104, e104, hx104_0, hx104_1, hx104_2, hx104_3⟩ := at_T49 HR1.out x5_1 p104 q104
        have hw104_3 := hx104_3
        have hw104_2 := hx104_2
        have hw104_1 := hx104_1
        have hw104_0 := hx104_0
        cases e104
        replace hx104_0 := q_x HB.out hx104_0
        replace hx104_1 := q_x HB.out hx104_1
        replace hx104_2 := q_x HB.out hx104_2
        replace hx104_3 := q_x HB.out hx104_3
        replace p104 := eq_true p104
        replace q104 := eq_true q104
        refine start_ (n := 10) (S := fun w' => w'.cell? (ad103.add ((x5_1).toNat * 4)) = some (.string ((rd_T49 l0 x5_1).f0)) ∧ w'.cell? ⟨(ad103.add ((x5_1).toNat * 4)).block, (ad103.add ((x5_1).toNat * 4)).off + 1, none⟩ = some (.int .i64 ((rd_T49 l0 x5_1).f1)) ∧ w'.cell? ⟨(ad103.add ((x5_1).toNat * 4)).block, (ad103.add ((x5_1).toNat * 4)).off + 2, none⟩ = some (.string ((rd_T49 l0 x5_1).f2)) ∧ w'.cell? ⟨(ad103.add ((x5_1).toNat * 4)).block, (ad103.add ((x5_1).toNat * 4)).off + 3, none⟩ = some (.bool ((rd_T49 l0 x5_1).f3)) ∧ w'.cell? (ad104.add ((x5_1).toNat * 4)) = some (.string ((rd_T49 l1 x5_1).f0)) ∧ w'.cell? ⟨(ad104.add ((x5_1).toNat * 4)).block, (ad104.add ((x5_1).toNat * 4)).off + 1, none⟩ = some (.int .i64 ((rd_T49 l1 x5_1).f1)) ∧ w'.cell? ⟨(ad104.add ((x5_1).toNat * 4)).block, (ad104.add ((x5_1).toNat * 4)).off + 2, none⟩ = some (.string ((rd_T49 l1 x5_1).f2)) ∧ w'.cell? ⟨(ad104.add ((x5_1).toNat * 4)).block, (ad104.add ((x5_1).toNat * 4)).off + 3, none⟩ = some (.bool ((rd_T49 l1 x5_1).f3))) (ds := []) #[false, false, false, false, false, false, false, false, false, false] (by kernel_rfl) rfl rfl ⟨((HB.out.cell (wb hw103_0)).trans hw103_0), ((HB.out.cell (wb hw103_1)).trans hw103_1), ((HB.out.cell (wb hw103_2)).trans hw103_2), ((HB.out.cell (wb hw103_3)).trans hw103_3), ((HB.out.cell (wb hw104_0)).trans hw104_0), ((HB.out.cell (wb hw104_1)).trans hw104_1), ((HB.out.cell (wb hw104_2)).trans hw104_2), ((HB.out.cell (wb hw104_3)).trans hw104_3)⟩ (fun hHeld => ?_); refine with_tabW laws_eqRowS.tab6 laws_eqRowS.bits6 (fun HT_ HW_ => ?_)
        generalize wr.drew = w9 at HB hx103_0 hx103_1 hx103_2 hx103_3 hx104_0 hx104_1 hx104_2 hx104_3 hHeld ⊢
        refine q_p 0 (some 17) #[true, false, false, false, false, false, false, false, false, false] HT_.out ?_
        refine q_p 1 (some 18) #[true, true, false, false, false, false, false, false, false, false] HT_.out ?_
        refine q_p 2 (some 19) #[true, true, true, false, false, false, false, false, false, false] HT_.out ?_
        refine q_p 4 (some 21) #[true, true, true, false, true, false, false, false, false, false] HT_.out ?_
        refine q_p 5 (some 22) #[true, true, true, false, true, true, false, false, false, false] HT_.out ?_
        refine q_p 6 (some 23) #[true, true, true, false, true, true, true, false, false, false] HT_.out ?_
        refine q_t 3 (some 20) #[true, true, true, true, true, true, true, false, false, false] HT_.out HW_.out hHeld ?_
        refine q_t 7 (some 24) #[true, true, true, true, true, true, true, true, false, false] HT_.out HW_.out hHeld ?_
        refine one_ (i := 8) (N := some 25) #[true, true, true, true, true, true, true, true, true, false] rfl rfl (one_of HT_.out (by kernel_rfl)) (by decide) (fun K hK => ?_)
        refine goes_ Try.func68 (by kernel_rfl) rfl #[.agg #[.string ((rd_T49 l0 x5_1).f0), .int .i64 ((rd_T49 l0 x5_1).f1), .string ((rd_T49 l0 x5_1).f2), .bool ((rd_T49 l0 x5_1).f3)], .agg #[.string ((rd_T49 l1 x5_1).f0), .int .i64 ((rd_T49 l1 x5_1).f1), .string ((rd_T49 l1 x5_1).f2), .bool ((rd_T49 l1 x5_1).f3)]] (by rfl) rfl rfl (by (try simp only [List.map_toArray, List.map_cons, List.map_nil]); first | done | rfl | (simp only [List.length_drop, List.length_take]; rfl)) ?_
        with_reducible refine (laws_eqRow.calls ((rd_T49 l0 x5_1).f0) ((rd_T49 l0 x5_1).f1) ((rd_T49 l0 x5_1).f2) ((rd_T49 l0 x5_1).f3) ((rd_T49 l1 x5_1).f0) ((rd_T49 l1 x5_1).f1) ((rd_T49 l1 x5_1).f2) ((rd_T49 l1 x5_1).f3) true _ A7.out).mono ?_
        rintro e w10 ⟨rfl, hb⟩
        refine ⟨_, rfl, ?_⟩
        have n0_ := am (below_step bq hb)
        clear HB
        have HB := n0_
        clear n0_
        (try clear hb)
        (try clear hb2)
        (try clear hk)
        (try clear hi)
        refine hK.out _ _ ⟨((HB.out.cell (wb hw103_0)).trans hw103_0), ((HB.out.cell (wb hw103_1)).trans hw103_1), ((HB.out.cell (wb hw103_2)).trans hw103_2), ((HB.out.cell (wb hw103_3)).trans hw103_3), ((HB.out.cell (wb hw104_0)).trans hw104_0), ((HB.out.cell (wb hw104_1)).trans hw104_1), ((HB.out.cell (wb hw104_2)).trans hw104_2), ((HB.out.cell (wb hw104_3)).trans hw104_3)⟩ (fun hHeld => ?_)
        clear hK K
        refine norm_ (a' := ?_) ?_ ?_
        rotate_left
        ·show Act.put _ (some 25) _ = _
         simp only [Act.put, List.setIfInBounds_toArray, List.set_cons_zero, List.set_cons_succ, i64_w, i32_w]
         rfl
        refine q_p 9 (some 26) #[true, true, true, true, true, true, true, true, true, true] HT_.out ?_
        refine done_ (done_of HT_.out (by kernel_rfl)) ?_
        try go_wp2
        go_roundg k1
        case measure => have := HK1.out; omega
        case rel => exact ⟨(wrap64 (x5_1 + 1)), q_i, H', ⟨by have := HK1.out; omega⟩, ⟨bq⟩⟩
       ·replace c8 := Bool.eq_false_iff.mpr c8
        subst c8
        have H1 : (some false) = some r := by rw [if_neg (show ¬ (false = true) by decide)] at H; exact H
        clear H
        have H := H1
        clear H1
        obtain rfl := Option.some.inj H
        try go_wp2
        have n0_ := am (below_drew1 HB.out)
        clear HB
        have HB := n0_
        clear n0_
        have p103 : 0 ≤ (x5_1 : Int) := q_d
        have q103 : x5_1 < (l0.length : Int) := q_d
        obtain ⟨ad103, e103, hx103_0, hx103_1, hx103_2, hx103_3⟩ := at_T49 HR0.out x5_1 p103 q103
        have hw103_3 := hx103_3
        have hw103_2 := hx103_2
        have hw103_1 := hx103_1
        have hw103_0 := hx103_0
        cases e103
        replace hx103_0 := q_x HB.out hx103_0
        replace hx103_1 := q_x HB.out hx103_1
        replace hx103_2 := q_x HB.out hx103_2
        replace hx103_3 := q_x HB.out hx103_3
        replace p103 := eq_true p103
        replace q103 := eq_true q103
        have p104 : 0 ≤ (x5_1 : Int) := q_d
        have q104 : x5_1 < (l1.length : Int) := q_d
        obtain ⟨ad104, e104, hx104_0, hx104_1, hx104_2, hx104_3⟩ := at_T49 HR1.out x5_1 p104 q104
        have hw104_3 := hx104_3
        have hw104_2 := hx104_2
        have hw104_1 := hx104_1
        have hw104_0 := hx104_0
        cases e104
        replace hx104_0 := q_x HB.out hx104_0
        replace hx104_1 := q_x HB.out hx104_1
        replace hx104_2 := q_x HB.out hx104_2
        replace hx104_3 := q_x HB.out hx104_3
        replace p104 := eq_true p104
        replace q104 := eq_true q104
        refine start_ (n := 10) (S := fun w' => w'.cell? (ad103.add ((x5_1).toNat * 4)) = some (.string ((rd_T49 l0 x5_1).f0)) ∧ w'.cell? ⟨(ad103.add ((x5_1).toNat * 4)).block, (ad103.add ((x5_1).toNat * 4)).off + 1, none⟩ = some (.int .i64 ((rd_T49 l0 x5_1).f1)) ∧ w'.cell? ⟨(ad103.add ((x5_1).toNat * 4)).block, (ad103.add ((x5_1).toNat * 4)).off + 2, none⟩ = some (.string ((rd_T49 l0 x5_1).f2)) ∧ w'.cell? ⟨(ad103.add ((x5_1).toNat * 4)).block, (ad103.add ((x5_1).toNat * 4)).off + 3, none⟩ = some (.bool ((rd_T49 l0 x5_1).f3)) ∧ w'.cell? (ad104.add ((x5_1).toNat * 4)) = some (.string ((rd_T49 l1 x5_1).f0)) ∧ w'.cell? ⟨(ad104.add ((x5_1).toNat * 4)).block, (ad104.add ((x5_1).toNat * 4)).off + 1, none⟩ = some (.int .i64 ((rd_T49 l1 x5_1).f1)) ∧ w'.cell? ⟨(ad104.add ((x5_1).toNat * 4)).block, (ad104.add ((x5_1).toNat * 4)).off + 2, none⟩ = some (.string ((rd_T49 l1 x5_1).f2)) ∧ w'.cell? ⟨(ad104.add ((x5_1).toNat * 4)).block, (ad104.add ((x5_1).toNat * 4)).off + 3, none⟩ = some (.bool ((rd_T49 l1 x5_1).f3))) (ds := []) #[false, false, false, false, false, false, false, false, false, false] (by kernel_rfl) rfl rfl ⟨((HB.out.cell (wb hw103_0)).trans hw103_0), ((HB.out.cell (wb hw103_1)).trans hw103_1), ((HB.out.cell (wb hw103_2)).trans hw103_2), ((HB.out.cell (wb hw103_3)).trans hw103_3), ((HB.out.cell (wb hw104_0)).trans hw104_0), ((HB.out.cell (wb hw104_1)).trans hw104_1), ((HB.out.cell (wb hw104_2)).trans hw104_2), ((HB.out.cell (wb hw104_3)).trans hw104_3)⟩ (fun hHeld => ?_); refine with_tabW laws_eqRowS.tab6 laws_eqRowS.bits6 (fun HT_ HW_ => ?_)
        generalize wr.drew = w11 at HB hx103_0 hx103_1 hx103_2 hx103_3 hx104_0 hx104_1 hx104_2 hx104_3 hHeld ⊢
        refine q_p 0 (some 17) #[true, false, false, false, false, false, false, false, false, false] HT_.out ?_
        refine q_p 1 (some 18) #[true, true, false, false, false, false, false, false, false, false] HT_.out ?_
        refine q_p 2 (some 19) #[true, true, true, false, false, false, false, false, false, false] HT_.out ?_
        refine q_p 4 (some 21) #[true, true, true, false, true, false, false, false, false, false] HT_.out ?_
        refine q_p 5 (some 22) #[true, true, true, false, true, true, false, false, false, false] HT_.out ?_
        refine q_p 6 (some 23) #[true, true, true, false, true, true, true, false, false, false] HT_.out ?_
        refine q_t 3 (some 20) #[true, true, true, true, true, true, true, false, false, false] HT_.out HW_.out hHeld ?_
        refine q_t 7 (some 24) #[true, true, true, true, true, true, true, true, false, false] HT_.out HW_.out hHeld ?_
        refine one_ (i := 8) (N := some 25) #[true, true, true, true, true, true, true, true, true, false] rfl rfl (one_of HT_.out (by kernel_rfl)) (by decide) (fun K hK => ?_)
        refine goes_ Try.func68 (by kernel_rfl) rfl #[.agg #[.string ((rd_T49 l0 x5_1).f0), .int .i64 ((rd_T49 l0 x5_1).f1), .string ((rd_T49 l0 x5_1).f2), .bool ((rd_T49 l0 x5_1).f3)], .agg #[.string ((rd_T49 l1 x5_1).f0), .int .i64 ((rd_T49 l1 x5_1).f1), .string ((rd_T49 l1 x5_1).f2), .bool ((rd_T49 l1 x5_1).f3)]] (by rfl) rfl rfl (by (try simp only [List.map_toArray, List.map_cons, List.map_nil]); first | done | rfl | (simp only [List.length_drop, List.length_take]; rfl)) ?_
        with_reducible refine (laws_eqRow.calls ((rd_T49 l0 x5_1).f0) ((rd_T49 l0 x5_1).f1) ((rd_T49 l0 x5_1).f2) ((rd_T49 l0 x5_1).f3) ((rd_T49 l1 x5_1).f0) ((rd_T49 l1 x5_1).f1) ((rd_T49 l1 x5_1).f2) ((rd_T49 l1 x5_1).f3) false _ A7.out).mono ?_
        rintro e w12 ⟨rfl, hb⟩
        refine ⟨_, rfl, ?_⟩
        have n0_ := am (below_step bq hb)
        clear HB
        have HB := n0_
        clear n0_
        (try clear hb)
        (try clear hb2)
        (try clear hk)
        (try clear hi)
        refine hK.out _ _ ⟨((HB.out.cell (wb hw103_0)).trans hw103_0), ((HB.out.cell (wb hw103_1)).trans hw103_1), ((HB.out.cell (wb hw103_2)).trans hw103_2), ((HB.out.cell (wb hw103_3)).trans hw103_3), ((HB.out.cell (wb hw104_0)).trans hw104_0), ((HB.out.cell (wb hw104_1)).trans hw104_1), ((HB.out.cell (wb hw104_2)).trans hw104_2), ((HB.out.cell (wb hw104_3)).trans hw104_3)⟩ (fun hHeld => ?_)
        clear hK K
        refine norm_ (a' := ?_) ?_ ?_
        rotate_left
        ·show Act.put _ (some 25) _ = _
         simp only [Act.put, List.setIfInBounds_toArray, List.set_cons_zero, List.set_cons_succ, i64_w, i32_w]
         rfl
        refine q_p 9 (some 26) #[true, true, true, true, true, true, true, true, true, true] HT_.out ?_
        refine done_ (done_of HT_.out (by kernel_rfl)) ?_
        try go_wp2
        go_ret
        exact ⟨q_e, bq⟩
      ·rw [if_neg c6] at H
       exact absurd H (by simp)
     ·rw [if_neg c5] at H
      exact absurd H (by simp)
    ·rw [if_neg c4] at H
     have c4b0 := decide_eq_false c4
     clear c4
     obtain rfl := Option.some.inj H
     go_wp2
     go_ret
     exact ⟨q_e, bq⟩
 ·rw [if_neg c3] at H
  have c3b0 : ((l0.length : Int) == (l1.length : Int)) = false := beq_eq_false_iff_ne.mpr c3
  have c3b1 : ((l0.length : Int) != (l1.length : Int)) = true := bne_iff_ne.mpr c3
  have c3b2 : (l0.length == l1.length) = false := by first | simpa using c3 | (simp at c3 ⊢; omega)
  obtain rfl := Option.some.inj H
  go_enter Try.func19, Try.ntmps19
  go_wp2
  go_ret
  exact ⟨q_e, bq⟩

/-! ### laws_eqRowsResult: function 32 -/
def laws_eqRowsResult.f (k : Nat) (a0_0 : Int) (l0_1 : List (S49)) (a1_0 : Int) (l1_1 : List (S49)) : Option (Bool) := if a0_0 = a1_0 then ((laws_eqRowS.f k l0_1 l1_1).bind fun t108 => (if t108 = true then (some true) else (some false))) else (some false)
theorem laws_eqRowsResult.calls (k : Nat) (a0_0 : Int) (A0_1 : Option Addr) (c0_1 : Nat) (l0_1 : List (S49)) (a1_0 : Int) (A1_1 : Option Addr) (c1_1 : Nat) (l1_1 : List (S49)) (r : Bool) (w : World) (hr0_1 : Kd.C k49 w A0_1 l0_1.length l0_1) (hc0_1 : l0_1.length ≤ c0_1) (hr1_1 : Kd.C k49 w A1_1 l1_1.length l1_1) (hc1_1 : l1_1.length ≤ c1_1) (h : laws_eqRowsResult.f k a0_0 l0_1 a1_0 l1_1 = some r) :
  Calls Try.prog 32 #[.agg #[.int .i64 a0_0, .slice A0_1 l0_1.length c0_1], .agg #[.int .i64 a1_0, .slice A1_1 l1_1.length c1_1]] w fun e w' => e = .returned (.bool r) ∧ Below w.heap.size w w' := by
 have hu46 := Try.underlying46
 have HR0_1 := am hr0_1
 have HC0_1 := am hc0_1
 clear hr0_1 hc0_1
 have HR1_1 := am hr1_1
 have HC1_1 := am hc1_1
 clear hr1_1 hc1_1
 have HB := am (Below.refl w.heap.size w)
 have H : (if a0_0 = a1_0 then ((laws_eqRowS.f k l0_1 l1_1).bind fun t108 => (if t108 = true then (some true) else (some false))) else (some false)) = some r := h
 clear h
 by_cases c3 : a0_0 = a1_0
 ·rw [if_pos c3] at H
  have c3b0 : (a0_0 == a1_0) = true := beq_iff_eq.mpr c3
  have c3b1 : (a0_0 != a1_0) = false := bne_eq_false_iff_eq.mpr c3
  clear c3
  replace H := ob H
  obtain ⟨t108, A40, H⟩ := H
  replace H : (if t108 = true then (some true) else (some false)) = some r := H
  have A4 := am A40
  clear A40
  by_cases c5 : t108 = true
  ·subst c5
   have H1 : (some true) = some r := by rw [if_pos rfl] at H; exact H
   clear H
   have H := H1
   clear H1
   obtain rfl := Option.some.inj H
   go_enter Try.func32, Try.ntmps32
   go_wp2_with (first | ((with_reducible refine gate_dst (N := 2) rfl ?_); refine q_box (N := 2) (cs := #[.int .i64 a0_0, .slice A0_1 l0_1.length c0_1]) (t := 46) ?_; intro gb106 hg w6 hbox hb; have n0_ := am (below_step bq hb); have n1_ := am (hbox); have n2_ := am ((q_g hg bq : w.heap.size ≤ gb106)); have n3_ := n2_; revert n0_ n1_ n2_ n3_; clear HB; intro HB BK106 GW106 GE106; clear hb hbox hg) | ((with_reducible refine gate_dst (N := 3) rfl ?_); refine q_box (N := 3) (cs := #[.int .i64 a1_0, .slice A1_1 l1_1.length c1_1]) (t := 46) ?_; intro gb107 hg w7 hbox hb; have n0_ := am (blk_below (q_b BK106.out) hb); have n1_ := am (below_step bq hb); have n2_ := am (hbox); have n3_ := am ((q_g hg bq : w.heap.size ≤ gb107)); have n4_ := n3_; have n5_ := am ((q_n hg (q_b BK106.out) : gb106 ≠ gb107)); have n6_ := am n5_.out.symm; revert n0_ n1_ n2_ n3_ n4_ n5_ n6_; clear BK106 HB; intro BK106 HB BK107 GW107 GE107 NB106_107 NB107_106; clear hb hbox hg; have hnb8 := NB106_107.out; have hnc8 := NB107_106.out; obtain ⟨hcz9_0, hcz9_1, hfz9_0, hfz9_1⟩ := q_2 BK106.out; obtain ⟨hcz10_0, hcz10_1, hfz10_0, hfz10_1⟩ := q_2 BK107.out) | ((with_reducible refine gate_callee (f := 19) rfl ?_); refine goesLq (some 14) rfl rfl Try.func19 (by kernel_rfl) rfl #[.slice A0_1 l0_1.length c0_1, .slice A1_1 l1_1.length c1_1] rfl ?_; (with_reducible refine (laws_eqRowS.calls k _ _ l0_1 _ _ l1_1 true _ ?side1 ?side2 ?side3 ?side4 A4.out).mono ?_); (case side1 => exact q_c ((Kd.C_below HR0_1.out HB.out))); (case side2 => exact HC0_1.out); (case side3 => exact q_c ((Kd.C_below HR1_1.out HB.out))); (case side4 => exact HC1_1.out); rintro e w11 ⟨rfl, hb⟩; refine ⟨_, rfl, ?_⟩; have n0_ := am (blk_below (q_b BK106.out) hb); have n1_ := am (blk_below (q_b BK107.out) hb); have n2_ := am (below_step bq hb); revert n0_ n1_ n2_; clear BK106 BK107 HB; intro BK106 BK107 HB; (try clear hb); (try clear hb2); (try clear hk); (try clear hi)))
   go_ret
   exact ⟨q_e, bq⟩
  ·replace c5 := Bool.eq_false_iff.mpr c5
   subst c5
   have H1 : (some false) = some r := by rw [if_neg (show ¬ (false = true) by decide)] at H; exact H
   clear H
   have H := H1
   clear H1
   obtain rfl := Option.some.inj H
   go_enter Try.func32, Try.ntmps32
   go_wp2_with (first | ((with_reducible refine gate_dst (N := 2) rfl ?_); refine q_box (N := 2) (cs := #[.int .i64 a0_0, .slice A0_1 l0_1.length c0_1]) (t := 46) ?_; intro gb106 hg w12 hbox hb; have n0_ := am (below_step bq hb); have n1_ := am (hbox); have n2_ := am ((q_g hg bq : w.heap.size ≤ gb106)); have n3_ := n2_; revert n0_ n1_ n2_ n3_; clear HB; intro HB BK106 GW106 GE106; clear hb hbox hg) | ((with_reducible refine gate_dst (N := 3) rfl ?_); refine q_box (N := 3) (cs := #[.int .i64 a1_0, .slice A1_1 l1_1.length c1_1]) (t := 46) ?_; intro gb107 hg w13 hbox hb; have n0_ := am (blk_below (q_b BK106.out) hb); have n1_ := am (below_step bq hb); have n2_ := am (hbox); have n3_ := am ((q_g hg bq : w.heap.size ≤ gb107)); have n4_ := n3_; have n5_ := am ((q_n hg (q_b BK106.out) : gb106 ≠ gb107)); have n6_ := am n5_.out.symm; revert n0_ n1_ n2_ n3_ n4_ n5_ n6_; clear BK106 HB; intro BK106 HB BK107 GW107 GE107 NB106_107 NB107_106; clear hb hbox hg; have hnb14 := NB106_107.out; have hnc14 := NB107_106.out; obtain ⟨hcz15_0, hcz15_1, hfz15_0, hfz15_1⟩ := q_2 BK106.out; obtain ⟨hcz16_0, hcz16_1, hfz16_0, hfz16_1⟩ := q_2 BK107.out) | ((with_reducible refine gate_callee (f := 19) rfl ?_); refine goesLq (some 14) rfl rfl Try.func19 (by kernel_rfl) rfl #[.slice A0_1 l0_1.length c0_1, .slice A1_1 l1_1.length c1_1] rfl ?_; (with_reducible refine (laws_eqRowS.calls k _ _ l0_1 _ _ l1_1 false _ ?side1 ?side2 ?side3 ?side4 A4.out).mono ?_); (case side1 => exact q_c ((Kd.C_below HR0_1.out HB.out))); (case side2 => exact HC0_1.out); (case side3 => exact q_c ((Kd.C_below HR1_1.out HB.out))); (case side4 => exact HC1_1.out); rintro e w17 ⟨rfl, hb⟩; refine ⟨_, rfl, ?_⟩; have n0_ := am (blk_below (q_b BK106.out) hb); have n1_ := am (blk_below (q_b BK107.out) hb); have n2_ := am (below_step bq hb); revert n0_ n1_ n2_; clear BK106 BK107 HB; intro BK106 BK107 HB; (try clear hb); (try clear hb2); (try clear hk); (try clear hi)))
   go_ret
   exact ⟨q_e, bq⟩
 ·rw [if_neg c3] at H
  have c3b0 : (a0_0 == a1_0) = false := beq_eq_false_iff_ne.mpr c3
  have c3b1 : (a0_0 != a1_0) = true := bne_iff_ne.mpr c3
  obtain rfl := Option.some.inj H
  go_enter Try.func32, Try.ntmps32
  go_wp2_with (first | ((with_reducible refine gate_dst (N := 2) rfl ?_); refine q_box (N := 2) (cs := #[.int .i64 a0_0, .slice A0_1 l0_1.length c0_1]) (t := 46) ?_; intro gb106 hg w18 hbox hb; have n0_ := am (below_step bq hb); have n1_ := am (hbox); have n2_ := am ((q_g hg bq : w.heap.size ≤ gb106)); have n3_ := n2_; revert n0_ n1_ n2_ n3_; clear HB; intro HB BK106 GW106 GE106; clear hb hbox hg) | ((with_reducible refine gate_dst (N := 3) rfl ?_); refine q_box (N := 3) (cs := #[.int .i64 a1_0, .slice A1_1 l1_1.length c1_1]) (t := 46) ?_; intro gb107 hg w19 hbox hb; have n0_ := am (blk_below (q_b BK106.out) hb); have n1_ := am (below_step bq hb); have n2_ := am (hbox); have n3_ := am ((q_g hg bq : w.heap.size ≤ gb107)); have n4_ := n3_; have n5_ := am ((q_n hg (q_b BK106.out) : gb106 ≠ gb107)); have n6_ := am n5_.out.symm; revert n0_ n1_ n2_ n3_ n4_ n5_ n6_; clear BK106 HB; intro BK106 HB BK107 GW107 GE107 NB106_107 NB107_106; clear hb hbox hg; have hnb20 := NB106_107.out; have hnc20 := NB107_106.out; obtain ⟨hcz21_0, hcz21_1, hfz21_0, hfz21_1⟩ := q_2 BK106.out; obtain ⟨hcz22_0, hcz22_1, hfz22_0, hfz22_1⟩ := q_2 BK107.out))
  go_ret
  exact ⟨q_e, bq⟩

/-! ### laws_markText: function 87 -/
def laws_markText.l0 : Nat → Int → ByteArray → Option (ByteArray)
  | 0, _, _ => none
  | k + 1, x0, x3 => if x0 > 0 then ((some (([(wrap64 (48 + (Int.tmod x0 10))) % 256] : List Int) : List Int)).bind fun y109 => (if (strOfNums y109).size + x3.size ≤ 9223372036854775807 then (laws_markText.l0 k (wrap64 (Int.tdiv x0 10)) ((strOfNums y109) ++ x3)) else (none))) else (if 1 + x3.size ≤ 9223372036854775807 then (some ((⟨#[109]⟩ : ByteArray) ++ x3)) else (none))
def laws_markText.f (k : Nat) (a0 : Int) : Option (ByteArray) := if a0 ≤ 0 then (some (⟨#[109, 48]⟩ : ByteArray)) else (laws_markText.l0 k a0 (⟨#[]⟩ : ByteArray))
theorem laws_markText.calls (k : Nat) (a0 : Int) (r : ByteArray) (w : World) (h : laws_markText.f k a0 = some r) :
  Calls Try.prog 87 #[.int .i64 a0] w fun e w' => e = .returned (.string r) ∧ Below w.heap.size w w' := by
 have HB := am (Below.refl w.heap.size w)
 have H : (if a0 ≤ 0 then (some (⟨#[109, 48]⟩ : ByteArray)) else (laws_markText.l0 k a0 (⟨#[]⟩ : ByteArray))) = some r := h
 clear h
 by_cases c2 : a0 ≤ 0
 ·rw [if_pos c2] at H
  have c2b0 := decide_eq_true c2
  clear c2
  obtain rfl := Option.some.inj H
  go_enter Try.func87, Try.ntmps87
  go_wp2
  go_ret
  exact ⟨q_e, bq⟩
 ·rw [if_neg c2] at H
  have c2b0 := decide_eq_false c2
  clear c2
  have H' := am H
  clear H
  go_enter Try.func87, Try.ntmps87
  go_wp2
  go_loopg [0, 3] k (fun kq v0 v3 w' => ∃ (x0_1 : Int) (x3_1 : ByteArray), v0 = .int .i64 x0_1 ∧ v3 = .string x3_1 ∧ Aside0 (laws_markText.l0 kq x0_1 x3_1 = some r) ∧ Aside0 (kq ≤ k) ∧ Aside0 (Below w.heap.size w w'))
  case atStart => exact ⟨(a0), ((⟨#[]⟩ : ByteArray)), q_i, q_i, H', ⟨Nat.le_refl _⟩, ⟨bq⟩⟩
  case round =>
   clear H'
   (try clear c2); (try clear c2b0); (try clear p2)
   obtain ⟨x0_1, x3_1, rfl, rfl, HA, HK1, HB⟩ := hrel
   cases gk with
   | zero => exact absurd HA.out (by simp [laws_markText.l0])
   | succ k1 =>
    have H := HA.out
    clear HA
    simp only [laws_markText.l0] at H
    by_cases c3 : x0_1 > 0
    ·rw [if_pos c3] at H
     have c3b0 := decide_eq_true c3
     clear c3
     obtain ⟨y109, hy109⟩ : ∃ y_ : List Int, y_ = (([(wrap64 (48 + (Int.tmod x0_1 10))) % 256] : List Int)) := ⟨_, rfl⟩
     replace H : (if (strOfNums y109).size + x3_1.size ≤ 9223372036854775807 then (laws_markText.l0 k1 (wrap64 (Int.tdiv x0_1 10)) ((strOfNums y109) ++ x3_1)) else (none)) = some r := q_h hy109 H
     have Ny109 := am hy109
     clear hy109
     by_cases c4 : (strOfNums y109).size + x3_1.size ≤ 9223372036854775807
     ·rw [if_pos c4] at H
      have c4b0 := eq_true c4
      have c4b1 := decide_eq_true c4
      try have c4b2 : (9223372036854775807 < (strOfNums y109).size + x3_1.size) = False := eq_false (Nat.not_lt.2 c4)
      have H' := am H
      clear H
      go_wp2_with (first | ((with_reducible refine gate_dst (N := 12) rfl ?_); refine Kd.R_lit (Kd.int .u8) _ 5 ?hg (N := 12) ?hd (xs := ([(wrap64 (48 + (Int.tmod x0_1 10))) % 256] : List Int)) (inner := [.int .u8 ((wrap64 (48 + (Int.tmod x0_1 10))) % 256)]) (ok := fun _ => True) (okp := fun _ => True) ?hr ?hp (fun _ hk => hk) trivial (Below.refl _ _) (Nat.le_refl _) (by simp) ?_; (case hd => rfl); (case hg => rfl); (case hr => first | (go_simp; done) | (go_simp; rfl)); (case hp => exact (Reps.one (show Kd.M (Kd.int .u8) _ _ _ ((wrap64 (48 + (Int.tmod x0_1 10))) % 256) [.int .u8 ((wrap64 (48 + (Int.tmod x0_1 10))) % 256)] from rfl) (Reps.none _ _))); intro v110 w5 ho6 hb hg_ hnew_; clear hg_ hnew_; (first | rw [← Ny109.out] at ho6 | (simp only [Int.reduceToNat] at ho6; rw [← Ny109.out] at ho6)); have n0_ := am (Kd.R_lower ho6 (below_size bq)); have n1_ := am (below_step bq hb); revert n0_ n1_; clear HB; intro HO111 HB; clear hb ho6; have hcv7 := own_string (P := Try.prog) Try.underlying41 Try.underlying5 Try.underlying9 (Kd.own_of_R HO111.out)))
      go_roundg k1
      case measure => have := HK1.out; omega
      case rel => exact ⟨(wrap64 (Int.tdiv x0_1 10)), ((strOfNums y109) ++ x3_1), q_i, q_i, H', ⟨by have := HK1.out; omega⟩, ⟨bq⟩⟩
     ·rw [if_neg c4] at H
      exact absurd H (by simp)
    ·rw [if_neg c3] at H
     have c3b0 := decide_eq_false c3
     clear c3
     by_cases c8 : 1 + x3_1.size ≤ 9223372036854775807
     ·rw [if_pos c8] at H
      have c8b0 := eq_true c8
      have c8b1 := decide_eq_true c8
      try have c8b2 : (9223372036854775807 < 1 + x3_1.size) = False := eq_false (Nat.not_lt.2 c8)
      obtain rfl := Option.some.inj H
      go_wp2
      go_ret
      exact ⟨q_e, bq⟩
     ·rw [if_neg c8] at H
      exact absurd H (by simp)

/-! ### laws_markRowS: function 33 -/
def laws_markRowS.l0 : Nat → List (S49) → Int → Int → Option (Int × (List (S49)))
  | 0, _, _, _ => none
  | k + 1, x0, x1, x5 => if x5 < (x0.length : Int) then ((laws_markText.f k x1).bind fun t112 => (if 0 ≤ x5 then ((some (x0.set (x5 : Int).toNat (⟨t112, (rd_T49 x0 x5).f1, (rd_T49 x0 x5).f2, (rd_T49 x0 x5).f3⟩ : S49) : List (S49))).bind fun y113 => ((some (y113.set (x5 : Int).toNat (⟨(rd_T49 y113 x5).f0, wrap64 (x1 + 1), (rd_T49 y113 x5).f2, (rd_T49 y113 x5).f3⟩ : S49) : List (S49))).bind fun y114 => ((laws_markText.f k (wrap64 ((wrap64 (x1 + 1)) + 1))).bind fun t115 => ((some (y114.set (x5 : Int).toNat (⟨(rd_T49 y114 x5).f0, (rd_T49 y114 x5).f1, t115, (rd_T49 y114 x5).f3⟩ : S49) : List (S49))).bind fun y116 => (laws_markRowS.l0 k (y116.set (x5 : Int).toNat (⟨(rd_T49 y116 x5).f0, (rd_T49 y116 x5).f1, (rd_T49 y116 x5).f2, ((Int.tmod (wrap64 ((wrap64 ((wrap64 (x1 + 1)) + 1)) + 1)) 3) == 0)⟩ : S49)) (wrap64 ((wrap64 ((wrap64 ((wrap64 (x1 + 1)) + 1)) + 1)) + 1)) (wrap64 (x5 + 1))))))) else (none))) else (some (x1, x0))
def laws_markRowS.f (k : Nat) (l0 : List (S49)) (a1 : Int) : Option (Int × (List (S49))) := laws_markRowS.l0 k l0 a1 0
theorem laws_markRowS.calls (k : Nat) (P0_ : Nat → Prop) (u9000_ : Value) (l0 : List (S49)) (a1 : Int) (r1 : Int) (r2 : List (S49)) (w0 w : World) (hB : Below w0.heap.size w0 w) (ho0 : Kd.R k49 49 w w0.heap.size P0_ u9000_ l0) (h : laws_markRowS.f k l0 a1 = some (r1, r2)) :
  Calls Try.prog 33 #[u9000_, .int .i64 a1] w fun e w' => e = .returned (.int .i64 r1) ∧ Kd.R k49 49 w' w0.heap.size (fun k_ => (P0_ k_ ∨ w.heap.size ≤ k_)) u9000_ r2 ∧ Below w0.heap.size w0 w' ∧ Kept w w' (fun k_ => P0_ k_) := by
 have HO0 := am (show Kd.R k49 49 w w0.heap.size (fun k_ => (P0_ k_ ∨ w.heap.size ≤ k_)) u9000_ l0 from Kd.R_mono ho0 (fun k_ hk => (.inl hk)))
 have HK := am (Kept.refl w (fun k_ => P0_ k_))
 have HW0 := am hB.size
 have HB := am hB
 clear hB
 have H : (laws_markRowS.l0 k l0 a1 0) = some (r1, r2) := h
 clear h
 have H' := am H
 clear H
 go_enter Try.func33, Try.ntmps33
 go_wp2
 go_loopg [1, 5] k (fun kq v1 v5 w' => ∃ (x0_1 : List (S49)) (x1_1 : Int) (x5_1 : Int), v1 = .int .i64 x1_1 ∧ v5 = .int .i64 x5_1 ∧ Aside0 (laws_markRowS.l0 kq x0_1 x1_1 x5_1 = some (r1, r2)) ∧ Aside0 (kq ≤ k) ∧ Aside0 (Kd.R k49 49 w' w0.heap.size (fun k_ => (P0_ k_ ∨ w.heap.size ≤ k_)) u9000_ x0_1) ∧ Aside0 (Kept w w' (fun k_ => P0_ k_)) ∧ Aside0 (Below w0.heap.size w0 w'))
 case atStart => exact ⟨(l0), (a1), (0), q_i, q_i, H', ⟨Nat.le_refl _⟩, ⟨q_r (HO0.out)⟩, ⟨q_k⟩, ⟨bq⟩⟩
 case round =>
  clear H'
  (try clear p2)
  obtain ⟨x0_1, x1_1, x5_1, rfl, rfl, HA, HK1, HO_0, HK, HB⟩ := hrel
  cases gk with
  | zero => exact absurd HA.out (by simp [laws_markRowS.l0])
  | succ k1 =>
   have H := HA.out
   clear HA
   simp only [laws_markRowS.l0] at H
   by_cases c3 : x5_1 < (x0_1.length : Int)
   ·rw [if_pos c3] at H
    have c3b0 := decide_eq_true c3
    clear c3
    replace H := ob H
    obtain ⟨t112, A40, H⟩ := H
    replace H : (if 0 ≤ x5_1 then ((some (x0_1.set (x5_1 : Int).toNat (⟨t112, (rd_T49 x0_1 x5_1).f1, (rd_T49 x0_1 x5_1).f2, (rd_T49 x0_1 x5_1).f3⟩ : S49) : List (S49))).bind fun y113 => ((some (y113.set (x5_1 : Int).toNat (⟨(rd_T49 y113 x5_1).f0, wrap64 (x1_1 + 1), (rd_T49 y113 x5_1).f2, (rd_T49 y113 x5_1).f3⟩ : S49) : List (S49))).bind fun y114 => ((laws_markText.f k1 (wrap64 ((wrap64 (x1_1 + 1)) + 1))).bind fun t115 => ((some (y114.set (x5_1 : Int).toNat (⟨(rd_T49 y114 x5_1).f0, (rd_T49 y114 x5_1).f1, t115, (rd_T49 y114 x5_1).f3⟩ : S49) : List (S49))).bind fun y116 => (laws_markRowS.l0 k1 (y116.set (x5_1 : Int).toNat (⟨(rd_T49 y116 x5_1).f0, (rd_T49 y116 x5_1).f1, (rd_T49 y116 x5_1).f2, ((Int.tmod (wrap64 ((wrap64 ((wrap64 (x1_1 + 1)) + 1)) + 1)) 3) == 0)⟩ : S49)) (wrap64 ((wrap64 ((wrap64 ((wrap64 (x1_1 + 1)) + 1)) + 1)) + 1)) (wrap64 (x5_1 + 1))))))) else (none)) = some (r1, r2) := H
    have A4 := am A40
    clear A40
    by_cases c5 : 0 ≤ x5_1
    ·rw [if_pos c5] at H
     have c5b0 := decide_eq_true c5
     clear c5
     obtain ⟨y113, hy113⟩ : ∃ y_ : List (S49), y_ = (x0_1.set (x5_1 : Int).toNat (⟨t112, (rd_T49 x0_1 x5_1).f1, (rd_T49 x0_1 x5_1).f2, (rd_T49 x0_1 x5_1).f3⟩ : S49)) := ⟨_, rfl⟩
     replace H : ((some (y113.set (x5_1 : Int).toNat (⟨(rd_T49 y113 x5_1).f0, wrap64 (x1_1 + 1), (rd_T49 y113 x5_1).f2, (rd_T49 y113 x5_1).f3⟩ : S49) : List (S49))).bind fun y114 => ((laws_markText.f k1 (wrap64 ((wrap64 (x1_1 + 1)) + 1))).bind fun t115 => ((some (y114.set (x5_1 : Int).toNat (⟨(rd_T49 y114 x5_1).f0, (rd_T49 y114 x5_1).f1, t115, (rd_T49 y114 x5_1).f3⟩ : S49) : List (S49))).bind fun y116 => (laws_markRowS.l0 k1 (y116.set (x5_1 : Int).toNat (⟨(rd_T49 y116 x5_1).f0, (rd_T49 y116 x5_1).f1, (rd_T49 y116 x5_1).f2, ((Int.tmod (wrap64 ((wrap64 ((wrap64 (x1_1 + 1)) + 1)) + 1)) 3) == 0)⟩ : S49)) (wrap64 ((wrap64 ((wrap64 ((wrap64 (x1_1 + 1)) + 1)) + 1)) + 1)) (wrap64 (x5_1 + 1)))))) = some (r1, r2) := q_h hy113 H
     have Ny113 := am hy113
     clear hy113
     obtain ⟨y114, hy114⟩ : ∃ y_ : List (S49), y_ = (y113.set (x5_1 : Int).toNat (⟨(rd_T49 y113 x5_1).f0, wrap64 (x1_1 + 1), (rd_T49 y113 x5_1).f2, (rd_T49 y113 x5_1).f3⟩ : S49)) := ⟨_, rfl⟩
     replace H : ((laws_markText.f k1 (wrap64 ((wrap64 (x1_1 + 1)) + 1))).bind fun t115 => ((some (y114.set (x5_1 : Int).toNat (⟨(rd_T49 y114 x5_1).f0, (rd_T49 y114 x5_1).f1, t115, (rd_T49 y114 x5_1).f3⟩ : S49) : List (S49))).bind fun y116 => (laws_markRowS.l0 k1 (y116.set (x5_1 : Int).toNat (⟨(rd_T49 y116 x5_1).f0, (rd_T49 y116 x5_1).f1, (rd_T49 y116 x5_1).f2, ((Int.tmod (wrap64 ((wrap64 ((wrap64 (x1_1 + 1)) + 1)) + 1)) 3) == 0)⟩ : S49)) (wrap64 ((wrap64 ((wrap64 ((wrap64 (x1_1 + 1)) + 1)) + 1)) + 1)) (wrap64 (x5_1 + 1))))) = some (r1, r2) := q_h hy114 H
     have Ny114 := am hy114
     clear hy114
     replace H := ob H
     obtain ⟨t115, A80, H⟩ := H
     replace H : ((some (y114.set (x5_1 : Int).toNat (⟨(rd_T49 y114 x5_1).f0, (rd_T49 y114 x5_1).f1, t115, (rd_T49 y114 x5_1).f3⟩ : S49) : List (S49))).bind fun y116 => (laws_markRowS.l0 k1 (y116.set (x5_1 : Int).toNat (⟨(rd_T49 y116 x5_1).f0, (rd_T49 y116 x5_1).f1, (rd_T49 y116 x5_1).f2, ((Int.tmod (wrap64 ((wrap64 ((wrap64 (x1_1 + 1)) + 1)) + 1)) 3) == 0)⟩ : S49)) (wrap64 ((wrap64 ((wrap64 ((wrap64 (x1_1 + 1)) + 1)) + 1)) + 1)) (wrap64 (x5_1 + 1)))) = some (r1, r2) := H
     have A8 := am A80
     clear A80
     obtain ⟨y116, hy116⟩ : ∃ y_ : List (S49), y_ = (y114.set (x5_1 : Int).toNat (⟨(rd_T49 y114 x5_1).f0, (rd_T49 y114 x5_1).f1, t115, (rd_T49 y114 x5_1).f3⟩ : S49)) := ⟨_, rfl⟩
     replace H : (laws_markRowS.l0 k1 (y116.set (x5_1 : Int).toNat (⟨(rd_T49 y116 x5_1).f0, (rd_T49 y116 x5_1).f1, (rd_T49 y116 x5_1).f2, ((Int.tmod (wrap64 ((wrap64 ((wrap64 (x1_1 + 1)) + 1)) + 1)) 3) == 0)⟩ : S49)) (wrap64 ((wrap64 ((wrap64 ((wrap64 (x1_1 + 1)) + 1)) + 1)) + 1)) (wrap64 (x5_1 + 1))) = some (r1, r2) := q_h hy116 H
     have Ny116 := am hy116
     clear hy116
     obtain ⟨y117, hy117⟩ : ∃ y_ : List (S49), y_ = (y116.set (x5_1 : Int).toNat (⟨(rd_T49 y116 x5_1).f0, (rd_T49 y116 x5_1).f1, (rd_T49 y116 x5_1).f2, ((Int.tmod (wrap64 ((wrap64 ((wrap64 (x1_1 + 1)) + 1)) + 1)) 3) == 0)⟩ : S49)) := ⟨_, rfl⟩
     replace H : (laws_markRowS.l0 k1 y117 (wrap64 ((wrap64 ((wrap64 ((wrap64 (x1_1 + 1)) + 1)) + 1)) + 1)) (wrap64 (x5_1 + 1))) = some (r1, r2) := q_h hy117 H
     have Ny117 := am hy117
     clear hy117
     have H' := am H
     clear H
     obtain ⟨Ao11, co11, eo11⟩ := Kd.R_slice HO_0.out
     subst eo11
     go_wp2_with (first | ((with_reducible refine gate_callee (f := 87) rfl ?_); refine goesLq (some 15) rfl rfl Try.func87 (by kernel_rfl) rfl #[.int .i64 x1_1] rfl ?_; (with_reducible refine (laws_markText.calls k1 x1_1 t112 _ A4.out).mono ?_); rintro e w12 ⟨rfl, hb⟩; refine ⟨_, rfl, ?_⟩; have n0_ := am (Kd.R_below (q_r (HO_0.out)) hb); have n1_ := am (Kept.below (S := (fun k_ => P0_ k_)) q_k hb); have n2_ := am (below_step bq hb); revert n0_ n1_ n2_; clear HO_0 HK HB; intro HO_0 HK HB; (try clear hb); (try clear hb2); (try clear hk); (try clear hi); have p6 : 0 ≤ (x5_1 : Int) := q_d; have q6 : (x5_1 : Int) < ((x0_1.length : Int) : Int) := q_d; obtain ⟨go6, co6, eo6, gb6, gl6, cl6, HG6⟩ := Kd.R_form HO_0.out (by omega); (first | cases eo6 | (injection eo6 with ea_ en_ ec_; (first | subst ea_ | (injection ea_ with ea_; subst ea_)); subst ec_; clear en_)); have GB6 := am gb6; have GG6 := am HG6; clear gb6 gl6 HG6; have HMgo6 := am (show (P0_ go6 ∨ w.heap.size ≤ go6) from (HO_0.out.1 _ rfl)); obtain ⟨ce6, hcl6, hM6, hcc6, hfr6⟩ := Kd.R_elem HO_0.out z49 (x5_1 : Int) p6 q6; obtain rfl := k49_openM hM6; have hx6_0 : w12.cell? ⟨go6, (x5_1 : Int).toNat * 4, none⟩ = some (.string ((rd_T49 x0_1 x5_1).f0)) := hcc6 0 _ rfl; have hx6_1 : w12.cell? ⟨go6, (x5_1 : Int).toNat * 4 + 1, none⟩ = some (.int .i64 ((rd_T49 x0_1 x5_1).f1)) := hcc6 1 _ rfl; have hx6_2 : w12.cell? ⟨go6, (x5_1 : Int).toNat * 4 + 2, none⟩ = some (.string ((rd_T49 x0_1 x5_1).f2)) := hcc6 2 _ rfl; have hx6_3 : w12.cell? ⟨go6, (x5_1 : Int).toNat * 4 + 3, none⟩ = some (.bool ((rd_T49 x0_1 x5_1).f3)) := hcc6 3 _ rfl; have hf6_0 : w12.frozen? ⟨go6, (x5_1 : Int).toNat * 4, none⟩ = false := hfr6 0; have hf6_1 : w12.frozen? ⟨go6, (x5_1 : Int).toNat * 4 + 1, none⟩ = false := hfr6 1; have hf6_2 : w12.frozen? ⟨go6, (x5_1 : Int).toNat * 4 + 2, none⟩ = false := hfr6 2; have hf6_3 : w12.frozen? ⟨go6, (x5_1 : Int).toNat * 4 + 3, none⟩ = false := hfr6 3; clear hcl6 hcc6 hfr6; (try clear hM6); replace p6 := eq_true p6; replace q6 := eq_true q6; have HX13 := am (show Kd.R k49 49 w12 w0.heap.size (fun k_ => (P0_ k_ ∨ w.heap.size ≤ k_)) (.slice (some ⟨go6, 0, none⟩) x0_1.length co11) x0_1 from (q_r (HO_0.out))); obtain ⟨ce13, hcl13, hM13, hcc13, hfr13⟩ := Kd.R_elem HX13.out z49 (x5_1 : Int) q_d (by have h_ : (x5_1 : Int) < ((x0_1.length : Int) : Int) := q_d; first | exact h_ | (have e_ := (Kd.R_reads' HO_0.out).1; omega) | simpa using h_); obtain rfl := k49_openM hM13; have HP13 := Kd.R_seg HX13.out (x5_1 : Int) q_d (by have h_ : (x5_1 : Int) < ((x0_1.length : Int) : Int) := q_d; first | exact h_ | (have e_ := (Kd.R_reads' HO_0.out).1; omega) | simpa using h_) (seg := [.string t112]) (j := 0) hcl13 hcc13 (show 1 ≤ 4 from by decide) (x' := (⟨t112, (rd_T49 x0_1 x5_1).f1, (rd_T49 x0_1 x5_1).f2, (rd_T49 x0_1 x5_1).f3⟩ : S49)) (k49_mkM _ _ _ (⟨t112, (rd_T49 x0_1 x5_1).f1, (rd_T49 x0_1 x5_1).f2, (rd_T49 x0_1 x5_1).f3⟩ : S49) ) (fun _ hk => hk); have hx13_0 := hcc13 0 _ rfl; (try simp only [show (k49).sz = 4 from rfl, Nat.mul_one, Nat.add_zero] at hx13_0); have hf13_0 := hfr13 0; (try simp only [show (k49).sz = 4 from rfl, Nat.mul_one, Nat.add_zero] at hf13_0); clear hcl13 hcc13 hfr13; (try clear hM13)) | ((with_reducible refine gate_store (t := 9) (p := 17) rfl ?_); refine store_event (t := 9) (p := 17) (v := ?vo_w14) (w1 := (w12.setCell ⟨go6, (x5_1 : Int).toNat * 4, none⟩ (.string t112))) ?hg ?ho ?hn ?hr ?_; (case ho => rfl); (case hg => rfl); (case hn => rfl); (case hr => first | (go_simp; done) | (go_simp; rfl)); intro w14 hw; have hg : w12.grownBy w14 (some go6) := (by rw [hw]; exact HP13.2); have hp_ : Kd.R k49 49 w14 w0.heap.size (fun k_ => (P0_ k_ ∨ w.heap.size ≤ k_)) (.slice (some ⟨go6, 0, none⟩) x0_1.length co11) y113 := (by rw [hw, Ny113.out]; exact HP13.1); clear HP13; have n0_ := am (hp_); have n1_ := am ((by rw [hw]; exact below_set (HB.out) GB6.out : Below w0.heap.size w0 w14)); have n2_ := am (Kept.of_grown (S := (fun k_ => P0_ k_)) hg q_k (fun k_ e_ => (HO_0.out.1 k_ e_))); revert n0_ n1_ n2_; clear HO_0 HB HK; intro HO_0 HB HK; clear hg hw hp_; have p7 : 0 ≤ (x5_1 : Int) := q_d; have q7 : (x5_1 : Int) < ((x0_1.length : Int) : Int) := q_d; obtain ⟨ce7, hcl7, hM7, hcc7, hfr7⟩ := Kd.R_elem HO_0.out z49 (x5_1 : Int) p7 q7; obtain rfl := k49_openM hM7; have hx7_0 : w14.cell? ⟨go6, (x5_1 : Int).toNat * 4, none⟩ = some (.string ((rd_T49 y113 x5_1).f0)) := hcc7 0 _ rfl; have hx7_1 : w14.cell? ⟨go6, (x5_1 : Int).toNat * 4 + 1, none⟩ = some (.int .i64 ((rd_T49 y113 x5_1).f1)) := hcc7 1 _ rfl; have hx7_2 : w14.cell? ⟨go6, (x5_1 : Int).toNat * 4 + 2, none⟩ = some (.string ((rd_T49 y113 x5_1).f2)) := hcc7 2 _ rfl; have hx7_3 : w14.cell? ⟨go6, (x5_1 : Int).toNat * 4 + 3, none⟩ = some (.bool ((rd_T49 y113 x5_1).f3)) := hcc7 3 _ rfl; have hf7_0 : w14.frozen? ⟨go6, (x5_1 : Int).toNat * 4, none⟩ = false := hfr7 0; have hf7_1 : w14.frozen? ⟨go6, (x5_1 : Int).toNat * 4 + 1, none⟩ = false := hfr7 1; have hf7_2 : w14.frozen? ⟨go6, (x5_1 : Int).toNat * 4 + 2, none⟩ = false := hfr7 2; have hf7_3 : w14.frozen? ⟨go6, (x5_1 : Int).toNat * 4 + 3, none⟩ = false := hfr7 3; clear hcl7 hcc7 hfr7; (try clear hM7); replace p7 := eq_true p7; replace q7 := eq_true q7; have HX15 := am (show Kd.R k49 49 w14 w0.heap.size (fun k_ => (P0_ k_ ∨ w.heap.size ≤ k_)) (.slice (some ⟨go6, 0, none⟩) x0_1.length co11) y113 from (q_r (HO_0.out))); obtain ⟨ce15, hcl15, hM15, hcc15, hfr15⟩ := Kd.R_elem HX15.out z49 (x5_1 : Int) q_d (by have h_ : (x5_1 : Int) < ((x0_1.length : Int) : Int) := q_d; first | exact h_ | (have e_ := (Kd.R_reads' HO_0.out).1; omega) | simpa using h_); obtain rfl := k49_openM hM15; have HP15 := Kd.R_seg HX15.out (x5_1 : Int) q_d (by have h_ : (x5_1 : Int) < ((x0_1.length : Int) : Int) := q_d; first | exact h_ | (have e_ := (Kd.R_reads' HO_0.out).1; omega) | simpa using h_) (seg := [.int .i64 (wrap64 (x1_1 + 1))]) (j := 1) hcl15 hcc15 (show 2 ≤ 4 from by decide) (x' := (⟨(rd_T49 y113 x5_1).f0, wrap64 (x1_1 + 1), (rd_T49 y113 x5_1).f2, (rd_T49 y113 x5_1).f3⟩ : S49)) (k49_mkM _ _ _ (⟨(rd_T49 y113 x5_1).f0, wrap64 (x1_1 + 1), (rd_T49 y113 x5_1).f2, (rd_T49 y113 x5_1).f3⟩ : S49) ) (fun _ hk => hk); have hx15_1 := hcc15 1 _ rfl; (try simp only [show (k49).sz = 4 from rfl, Nat.mul_one, Nat.add_zero] at hx15_1); have hf15_1 := hfr15 1; (try simp only [show (k49).sz = 4 from rfl, Nat.mul_one, Nat.add_zero] at hf15_1); clear hcl15 hcc15 hfr15; (try clear hM15)) | ((with_reducible refine gate_store (t := 2) (p := 24) rfl ?_); refine store_event (t := 2) (p := 24) (v := ?vo_w16) (w1 := (w14.setCell ⟨go6, (x5_1 : Int).toNat * 4 + 1, none⟩ (.int .i64 (wrap64 (x1_1 + 1))))) ?hg ?ho ?hn ?hr ?_; (case ho => rfl); (case hg => rfl); (case hn => rfl); (case hr => first | (go_simp; done) | (go_simp; rfl)); intro w16 hw; have hg : w14.grownBy w16 (some go6) := (by rw [hw]; exact HP15.2); have hp_ : Kd.R k49 49 w16 w0.heap.size (fun k_ => (P0_ k_ ∨ w.heap.size ≤ k_)) (.slice (some ⟨go6, 0, none⟩) x0_1.length co11) y114 := (by rw [hw, Ny114.out]; exact HP15.1); clear HP15; have n0_ := am (hp_); have n1_ := am ((by rw [hw]; exact below_set (HB.out) GB6.out : Below w0.heap.size w0 w16)); have n2_ := am (Kept.of_grown (S := (fun k_ => P0_ k_)) hg q_k (fun k_ e_ => (HO_0.out.1 k_ e_))); revert n0_ n1_ n2_; clear HO_0 HB HK; intro HO_0 HB HK; clear hg hw hp_) | ((with_reducible refine gate_callee (f := 87) rfl ?_); refine goesLq (some 30) rfl rfl Try.func87 (by kernel_rfl) rfl #[.int .i64 (wrap64 ((wrap64 (x1_1 + 1)) + 1))] rfl ?_; (with_reducible refine (laws_markText.calls k1 (wrap64 ((wrap64 (x1_1 + 1)) + 1)) t115 _ A8.out).mono ?_); rintro e w17 ⟨rfl, hb⟩; refine ⟨_, rfl, ?_⟩; have n0_ := am (Kd.R_below (q_r (HO_0.out)) hb); have n1_ := am (Kept.below (S := (fun k_ => P0_ k_)) q_k hb); have n2_ := am (below_step bq hb); revert n0_ n1_ n2_; clear HO_0 HK HB; intro HO_0 HK HB; (try clear hb); (try clear hb2); (try clear hk); (try clear hi); have p9 : 0 ≤ (x5_1 : Int) := q_d; have q9 : (x5_1 : Int) < ((x0_1.length : Int) : Int) := q_d; obtain ⟨ce9, hcl9, hM9, hcc9, hfr9⟩ := Kd.R_elem HO_0.out z49 (x5_1 : Int) p9 q9; obtain rfl := k49_openM hM9; have hx9_0 : w17.cell? ⟨go6, (x5_1 : Int).toNat * 4, none⟩ = some (.string ((rd_T49 y114 x5_1).f0)) := hcc9 0 _ rfl; have hx9_1 : w17.cell? ⟨go6, (x5_1 : Int).toNat * 4 + 1, none⟩ = some (.int .i64 ((rd_T49 y114 x5_1).f1)) := hcc9 1 _ rfl; have hx9_2 : w17.cell? ⟨go6, (x5_1 : Int).toNat * 4 + 2, none⟩ = some (.string ((rd_T49 y114 x5_1).f2)) := hcc9 2 _ rfl; have hx9_3 : w17.cell? ⟨go6, (x5_1 : Int).toNat * 4 + 3, none⟩ = some (.bool ((rd_T49 y114 x5_1).f3)) := hcc9 3 _ rfl; have hf9_0 : w17.frozen? ⟨go6, (x5_1 : Int).toNat * 4, none⟩ = false := hfr9 0; have hf9_1 : w17.frozen? ⟨go6, (x5_1 : Int).toNat * 4 + 1, none⟩ = false := hfr9 1; have hf9_2 : w17.frozen? ⟨go6, (x5_1 : Int).toNat * 4 + 2, none⟩ = false := hfr9 2; have hf9_3 : w17.frozen? ⟨go6, (x5_1 : Int).toNat * 4 + 3, none⟩ = false := hfr9 3; clear hcl9 hcc9 hfr9; (try clear hM9); replace p9 := eq_true p9; replace q9 := eq_true q9; have HX18 := am (show Kd.R k49 49 w17 w0.heap.size (fun k_ => (P0_ k_ ∨ w.heap.size ≤ k_)) (.slice (some ⟨go6, 0, none⟩) x0_1.length co11) y114 from (q_r (HO_0.out))); obtain ⟨ce18, hcl18, hM18, hcc18, hfr18⟩ := Kd.R_elem HX18.out z49 (x5_1 : Int) q_d (by have h_ : (x5_1 : Int) < ((x0_1.length : Int) : Int) := q_d; first | exact h_ | (have e_ := (Kd.R_reads' HO_0.out).1; omega) | simpa using h_); obtain rfl := k49_openM hM18; have HP18 := Kd.R_seg HX18.out (x5_1 : Int) q_d (by have h_ : (x5_1 : Int) < ((x0_1.length : Int) : Int) := q_d; first | exact h_ | (have e_ := (Kd.R_reads' HO_0.out).1; omega) | simpa using h_) (seg := [.string t115]) (j := 2) hcl18 hcc18 (show 3 ≤ 4 from by decide) (x' := (⟨(rd_T49 y114 x5_1).f0, (rd_T49 y114 x5_1).f1, t115, (rd_T49 y114 x5_1).f3⟩ : S49)) (k49_mkM _ _ _ (⟨(rd_T49 y114 x5_1).f0, (rd_T49 y114 x5_1).f1, t115, (rd_T49 y114 x5_1).f3⟩ : S49) ) (fun _ hk => hk); have hx18_2 := hcc18 2 _ rfl; (try simp only [show (k49).sz = 4 from rfl, Nat.mul_one, Nat.add_zero] at hx18_2); have hf18_2 := hfr18 2; (try simp only [show (k49).sz = 4 from rfl, Nat.mul_one, Nat.add_zero] at hf18_2); clear hcl18 hcc18 hfr18; (try clear hM18)) | ((with_reducible refine gate_store (t := 9) (p := 32) rfl ?_); refine store_event (t := 9) (p := 32) (v := ?vo_w19) (w1 := (w17.setCell ⟨go6, (x5_1 : Int).toNat * 4 + 2, none⟩ (.string t115))) ?hg ?ho ?hn ?hr ?_; (case ho => rfl); (case hg => rfl); (case hn => rfl); (case hr => first | (go_simp; done) | (go_simp; rfl)); intro w19 hw; have hg : w17.grownBy w19 (some go6) := (by rw [hw]; exact HP18.2); have hp_ : Kd.R k49 49 w19 w0.heap.size (fun k_ => (P0_ k_ ∨ w.heap.size ≤ k_)) (.slice (some ⟨go6, 0, none⟩) x0_1.length co11) y116 := (by rw [hw, Ny116.out]; exact HP18.1); clear HP18; have n0_ := am (hp_); have n1_ := am ((by rw [hw]; exact below_set (HB.out) GB6.out : Below w0.heap.size w0 w19)); have n2_ := am (Kept.of_grown (S := (fun k_ => P0_ k_)) hg q_k (fun k_ e_ => (HO_0.out.1 k_ e_))); revert n0_ n1_ n2_; clear HO_0 HB HK; intro HO_0 HB HK; clear hg hw hp_; have p10 : 0 ≤ (x5_1 : Int) := q_d; have q10 : (x5_1 : Int) < ((x0_1.length : Int) : Int) := q_d; obtain ⟨ce10, hcl10, hM10, hcc10, hfr10⟩ := Kd.R_elem HO_0.out z49 (x5_1 : Int) p10 q10; obtain rfl := k49_openM hM10; have hx10_0 : w19.cell? ⟨go6, (x5_1 : Int).toNat * 4, none⟩ = some (.string ((rd_T49 y116 x5_1).f0)) := hcc10 0 _ rfl; have hx10_1 : w19.cell? ⟨go6, (x5_1 : Int).toNat * 4 + 1, none⟩ = some (.int .i64 ((rd_T49 y116 x5_1).f1)) := hcc10 1 _ rfl; have hx10_2 : w19.cell? ⟨go6, (x5_1 : Int).toNat * 4 + 2, none⟩ = some (.string ((rd_T49 y116 x5_1).f2)) := hcc10 2 _ rfl; have hx10_3 : w19.cell? ⟨go6, (x5_1 : Int).toNat * 4 + 3, none⟩ = some (.bool ((rd_T49 y116 x5_1).f3)) := hcc10 3 _ rfl; have hf10_0 : w19.frozen? ⟨go6, (x5_1 : Int).toNat * 4, none⟩ = false := hfr10 0; have hf10_1 : w19.frozen? ⟨go6, (x5_1 : Int).toNat * 4 + 1, none⟩ = false := hfr10 1; have hf10_2 : w19.frozen? ⟨go6, (x5_1 : Int).toNat * 4 + 2, none⟩ = false := hfr10 2; have hf10_3 : w19.frozen? ⟨go6, (x5_1 : Int).toNat * 4 + 3, none⟩ = false := hfr10 3; clear hcl10 hcc10 hfr10; (try clear hM10); replace p10 := eq_true p10; replace q10 := eq_true q10; have HX20 := am (show Kd.R k49 49 w19 w0.heap.size (fun k_ => (P0_ k_ ∨ w.heap.size ≤ k_)) (.slice (some ⟨go6, 0, none⟩) x0_1.length co11) y116 from (q_r (HO_0.out))); obtain ⟨ce20, hcl20, hM20, hcc20, hfr20⟩ := Kd.R_elem HX20.out z49 (x5_1 : Int) q_d (by have h_ : (x5_1 : Int) < ((x0_1.length : Int) : Int) := q_d; first | exact h_ | (have e_ := (Kd.R_reads' HO_0.out).1; omega) | simpa using h_); obtain rfl := k49_openM hM20; have HP20 := Kd.R_seg HX20.out (x5_1 : Int) q_d (by have h_ : (x5_1 : Int) < ((x0_1.length : Int) : Int) := q_d; first | exact h_ | (have e_ := (Kd.R_reads' HO_0.out).1; omega) | simpa using h_) (seg := [.bool ((Int.tmod (wrap64 ((wrap64 ((wrap64 (x1_1 + 1)) + 1)) + 1)) 3) == 0)]) (j := 3) hcl20 hcc20 (show 4 ≤ 4 from by decide) (x' := (⟨(rd_T49 y116 x5_1).f0, (rd_T49 y116 x5_1).f1, (rd_T49 y116 x5_1).f2, ((Int.tmod (wrap64 ((wrap64 ((wrap64 (x1_1 + 1)) + 1)) + 1)) 3) == 0)⟩ : S49)) (k49_mkM _ _ _ (⟨(rd_T49 y116 x5_1).f0, (rd_T49 y116 x5_1).f1, (rd_T49 y116 x5_1).f2, ((Int.tmod (wrap64 ((wrap64 ((wrap64 (x1_1 + 1)) + 1)) + 1)) 3) == 0)⟩ : S49) ) (fun _ hk => hk); have hx20_3 := hcc20 3 _ rfl; (try simp only [show (k49).sz = 4 from rfl, Nat.mul_one, Nat.add_zero] at hx20_3); have hf20_3 := hfr20 3; (try simp only [show (k49).sz = 4 from rfl, Nat.mul_one, Nat.add_zero] at hf20_3); clear hcl20 hcc20 hfr20; (try clear hM20)) | ((with_reducible refine gate_store (t := 4) (p := 41) rfl ?_); refine store_event (t := 4) (p := 41) (v := ?vo_w21) (w1 := (w19.setCell ⟨go6, (x5_1 : Int).toNat * 4 + 3, none⟩ (.bool ((Int.tmod (wrap64 ((wrap64 ((wrap64 (x1_1 + 1)) + 1)) + 1)) 3) == 0)))) ?hg ?ho ?hn ?hr ?_; (case ho => rfl); (case hg => rfl); (case hn => rfl); (case hr => first | (go_simp; done) | (go_simp; rfl)); intro w21 hw; have hg : w19.grownBy w21 (some go6) := (by rw [hw]; exact HP20.2); have hp_ : Kd.R k49 49 w21 w0.heap.size (fun k_ => (P0_ k_ ∨ w.heap.size ≤ k_)) (.slice (some ⟨go6, 0, none⟩) x0_1.length co11) y117 := (by rw [hw, Ny117.out]; exact HP20.1); clear HP20; have n0_ := am (hp_); have n1_ := am ((by rw [hw]; exact below_set (HB.out) GB6.out : Below w0.heap.size w0 w21)); have n2_ := am (Kept.of_grown (S := (fun k_ => P0_ k_)) hg q_k (fun k_ e_ => (HO_0.out.1 k_ e_))); revert n0_ n1_ n2_; clear HO_0 HB HK; intro HO_0 HB HK; clear hg hw hp_))
     go_roundg k1
     case measure => have := HK1.out; omega
     case rel => exact ⟨(y117), (wrap64 ((wrap64 ((wrap64 ((wrap64 (x1_1 + 1)) + 1)) + 1)) + 1)), (wrap64 (x5_1 + 1)), q_i, q_i, H', ⟨by have := HK1.out; omega⟩, ⟨q_r (HO_0.out)⟩, ⟨q_k⟩, ⟨bq⟩⟩
    ·rw [if_neg c5] at H
     exact absurd H (by simp)
   ·rw [if_neg c3] at H
    have c3b0 := decide_eq_false c3
    clear c3
    simp only [Option.some.injEq, Prod.mk.injEq] at H
    obtain ⟨rfl, rfl⟩ := H
    obtain ⟨Ao22, co22, eo22⟩ := Kd.R_slice HO_0.out
    subst eo22
    go_wp2
    go_ret
    exact ⟨q_e, q_r (HO_0.out), bq, q_k⟩

/-! ### laws_markRowsResult: function 34 -/
def laws_markRowsResult.f (k : Nat) (a0_0 : Int) (l0_1 : List (S49)) (a1 : Int) : Option (Int × (List (S49))) := (laws_markRowS.f k l0_1 a1).bind fun bt119 => (some (bt119.1, bt119.2))
theorem laws_markRowsResult.calls (k : Nat) (a0_0 : Int) (P0_1_ : Nat → Prop) (u9000_ : Value) (l0_1 : List (S49)) (a1 : Int) (r1 : Int) (r2 : List (S49)) (w0 w : World) (hB : Below w0.heap.size w0 w) (ho0_1 : Kd.R k49 49 w w0.heap.size P0_1_ u9000_ l0_1) (h : laws_markRowsResult.f k a0_0 l0_1 a1 = some (r1, r2)) :
  Calls Try.prog 34 #[.agg #[.int .i64 a0_0, u9000_], .int .i64 a1] w fun e w' => e = .returned (.int .i64 r1) ∧ Kd.R k49 49 w' w0.heap.size (fun k_ => (P0_1_ k_ ∨ w.heap.size ≤ k_)) u9000_ r2 ∧ Below w0.heap.size w0 w' ∧ Kept w w' (fun k_ => P0_1_ k_) := by
 have hu46 := Try.underlying46
 have HO0_1 := am (show Kd.R k49 49 w w0.heap.size (fun k_ => (P0_1_ k_ ∨ w.heap.size ≤ k_)) u9000_ l0_1 from Kd.R_mono ho0_1 (fun k_ hk => (.inl hk)))
 have HK := am (Kept.refl w (fun k_ => P0_1_ k_))
 have HW0 := am hB.size
 have HB := am hB
 clear hB
 have H : ((laws_markRowS.f k l0_1 a1).bind fun bt119 => (some (bt119.1, bt119.2))) = some (r1, r2) := h
 clear h
 replace H := ob H
 obtain ⟨⟨t119, t120⟩, A30, H⟩ := H
 replace H : (some (t119, t120)) = some (r1, r2) := H
 have A3 := am A30
 clear A30
 simp only [Option.some.injEq, Prod.mk.injEq] at H
 obtain ⟨rfl, rfl⟩ := H
 obtain ⟨Ao4, co4, eo4⟩ := Kd.R_slice HO0_1.out
 subst eo4
 go_enter Try.func34, Try.ntmps34
 go_wp2_with (first | ((with_reducible refine gate_dst (N := 2) rfl ?_); refine q_box (N := 2) (cs := #[.int .i64 a0_0, .slice Ao4 l0_1.length co4]) (t := 46) ?_; intro gb118 hg w5 hbox hb; have n0_ := am (Kd.R_below (q_r (HO0_1.out)) hb); have n1_ := am (Kept.below (S := (fun k_ => P0_1_ k_)) q_k hb); have n2_ := am (below_step bq hb); have n3_ := am (hbox); have n4_ := am ((by rw [hg]; exact (by first | exact HK.out.1 | exact (show Kept w _ (fun k_ => P0_1_ k_) from q_k).1) : w.heap.size ≤ gb118)); have n5_ := am ((q_g hg bq : w0.heap.size ≤ gb118)); revert n0_ n1_ n2_ n3_ n4_ n5_; clear HO0_1 HK HB; intro HO0_1 HK HB BK118 GW118 GE118; clear hb hbox hg; obtain ⟨hcz6_0, hcz6_1, hfz6_0, hfz6_1⟩ := q_2 BK118.out) | ((with_reducible refine gate_callee (f := 33) rfl ?_); refine goesLq (some 8) rfl rfl Try.func33 (by kernel_rfl) rfl #[.slice Ao4 l0_1.length co4, .int .i64 a1] rfl ?_; (with_reducible refine (laws_markRowS.calls k (fun k_ => some k_ = (.slice Ao4 l0_1.length co4 : Value).ownBlock) (.slice Ao4 l0_1.length co4) l0_1 a1 t119 t120 w0 _ ?side1 ?side2 A3.out).mono ?_); (case side1 => repeat (first | (with_reducible first | exact HB.out | apply below_alloc | apply pw_below_drewN | apply below_drew1 | refine below_set ?_ GE118.out) | exact HB.out)); (case side2 => exact Kd.R_tight rfl HO0_1.out); rintro e w7 ⟨rfl, hy0, hb, hkp⟩; refine ⟨_, rfl, ?_⟩; have n0_ := am (Kd.R_reok rfl hy0 (fun k_ e_ => HO0_1.out.1 k_ e_)); have n1_ := am (blk_kept kq hkp (fun hs_ => (fun e_ => (Kd.R_ne HO0_1.out BK118.out (by decide)) e_) hs_)); have n2_ := am (Kept.then_ (S := (fun k_ => P0_1_ k_)) (by repeat (first | (with_reducible first | exact HK.out | apply Kept.alloc | apply Kept.drewN | apply Kept.drew | refine Kept.setCell ?_ (.inr GW118.out) _) | exact HK.out)) hkp (fun k_ hs_ => (fun e_ => (HO0_1.out.1 k_ e_.symm)) hs_)); have n3_ := am (hb); revert n0_ n1_ n2_ n3_; clear HO0_1 BK118 HK HB; intro HO0_1 BK118 HK HB; (try clear hb); (try clear hkp); (try clear hy0)))
 go_ret
 exact ⟨q_e, q_r (HO0_1.out), bq, by repeat (first | (with_reducible first | exact HK.out | apply Kept.alloc | apply Kept.drewN | apply Kept.drew | refine Kept.setCell ?_ (.inr GW118.out) _) | exact HK.out)⟩

end Go.Proofs.Ytdhlcnlcpjlliaa.PFnExactMergeTables
