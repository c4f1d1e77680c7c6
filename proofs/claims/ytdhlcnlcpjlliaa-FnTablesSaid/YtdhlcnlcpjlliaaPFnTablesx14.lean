/- Functions that a law reaches, as plain Lean functions, with the proof that the machine comes to their answers. No conditions. -/
import Derived.Test.YtdhlcnlcpjlliaaPFnTablesx0
import Derived.Test.YtdhlcnlcpjlliaaPFnTablesx13
namespace Go.Proofs.Ytdhlcnlcpjlliaa.PFnTables
open Go.RowKit Go.Proofs.YtdhlcnlcpjlliaaW.PrintWords Go.Proofs.YtdhlcnlcpjlliaaW.PrintLast Go.Proofs.YtdhlcnlcpjlliaaW.PrintMore
attribute [local go_sem] max2_int min2_int max_two min_two max_three min_three max_four min_four   -- for this text's walks alone
set_option linter.unusedVariables false
set_option linter.unusedSimpArgs false
set_option maxHeartbeats 8000000
set_option maxRecDepth 100000

/-! ### spec_MergeTables: function 57 -/
def spec_MergeTables.l0 : Nat → List (List (S49)) → Int → Option (Int × (List (S49)))
  | 0, _, _ => none
  | k + 1, x0, x3 => if x3 < (x0.length : Int) then (if 0 ≤ x3 then ((spec_TableFault.f k (rd_L5 x0 x3)).bind fun t375 => (if t375 = 0 then (spec_MergeTables.l0 k x0 (wrap64 (x3 + 1))) else (some (t375, ([] : List (S49)))))) else (none)) else ((spec_l5Merge.f k x0).bind fun t376 => (if (t376.length : Int) > 200 then (some (2, ([] : List (S49)))) else (some (0, t376))))
def spec_MergeTables.f (k : Nat) (l0 : List (List (S49))) : Option (Int × (List (S49))) := if (l0.length : Int) > 8 then (some (2, ([] : List (S49)))) else (spec_MergeTables.l0 k l0 0)
theorem spec_MergeTables.calls (k : Nat) (A0 : Option Addr) (c0 : Nat) (l0 : List (List (S49))) (r1 : Int) (r2 : List (S49)) (w : World) (hr0 : Kd.C (Kd.slice 49 k49) w A0 l0.length l0) (hc0 : l0.length ≤ c0) (h : spec_MergeTables.f k l0 = some (r1, r2)) :
  Calls Try.prog 57 #[.slice A0 l0.length c0] w fun e w' => ∃ v1_ : Value, e = .returned (.agg #[.int .i64 r1, v1_]) ∧ Kd.R k49 49 w' w.heap.size (fun _ => True) v1_ r2 ∧ Below w.heap.size w w' := by
 have hu46 := Try.underlying46
 have HR0 := am hr0
 have HC0 := am hc0
 clear hr0 hc0
 have HB := am (Below.refl w.heap.size w)
 have H : (if (l0.length : Int) > 8 then (some (2, ([] : List (S49)))) else (spec_MergeTables.l0 k l0 0)) = some (r1, r2) := h
 clear h
 by_cases c2 : (l0.length : Int) > 8
 ·rw [if_pos c2] at H
  have c2b0 := decide_eq_true c2
  have c2b1 : decide (8 < l0.length) = true := decide_eq_true (by omega)
  clear c2
  simp only [Option.some.injEq, Prod.mk.injEq] at H
  obtain ⟨rfl, rfl⟩ := H
  go_enter Try.func57, Try.ntmps57
  go_wp2_with (first | ((with_reducible refine gate_dst (N := 2) rfl ?_); refine q_box (N := 2) (cs := #[.int .i64 0, .slice none 0 0]) (t := 46) ?_; intro gb373 hg w3 hbox hb; have n0_ := am (below_step bq hb); have n1_ := am (hbox); have n2_ := am ((q_g hg bq : w.heap.size ≤ gb373)); have n3_ := n2_; revert n0_ n1_ n2_ n3_; clear HB; intro HB BK373 GW373 GE373; clear hb hbox hg; obtain ⟨hcz4_0, hcz4_1, hfz4_0, hfz4_1⟩ := q_2 BK373.out))
  refine bodyPost_ret (results_cell_row rfl _ _ gb373 46 #[.int .i64 2, .slice none 0 0] (0, 0) _ rfl (by (with_reducible repeat (first | refine blk_drewN ?_ _ | refine blk_drew ?_ | refine blk_alloc ?_ _)); refine blk_put (cs := #[.int .i64 2, .slice none 0 0]) ?_ 1 _ rfl; (with_reducible repeat (first | refine blk_drewN ?_ _ | refine blk_drew ?_ | refine blk_alloc ?_ _)); refine blk_put (cs := #[.int .i64 0, .slice none 0 0]) ?_ 0 _ rfl; (with_reducible repeat (first | refine blk_drewN ?_ _ | refine blk_drew ?_ | refine blk_alloc ?_ _)); exact BK373.out) Try.underlying46 rfl (by kernel_rfl)) rfl ?_
  exact ⟨_, q_e, by first | exact Kd.R_nil _ _ _ _ _ | exact Kd.N_nil _ _ _ _ _ | exact Kd.V_nil _ _ _ _ _ | exact Kd.Q_nil _ _ _ _ _ | exact Kd.S_nil _ _ _ _ _, bq⟩
 ·rw [if_neg c2] at H
  have c2b0 := decide_eq_false c2
  have c2b1 : decide (8 < l0.length) = false := decide_eq_false (by omega)
  clear c2
  have H' := am H
  clear H
  go_enter Try.func57, Try.ntmps57
  go_wp2_with (first | ((with_reducible refine gate_dst (N := 2) rfl ?_); refine q_box (N := 2) (cs := #[.int .i64 0, .slice none 0 0]) (t := 46) ?_; intro gb373 hg w5 hbox hb; have n0_ := am (below_step bq hb); have n1_ := am (hbox); have n2_ := am ((q_g hg bq : w.heap.size ≤ gb373)); have n3_ := n2_; revert n0_ n1_ n2_ n3_; clear HB; intro HB BK373 GW373 GE373; clear hb hbox hg))
  go_loopg [3] k (fun kq v3 w' => ∃ (x3_1 : Int) (x374000_1 : Int), v3 = .int .i64 x3_1 ∧ Aside0 (spec_MergeTables.l0 kq l0 x3_1 = some (r1, r2)) ∧ Aside0 (kq ≤ k) ∧ Aside0 (w'.heap[gb373]? = some (.cells #[.int .i64 x374000_1, (.slice none 0 0)] 46 (0, 0))) ∧ Aside0 (Below w.heap.size w w'))
  case atStart => exact ⟨(0), (0), q_i, H', ⟨Nat.le_refl _⟩, ⟨q_b BK373.out⟩, ⟨bq⟩⟩
  case round =>
   clear H'
   (try clear c2); (try clear c2b0); (try clear c2b1); (try clear p2); (try clear c5); (try clear hcz4_0); (try clear hcz4_1); (try clear hfz4_0); (try clear hfz4_1)
   obtain ⟨x3_1, x374000_1, rfl, HA, HK1, BK373, HB⟩ := hrel
   cases gk with
   | zero => exact absurd HA.out (by simp [spec_MergeTables.l0])
   | succ k1 =>
    have H := HA.out
    clear HA
    simp only [spec_MergeTables.l0] at H
    by_cases c6 : x3_1 < (l0.length : Int)
    ·rw [if_pos c6] at H
     have c6b0 := decide_eq_true c6
     clear c6
     by_cases c7 : 0 ≤ x3_1
     ·rw [if_pos c7] at H
      have c7b0 := decide_eq_true c7
      clear c7
      replace H := ob H
      obtain ⟨t375, A80, H⟩ := H
      replace H : (if t375 = 0 then (spec_MergeTables.l0 k1 l0 (wrap64 (x3_1 + 1))) else (some (t375, ([] : List (S49))))) = some (r1, r2) := H
      have A8 := am A80
      clear A80
      by_cases c9 : t375 = 0
      ·rw [if_pos c9] at H
       have c9b0 : (t375 == 0) = true := beq_iff_eq.mpr c9
       have c9b1 : (t375 != 0) = false := bne_eq_false_iff_eq.mpr c9
       clear c9
       have H' := am H
       clear H
       have p374 : 0 ≤ (x3_1 : Int) := q_d
       have q374 : x3_1 < (l0.length : Int) := q_d
       obtain ⟨ad374, A374_0, c374_0, e374, hx374_0, hl374_0, hi374_0⟩ := at_L5 HR0.out x3_1 p374 q374
       cases e374
       replace hx374_0 := q_x HB.out hx374_0
       have HR374_0 := am hi374_0
       have HC374_0 := am hl374_0
       clear hi374_0 hl374_0
       replace p374 := eq_true p374
       replace q374 := eq_true q374
       go_wp2_with (first | ((with_reducible refine gate_callee (f := 16) rfl ?_); refine goesLq (some 20) rfl rfl Try.func16 (by kernel_rfl) rfl #[.slice A374_0 (rd_L5 l0 x3_1).length c374_0] rfl ?_; (with_reducible refine (spec_TableFault.calls k1 _ _ (rd_L5 l0 x3_1) t375 _ ?side1 ?side2 A8.out).mono ?_); (case side1 => exact q_c ((Kd.C_below HR374_0.out HB.out))); (case side2 => exact HC374_0.out); rintro e w10 ⟨rfl, hb⟩; refine ⟨_, rfl, ?_⟩; have n0_ := am (blk_below (q_b BK373.out) hb); have n1_ := am (below_step bq hb); revert n0_ n1_; clear BK373 HB; intro BK373 HB; (try clear hb); (try clear hb2); (try clear hk); (try clear hi)))
       go_roundg k1
       case measure => have := HK1.out; omega
       case rel => exact ⟨(wrap64 (x3_1 + 1)), (x374000_1), q_i, H', ⟨by have := HK1.out; omega⟩, ⟨q_b BK373.out⟩, ⟨bq⟩⟩
      ·rw [if_neg c9] at H
       have c9b0 : (t375 == 0) = false := beq_eq_false_iff_ne.mpr c9
       have c9b1 : (t375 != 0) = true := bne_iff_ne.mpr c9
       simp only [Option.some.injEq, Prod.mk.injEq] at H
       obtain ⟨rfl, rfl⟩ := H
       have p374 : 0 ≤ (x3_1 : Int) := q_d
       have q374 : x3_1 < (l0.length : Int) := q_d
       obtain ⟨ad374, A374_0, c374_0, e374, hx374_0, hl374_0, hi374_0⟩ := at_L5 HR0.out x3_1 p374 q374
       cases e374
       replace hx374_0 := q_x HB.out hx374_0
       have HR374_0 := am hi374_0
       have HC374_0 := am hl374_0
       clear hi374_0 hl374_0
       replace p374 := eq_true p374
       replace q374 := eq_true q374
       go_wp2_with (first | ((with_reducible refine gate_callee (f := 16) rfl ?_); refine goesLq (some 20) rfl rfl Try.func16 (by kernel_rfl) rfl #[.slice A374_0 (rd_L5 l0 x3_1).length c374_0] rfl ?_; (with_reducible refine (spec_TableFault.calls k1 _ _ (rd_L5 l0 x3_1) t375 _ ?side1 ?side2 A8.out).mono ?_); (case side1 => exact q_c ((Kd.C_below HR374_0.out HB.out))); (case side2 => exact HC374_0.out); rintro e w11 ⟨rfl, hb⟩; refine ⟨_, rfl, ?_⟩; have n0_ := am (blk_below (q_b BK373.out) hb); have n1_ := am (below_step bq hb); revert n0_ n1_; clear BK373 HB; intro BK373 HB; (try clear hb); (try clear hb2); (try clear hk); (try clear hi); obtain ⟨hcz12_0, hcz12_1, hfz12_0, hfz12_1⟩ := q_2 BK373.out))
       refine bodyPost_ret (results_cell_row rfl _ _ gb373 46 #[.int .i64 t375, .slice none 0 0] (0, 0) _ rfl (by (with_reducible repeat (first | refine blk_drewN ?_ _ | refine blk_drew ?_ | refine blk_alloc ?_ _)); refine blk_put (cs := #[.int .i64 t375, .slice none 0 0]) ?_ 1 _ rfl; (with_reducible repeat (first | refine blk_drewN ?_ _ | refine blk_drew ?_ | refine blk_alloc ?_ _)); refine blk_put (cs := #[.int .i64 x374000_1, .slice none 0 0]) ?_ 0 _ rfl; (with_reducible repeat (first | refine blk_drewN ?_ _ | refine blk_drew ?_ | refine blk_alloc ?_ _)); exact BK373.out) Try.underlying46 rfl (by kernel_rfl)) rfl ?_
       exact ⟨_, q_e, by first | exact Kd.R_nil _ _ _ _ _ | exact Kd.N_nil _ _ _ _ _ | exact Kd.V_nil _ _ _ _ _ | exact Kd.Q_nil _ _ _ _ _ | exact Kd.S_nil _ _ _ _ _, bq⟩
     ·rw [if_neg c7] at H
      exact absurd H (by simp)
    ·rw [if_neg c6] at H
     have c6b0 := decide_eq_false c6
     clear c6
     replace H := ob H
     obtain ⟨t376, A130, H⟩ := H
     replace H : (if (t376.length : Int) > 200 then (some (2, ([] : List (S49)))) else (some (0, t376))) = some (r1, r2) := H
     have A13 := am A130
     clear A130
     by_cases c14 : (t376.length : Int) > 200
     ·rw [if_pos c14] at H
      have c14b0 := decide_eq_true c14
      have c14b1 : decide (200 < t376.length) = true := decide_eq_true (by omega)
      clear c14
      simp only [Option.some.injEq, Prod.mk.injEq] at H
      obtain ⟨rfl, rfl⟩ := H
      go_wp2_with (first | ((with_reducible refine gate_callee (f := 103) rfl ?_); refine goesLq (some 26) rfl rfl Try.func103 (by kernel_rfl) rfl #[.slice A0 l0.length c0] rfl ?_; (with_reducible refine (spec_l5Merge.calls k1 _ _ l0 t376 _ ?side1 ?side2 A13.out).mono ?_); (case side1 => exact q_c ((Kd.C_below HR0.out HB.out))); (case side2 => exact HC0.out); rintro e w15 ⟨v377, rfl, ho0, hb⟩; refine ⟨_, rfl, ?_⟩; have n0_ := am (Kd.R_lower ho0 (below_size bq)); have n1_ := am (blk_below (q_b BK373.out) hb); have n2_ := am (below_step bq hb); revert n0_ n1_ n2_; clear BK373 HB; intro HO378 BK373 HB; (try clear hb); (try clear hb2); (try clear hk); (try clear hi); (try clear ho0); obtain ⟨Ao16, co16, eo16⟩ := Kd.R_slice HO378.out; subst eo16; obtain ⟨hcz17_0, hcz17_1, hfz17_0, hfz17_1⟩ := q_2 BK373.out))
      refine bodyPost_ret (results_cell_row rfl _ _ gb373 46 #[.int .i64 2, .slice none 0 0] (0, 0) _ rfl (by (with_reducible repeat (first | refine blk_drewN ?_ _ | refine blk_drew ?_ | refine blk_alloc ?_ _)); refine blk_put (cs := #[.int .i64 2, .slice none 0 0]) ?_ 1 _ rfl; (with_reducible repeat (first | refine blk_drewN ?_ _ | refine blk_drew ?_ | refine blk_alloc ?_ _)); refine blk_put (cs := #[.int .i64 x374000_1, .slice none 0 0]) ?_ 0 _ rfl; (with_reducible repeat (first | refine blk_drewN ?_ _ | refine blk_drew ?_ | refine blk_alloc ?_ _)); exact BK373.out) Try.underlying46 rfl (by kernel_rfl)) rfl ?_
      exact ⟨_, q_e, by first | exact Kd.R_nil _ _ _ _ _ | exact Kd.N_nil _ _ _ _ _ | exact Kd.V_nil _ _ _ _ _ | exact Kd.Q_nil _ _ _ _ _ | exact Kd.S_nil _ _ _ _ _, bq⟩
     ·rw [if_neg c14] at H
      have c14b0 := decide_eq_false c14
      have c14b1 : decide (200 < t376.length) = false := decide_eq_false (by omega)
      clear c14
      simp only [Option.some.injEq, Prod.mk.injEq] at H
      obtain ⟨rfl, rfl⟩ := H
      go_wp2_with (first | ((with_reducible refine gate_callee (f := 103) rfl ?_); refine goesLq (some 26) rfl rfl Try.func103 (by kernel_rfl) rfl #[.slice A0 l0.length c0] rfl ?_; (with_reducible refine (spec_l5Merge.calls k1 _ _ l0 t376 _ ?side1 ?side2 A13.out).mono ?_); (case side1 => exact q_c ((Kd.C_below HR0.out HB.out))); (case side2 => exact HC0.out); rintro e w18 ⟨v377, rfl, ho0, hb⟩; refine ⟨_, rfl, ?_⟩; have n0_ := am (Kd.R_lower ho0 (below_size bq)); have n1_ := am (blk_below (q_b BK373.out) hb); have n2_ := am (below_step bq hb); revert n0_ n1_ n2_; clear BK373 HB; intro HO378 BK373 HB; (try clear hb); (try clear hb2); (try clear hk); (try clear hi); (try clear ho0); obtain ⟨Ao19, co19, eo19⟩ := Kd.R_slice HO378.out; subst eo19; obtain ⟨hcz20_0, hcz20_1, hfz20_0, hfz20_1⟩ := q_2 BK373.out))
      refine bodyPost_ret (results_cell_row rfl _ _ gb373 46 #[.int .i64 0, .slice Ao19 t376.length co19] (0, 0) _ rfl (by (with_reducible repeat (first | refine blk_drewN ?_ _ | refine blk_drew ?_ | refine blk_alloc ?_ _)); refine blk_put (cs := #[.int .i64 0, .slice none 0 0]) ?_ 1 _ rfl; (with_reducible repeat (first | refine blk_drewN ?_ _ | refine blk_drew ?_ | refine blk_alloc ?_ _)); refine blk_put (cs := #[.int .i64 x374000_1, .slice none 0 0]) ?_ 0 _ rfl; (with_reducible repeat (first | refine blk_drewN ?_ _ | refine blk_drew ?_ | refine blk_alloc ?_ _)); exact BK373.out) Try.underlying46 rfl (by kernel_rfl)) rfl ?_
      exact ⟨_, q_e, by (with_reducible repeat (first | apply Kd.R_alloc | apply Kd.R_drewN | apply Kd.R_drew)); exact Kd.R_mono (Kd.R_far (p := ⟨gb373, 1, none⟩) (Kd.R_far (p := ⟨gb373, 0, none⟩) (Kd.R_types HO378.out BK373.out (by decide)) (fun _ hk => hk.2) (.int .i64 0)) (fun _ hk => hk.2) (.slice Ao19 t376.length co19)) (fun _ hk => trivial), bq⟩

end Go.Proofs.Ytdhlcnlcpjlliaa.PFnTables
