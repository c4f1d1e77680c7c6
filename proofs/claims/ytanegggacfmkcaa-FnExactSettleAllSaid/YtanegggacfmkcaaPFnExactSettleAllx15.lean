/- Functions that a law reaches, as plain Lean functions, with the proof that the machine comes to their answers. No conditions. -/
import Derived.Test.YtanegggacfmkcaaPFnExactSettleAllx0
import Derived.Test.YtanegggacfmkcaaPFnExactSettleAllx10
import Derived.Test.YtanegggacfmkcaaPFnExactSettleAllx12
import Derived.Test.YtanegggacfmkcaaPFnExactSettleAllx14
namespace Go.Proofs.Ytanegggacfmkcaa.PFnExactSettleAll
open Go.RowKit Go.Proofs.YtanegggacfmkcaaW.PrintWords Go.Proofs.YtanegggacfmkcaaW.PrintLast Go.Proofs.YtanegggacfmkcaaW.PrintMore
attribute [local go_sem] max2_int min2_int max_two min_two max_three min_three max_four min_four   -- for this text's walks alone
set_option linter.unusedVariables false
set_option linter.unusedSimpArgs false
set_option maxHeartbeats 8000000
set_option maxRecDepth 100000

/-! ### spec_SettleAll: function 16 -/
def spec_SettleAll.l0 : Nat → List (S40) → Int → Int → List Int → List (List (S104)) → Option (Int × List Int × (List (List (S104))))
  | 0, _, _, _, _, _ => none
  | k + 1, x1, x7, x353000, x353001, x353002 => if x7 < (x1.length : Int) then (if 0 ≤ x7 then ((spec_l2Can.f k x353002 ((rd_T40 x1 x7).f0) ((rd_T40 x1 x7).f1)).bind fun t354 => (if t354 = 0 then ((spec_l2Settle.f k x353002 ((rd_T40 x1 x7).f0) ((rd_T40 x1 x7).f1)).bind fun t356 => (if x353001.length < 17592186044416 then (spec_SettleAll.l0 k x1 (wrap64 (x7 + 1)) x353000 (x353001 ++ [1]) t356) else (none))) else (if x353001.length < 17592186044416 then (spec_SettleAll.l0 k x1 (wrap64 (x7 + 1)) x353000 (x353001 ++ [2]) x353002) else (none)))) else (none)) else (some (x353000, x353001, x353002))
def spec_SettleAll.f (k : Nat) (l0_0 : List (List (S104))) (l1 : List (S40)) : Option (Int × List Int × (List (List (S104)))) := (spec_LedgerFault.f k l0_0).bind fun t348 => (if t348 = 0 then (if (l1.length : Int) > 100 then (some (2, ([] : List Int), ([] : List (List (S104))))) else ((spec_l2Settle.f k l0_0 0 ([] : List (S86))).bind fun t349 => (spec_SettleAll.l0 k l1 0 0 ([] : List Int) t349))) else (some (t348, ([] : List Int), ([] : List (List (S104))))))
def spec_SettleAll.T11 : Bool × List (List Nat × List Nat) := (true, [([], []), ([0], [0]), ([], []), ([], []), ([2, 3], [2, 3]), ([4], [4]), ([1, 5], [1, 5]), ([6], [6])])
def spec_SettleAll.B11 : List Nat := [0, 1, 0, 0, 12, 28, 63, 127]
theorem spec_SettleAll.tab11 : rtab .any (opsOf Try.f16 11) = spec_SettleAll.T11 := by kernel_rfl
theorem spec_SettleAll.bits11 : waitsOk spec_SettleAll.T11.2 spec_SettleAll.B11 = true := by kernel_rfl
def spec_SettleAll.T13 : Bool × List (List Nat × List Nat) := (true, [([], []), ([0], [0]), ([], []), ([], []), ([2, 3], [2, 3]), ([4], [4]), ([1, 5], [1, 5]), ([0, 1, 2, 3, 4, 5, 6], []), ([7, 6, 6, 0, 1, 2, 3, 4, 5, 6], [6, 7])])
def spec_SettleAll.B13 : List Nat := [0, 1, 0, 0, 12, 28, 63, 127, 255]
theorem spec_SettleAll.tab13 : rtab .any (opsOf Try.f16 13) = spec_SettleAll.T13 := by kernel_rfl
theorem spec_SettleAll.bits13 : waitsOk spec_SettleAll.T13.2 spec_SettleAll.B13 = true := by kernel_rfl
theorem spec_SettleAll.calls (k : Nat) (A0_0 : Option Addr) (c0_0 : Nat) (l0_0 : List (List (S104))) (A1 : Option Addr) (c1 : Nat) (l1 : List (S40)) (r1 : Int) (r2 : List Int) (r3 : List (List (S104))) (w : World) (hr0_0 : Kd.C (Kd.slice 104 k104) w A0_0 l0_0.length l0_0) (hc0_0 : l0_0.length ≤ c0_0) (hr1 : Kd.C k40 w A1 l1.length l1) (hc1 : l1.length ≤ c1) (h : spec_SettleAll.f k l0_0 l1 = some (r1, r2, r3)) :
  Calls Try.prog 16 #[.agg #[.slice A0_0 l0_0.length c0_0], .slice A1 l1.length c1] w fun e w' => ∃ v1_ v2_ : Value, e = .returned (.agg #[.int .i64 r1, v1_, v2_]) ∧ Kd.R (Kd.int .i64) 2 w' w.heap.size (fun _ => True) v1_ r2 ∧ Kd.S (Kd.slice 104 k104) 64 w' w.heap.size (fun _ => True) v2_ r3 ∧ Below w.heap.size w w' := by
 have hu26 := Try.underlying26
 have hu32 := Try.underlying32
 have hu40 := Try.underlying40
 have HR0_0 := am hr0_0
 have HC0_0 := am hc0_0
 clear hr0_0 hc0_0
 have HR1 := am hr1
 have HC1 := am hc1
 clear hr1 hc1
 have HB := am (Below.refl w.heap.size w)
 have H : ((spec_LedgerFault.f k l0_0).bind fun t348 => (if t348 = 0 then (if (l1.length : Int) > 100 then (some (2, ([] : List Int), ([] : List (List (S104))))) else ((spec_l2Settle.f k l0_0 0 ([] : List (S86))).bind fun t349 => (spec_SettleAll.l0 k l1 0 0 ([] : List Int) t349))) else (some (t348, ([] : List Int), ([] : List (List (S104))))))) = some (r1, r2, r3) := h
 clear h
 replace H := ob H
 obtain ⟨t348, A30, H⟩ := H
 replace H : (if t348 = 0 then (if (l1.length : Int) > 100 then (some (2, ([] : List Int), ([] : List (List (S104))))) else ((spec_l2Settle.f k l0_0 0 ([] : List (S86))).bind fun t349 => (spec_SettleAll.l0 k l1 0 0 ([] : List Int) t349))) else (some (t348, ([] : List Int), ([] : List (List (S104)))))) = some (r1, r2, r3) := H
 have A3 := am A30
 clear A30
 by_cases c4 : t348 = 0
 ·rw [if_pos c4] at H
  have c4b0 : (t348 == 0) = true := beq_iff_eq.mpr c4
  have c4b1 : (t348 != 0) = false := bne_eq_false_iff_eq.mpr c4
  clear c4
  by_cases c5 : (l1.length : Int) > 100
  ·rw [if_pos c5] at H
   have c5b0 := decide_eq_true c5
   have c5b1 : decide (100 < l1.length) = true := decide_eq_true (by omega)
   clear c5
   simp only [Option.some.injEq, Prod.mk.injEq] at H
   obtain ⟨rfl, rfl, rfl⟩ := H
   go_enter Try.func16, Try.ntmps16
   go_wp2_with (first | ((with_reducible refine gate_dst (N := 2) rfl ?_); refine q_box (N := 2) (cs := #[.slice A0_0 l0_0.length c0_0]) (t := 26) ?_; intro gb346 hg w6 hbox hb; have n0_ := am (below_step bq hb); have n1_ := am (hbox); have n2_ := am ((q_g hg bq : w.heap.size ≤ gb346)); have n3_ := n2_; revert n0_ n1_ n2_ n3_; clear HB; intro HB BK346 GW346 GE346; clear hb hbox hg) | ((with_reducible refine gate_dst (N := 4) rfl ?_); refine q_box (N := 4) (cs := #[.int .i64 0, .slice none 0 0, .slice none 0 0]) (t := 32) ?_; intro gb347 hg w7 hbox hb; have n0_ := am (blk_below (q_b BK346.out) hb); have n1_ := am (below_step bq hb); have n2_ := am (hbox); have n3_ := am ((q_g hg bq : w.heap.size ≤ gb347)); have n4_ := n3_; have n5_ := am ((q_n hg (q_b BK346.out) : gb346 ≠ gb347)); have n6_ := am n5_.out.symm; revert n0_ n1_ n2_ n3_ n4_ n5_ n6_; clear BK346 HB; intro BK346 HB BK347 GW347 GE347 NB346_347 NB347_346; clear hb hbox hg; have hnb8 := NB346_347.out; have hnc8 := NB347_346.out; obtain ⟨hcz9_0, hfz9_0⟩ := q_1 BK346.out) | ((with_reducible refine gate_callee (f := 46) rfl ?_); refine goesLq (some 10) rfl rfl Try.func46 (by kernel_rfl) rfl #[.agg #[.slice A0_0 l0_0.length c0_0]] rfl ?_; (with_reducible refine (spec_LedgerFault.calls k _ _ l0_0 t348 _ ?side1 ?side2 A3.out).mono ?_); (case side1 => exact q_c ((Kd.C_below HR0_0.out HB.out))); (case side2 => exact HC0_0.out); rintro e w10 ⟨rfl, hb⟩; refine ⟨_, rfl, ?_⟩; have n0_ := am (blk_below (q_b BK346.out) hb); have n1_ := am (blk_below (q_b BK347.out) hb); have n2_ := am (below_step bq hb); revert n0_ n1_ n2_; clear BK346 BK347 HB; intro BK346 BK347 HB; (try clear hb); (try clear hb2); (try clear hk); (try clear hi); obtain ⟨hcz11_0, hcz11_1, hcz11_2, hfz11_0, hfz11_1, hfz11_2⟩ := q_3 BK347.out))
   refine bodyPost_ret (results_cell_row rfl _ _ gb347 32 #[.int .i64 2, .slice none 0 0, .slice none 0 0] (0, 0) _ rfl (by (with_reducible repeat (first | refine blk_drewN ?_ _ | refine blk_drew ?_ | refine blk_alloc ?_ _)); refine blk_put (cs := #[.int .i64 2, .slice none 0 0, .slice none 0 0]) ?_ 2 _ rfl; (with_reducible repeat (first | refine blk_drewN ?_ _ | refine blk_drew ?_ | refine blk_alloc ?_ _)); refine blk_put (cs := #[.int .i64 2, .slice none 0 0, .slice none 0 0]) ?_ 1 _ rfl; (with_reducible repeat (first | refine blk_drewN ?_ _ | refine blk_drew ?_ | refine blk_alloc ?_ _)); refine blk_put (cs := #[.int .i64 0, .slice none 0 0, .slice none 0 0]) ?_ 0 _ rfl; (with_reducible repeat (first | refine blk_drewN ?_ _ | refine blk_drew ?_ | refine blk_alloc ?_ _)); exact BK347.out) Try.underlying32 rfl (by kernel_rfl)) rfl ?_
   exact ⟨_, _, q_e, by first | exact Kd.R_nil _ _ _ _ _ | exact Kd.N_nil _ _ _ _ _ | exact Kd.V_nil _ _ _ _ _ | exact Kd.Q_nil _ _ _ _ _ | exact Kd.S_nil _ _ _ _ _, by first | exact Kd.S_nil _ _ _ _ _ | exact Kd.N_nil _ _ _ _ _ | exact Kd.V_nil _ _ _ _ _ | exact Kd.Q_nil _ _ _ _ _ | exact Kd.R_nil _ _ _ _ _, bq⟩
  ·rw [if_neg c5] at H
   have c5b0 := decide_eq_false c5
   have c5b1 : decide (100 < l1.length) = false := decide_eq_false (by omega)
   clear c5
   replace H := ob H
   obtain ⟨t349, A120, H⟩ := H
   replace H : (spec_SettleAll.l0 k l1 0 0 ([] : List Int) t349) = some (r1, r2, r3) := H
   have A12 := am A120
   clear A120
   have H' := am H
   clear H
   go_enter Try.func16, Try.ntmps16
   go_wp2_with (first | ((with_reducible refine gate_dst (N := 2) rfl ?_); refine q_box (N := 2) (cs := #[.slice A0_0 l0_0.length c0_0]) (t := 26) ?_; intro gb346 hg w13 hbox hb; have n0_ := am (below_step bq hb); have n1_ := am (hbox); have n2_ := am ((q_g hg bq : w.heap.size ≤ gb346)); have n3_ := n2_; revert n0_ n1_ n2_ n3_; clear HB; intro HB BK346 GW346 GE346; clear hb hbox hg) | ((with_reducible refine gate_dst (N := 4) rfl ?_); refine q_box (N := 4) (cs := #[.int .i64 0, .slice none 0 0, .slice none 0 0]) (t := 32) ?_; intro gb347 hg w14 hbox hb; have n0_ := am (blk_below (q_b BK346.out) hb); have n1_ := am (below_step bq hb); have n2_ := am (hbox); have n3_ := am ((q_g hg bq : w.heap.size ≤ gb347)); have n4_ := n3_; have n5_ := am ((q_n hg (q_b BK346.out) : gb346 ≠ gb347)); have n6_ := am n5_.out.symm; revert n0_ n1_ n2_ n3_ n4_ n5_ n6_; clear BK346 HB; intro BK346 HB BK347 GW347 GE347 NB346_347 NB347_346; clear hb hbox hg; have hnb15 := NB346_347.out; have hnc15 := NB347_346.out; obtain ⟨hcz16_0, hfz16_0⟩ := q_1 BK346.out) | ((with_reducible refine gate_callee (f := 46) rfl ?_); refine goesLq (some 10) rfl rfl Try.func46 (by kernel_rfl) rfl #[.agg #[.slice A0_0 l0_0.length c0_0]] rfl ?_; (with_reducible refine (spec_LedgerFault.calls k _ _ l0_0 t348 _ ?side1 ?side2 A3.out).mono ?_); (case side1 => exact q_c ((Kd.C_below HR0_0.out HB.out))); (case side2 => exact HC0_0.out); rintro e w17 ⟨rfl, hb⟩; refine ⟨_, rfl, ?_⟩; have n0_ := am (blk_below (q_b BK346.out) hb); have n1_ := am (blk_below (q_b BK347.out) hb); have n2_ := am (below_step bq hb); revert n0_ n1_ n2_; clear BK346 BK347 HB; intro BK346 BK347 HB; (try clear hb); (try clear hb2); (try clear hk); (try clear hi); obtain ⟨hcz18_0, hfz18_0⟩ := q_1 BK346.out) | ((with_reducible refine gate_callee (f := 63) rfl ?_); refine goesLq (some 21) rfl rfl Try.func63 (by kernel_rfl) rfl #[.agg #[.slice A0_0 l0_0.length c0_0], .agg #[.int .i64 0, .slice none 0 0]] rfl ?_; (refine (spec_l2Settle.calls k _ _ l0_0 0 _ _ ([] : List (S86)) t349 _ ?side1 ?side2 ?side3 ?side4 A12.out).mono ?_); (case side1 => exact q_c ((Kd.C_below HR0_0.out HB.out))); (case side2 => exact HC0_0.out); (case side3 => exact Kd.C_nil _ _); (case side4 => exact Nat.le_refl _); rintro e w19 ⟨v350, rfl, ho0, hb⟩; refine ⟨_, rfl, ?_⟩; have n0_ := am (Kd.S_lower ho0 (below_size bq)); have n1_ := am (blk_below (q_b BK346.out) hb); have n2_ := am (blk_below (q_b BK347.out) hb); have n3_ := am (below_step bq hb); revert n0_ n1_ n2_ n3_; clear BK346 BK347 HB; intro HO351 BK346 BK347 HB; (try clear hb); (try clear hb2); (try clear hk); (try clear hi); (try clear ho0); obtain ⟨Ao20, co20, eo20⟩ := Kd.S_slice HO351.out; subst eo20) | ((with_reducible refine gate_dst (N := 6) rfl ?_); refine q_box (N := 6) (cs := #[.int .i64 0, .slice none 0 0, .slice none 0 0]) (t := 32) ?_; intro gb352 hg w21 hbox hb; have n0_ := am (Kd.S_below (q_s (HO351.out)) hb); have n1_ := am (blk_below (q_b BK346.out) hb); have n2_ := am (blk_below (q_b BK347.out) hb); have n3_ := am (below_step bq hb); have n4_ := am (hbox); have n5_ := am ((q_g hg bq : w.heap.size ≤ gb352)); have n6_ := n5_; have n7_ := am ((q_n hg (q_b BK346.out) : gb346 ≠ gb352)); have n8_ := am n7_.out.symm; have n9_ := am ((q_n hg (q_b BK347.out) : gb347 ≠ gb352)); have n10_ := am n9_.out.symm; revert n0_ n1_ n2_ n3_ n4_ n5_ n6_ n7_ n8_ n9_ n10_; clear HO351 BK346 BK347 HB; intro HO351 BK346 BK347 HB BK352 GW352 GE352 NB346_352 NB352_346 NB347_352 NB352_347; clear hb hbox hg; have hnb22 := NB352_346.out; have hnc22 := NB346_352.out; have hnb23 := NB352_347.out; have hnc23 := NB347_352.out; obtain ⟨hcz24_0, hcz24_1, hcz24_2, hfz24_0, hfz24_1, hfz24_2⟩ := q_3 BK352.out))
   go_loopg [7] k (fun kq v7 w' => ∃ (x7_1 : Int) (x353001_1 : List Int) (x353002_1 : List (List (S104))) (u353001 : Value) (u353002 : Value), v7 = .int .i64 x7_1 ∧ Aside0 (spec_SettleAll.l0 kq l1 x7_1 0 x353001_1 x353002_1 = some (r1, r2, r3)) ∧ Aside0 (kq ≤ k) ∧ Aside0 (Kd.R (Kd.int .i64) 2 w' w.heap.size (fun _ => True) u353001 x353001_1) ∧ Aside0 (Kd.S (Kd.slice 104 k104) 64 w' w.heap.size (fun _ => True) u353002 x353002_1) ∧ Aside0 (w'.heap[gb346]? = some (.cells #[(.slice A0_0 l0_0.length c0_0)] 26 (0, 0))) ∧ Aside0 (w'.heap[gb347]? = some (.cells #[.int .i64 0, (.slice none 0 0), (.slice none 0 0)] 32 (0, 0))) ∧ Aside0 (w'.heap[gb352]? = some (.cells #[.int .i64 0, u353001, u353002] 32 (0, 0))) ∧ Aside0 (Below w.heap.size w w'))
   case atStart => exact ⟨(0), (([] : List Int)), (t349), (.slice none 0 0), (.slice Ao20 t349.length co20), q_i, H', ⟨Nat.le_refl _⟩, ⟨by first | exact Kd.R_nil _ _ _ _ _ | exact Kd.N_nil _ _ _ _ _ | exact Kd.V_nil _ _ _ _ _ | exact Kd.Q_nil _ _ _ _ _ | exact Kd.S_nil _ _ _ _ _⟩, ⟨by (with_reducible repeat (first | apply Kd.S_alloc | apply Kd.S_drewN | apply Kd.S_drew)); exact Kd.S_mono (Kd.S_far (p := ⟨gb352, 2, none⟩) (Kd.S_far (p := ⟨gb352, 1, none⟩) (Kd.S_far (p := ⟨gb352, 0, none⟩) (Kd.S_types HO351.out BK352.out (by decide)) (fun _ hk => hk.2) (.int .i64 0)) (fun _ hk => hk.2) (.slice none 0 0)) (fun _ hk => hk.2) (.slice Ao20 t349.length co20)) (fun _ hk => trivial)⟩, ⟨by (with_reducible repeat (first | refine blk_drewN ?_ _ | refine blk_drew ?_ | refine blk_alloc ?_ _)); refine blk_far ?_ NB346_352.out _; (with_reducible repeat (first | refine blk_drewN ?_ _ | refine blk_drew ?_ | refine blk_alloc ?_ _)); refine blk_far ?_ NB346_352.out _; (with_reducible repeat (first | refine blk_drewN ?_ _ | refine blk_drew ?_ | refine blk_alloc ?_ _)); refine blk_far ?_ NB346_352.out _; (with_reducible repeat (first | refine blk_drewN ?_ _ | refine blk_drew ?_ | refine blk_alloc ?_ _)); exact BK346.out⟩, ⟨by (with_reducible repeat (first | refine blk_drewN ?_ _ | refine blk_drew ?_ | refine blk_alloc ?_ _)); refine blk_far ?_ NB347_352.out _; (with_reducible repeat (first | refine blk_drewN ?_ _ | refine blk_drew ?_ | refine blk_alloc ?_ _)); refine blk_far ?_ NB347_352.out _; (with_reducible repeat (first | refine blk_drewN ?_ _ | refine blk_drew ?_ | refine blk_alloc ?_ _)); refine blk_far ?_ NB347_352.out _; (with_reducible repeat (first | refine blk_drewN ?_ _ | refine blk_drew ?_ | refine blk_alloc ?_ _)); exact BK347.out⟩, ⟨by (with_reducible repeat (first | refine blk_drewN ?_ _ | refine blk_drew ?_ | refine blk_alloc ?_ _)); refine blk_put (cs := #[.int .i64 0, .slice none 0 0, .slice none 0 0]) ?_ 2 _ rfl; (with_reducible repeat (first | refine blk_drewN ?_ _ | refine blk_drew ?_ | refine blk_alloc ?_ _)); refine blk_put (cs := #[.int .i64 0, .slice none 0 0, .slice none 0 0]) ?_ 1 _ rfl; (with_reducible repeat (first | refine blk_drewN ?_ _ | refine blk_drew ?_ | refine blk_alloc ?_ _)); refine blk_put (cs := #[.int .i64 0, .slice none 0 0, .slice none 0 0]) ?_ 0 _ rfl; (with_reducible repeat (first | refine blk_drewN ?_ _ | refine blk_drew ?_ | refine blk_alloc ?_ _)); exact BK352.out⟩, ⟨bq⟩⟩
   case round =>
    clear H'
    (try clear c1); (try clear c2); (try clear p2); (try clear c4); (try clear c4b0); (try clear c4b1); (try clear c5); (try clear c5b0); (try clear c5b1); (try clear c6); (try clear c8); (try clear c15)
    (try clear c16); (try clear c22); (try clear c23); (try clear hcz11_0); (try clear hcz11_1); (try clear hcz11_2); (try clear hcz16_0); (try clear hcz18_0); (try clear hcz24_0); (try clear hcz24_1)
    (try clear hcz24_2); (try clear hcz9_0); (try clear hfz11_0); (try clear hfz11_1); (try clear hfz11_2); (try clear hfz16_0); (try clear hfz18_0); (try clear hfz24_0); (try clear hfz24_1); (try clear hfz24_2)
    (try clear hfz9_0)
    obtain ⟨x7_1, x353001_1, x353002_1, u353001, u353002, rfl, HA, HK1, HO_353001, HO_353002, BK346, BK347, BK352, HB⟩ := hrel
    cases gk with
    | zero => exact absurd HA.out (by simp [spec_SettleAll.l0])
    | succ k1 =>
     have H := HA.out
     clear HA
     simp only [spec_SettleAll.l0] at H
     by_cases c25 : x7_1 < (l1.length : Int)
     ·rw [if_pos c25] at H
      have c25b0 := decide_eq_true c25
      clear c25
      by_cases c26 : 0 ≤ x7_1
      ·rw [if_pos c26] at H
       have c26b0 := decide_eq_true c26
       clear c26
       replace H := ob H
       obtain ⟨t354, A270, H⟩ := H
       replace H : (if t354 = 0 then ((spec_l2Settle.f k1 x353002_1 ((rd_T40 l1 x7_1).f0) ((rd_T40 l1 x7_1).f1)).bind fun t356 => (if x353001_1.length < 17592186044416 then (spec_SettleAll.l0 k1 l1 (wrap64 (x7_1 + 1)) 0 (x353001_1 ++ [1]) t356) else (none))) else (if x353001_1.length < 17592186044416 then (spec_SettleAll.l0 k1 l1 (wrap64 (x7_1 + 1)) 0 (x353001_1 ++ [2]) x353002_1) else (none))) = some (r1, r2, r3) := H
       have A27 := am A270
       clear A270
       by_cases c28 : t354 = 0
       ·rw [if_pos c28] at H
        have c28b0 : (t354 == 0) = true := beq_iff_eq.mpr c28
        have c28b1 : (t354 != 0) = false := bne_eq_false_iff_eq.mpr c28
        clear c28
        replace H := ob H
        obtain ⟨t356, A290, H⟩ := H
        replace H : (if x353001_1.length < 17592186044416 then (spec_SettleAll.l0 k1 l1 (wrap64 (x7_1 + 1)) 0 (x353001_1 ++ [1]) t356) else (none)) = some (r1, r2, r3) := H
        have A29 := am A290
        clear A290
        by_cases c30 : x353001_1.length < 17592186044416
        ·rw [if_pos c30] at H
         have LMc30 := am c30
         clear c30
         obtain ⟨y359, hy359⟩ : ∃ y_ : List Int, y_ = (x353001_1 ++ [1]) := ⟨_, rfl⟩
         replace H : (spec_SettleAll.l0 k1 l1 (wrap64 (x7_1 + 1)) 0 y359 t356) = some (r1, r2, r3) := q_h hy359 H
         have Ny359 := am hy359
         clear hy359
         have H' := am H
         clear H
         try go_wp2
         have n0_ := am (Kd.R_drew HO_353001.out)
         have n1_ := am (Kd.S_drew HO_353002.out)
         have n2_ := am (blk_drew BK346.out)
         have n3_ := am (blk_drew BK347.out)
         have n4_ := am (blk_drew BK352.out)
         have n5_ := am (below_drew1 HB.out)
         clear HO_353001
         clear HO_353002
         clear BK346
         clear BK347
         clear BK352
         clear HB
         have HO_353001 := n0_
         have HO_353002 := n1_
         have BK346 := n2_
         have BK347 := n3_
         have BK352 := n4_
         have HB := n5_
         clear n0_ n1_ n2_ n3_ n4_ n5_
         have p353 : 0 ≤ (x7_1 : Int) := q_d
         have q353 : x7_1 < (l1.length : Int) := q_d
         obtain ⟨ad353, A353_1, c353_1, e353, hx353_0, hx353_1, hl353_1, hi353_1⟩ := at_T40 HR1.out x7_1 p353 q353
         have hw353_1 := hx353_1
         have hw353_0 := hx353_0
         cases e353
         replace hx353_0 := q_x HB.out hx353_0
         replace hx353_1 := q_x HB.out hx353_1
         have HR353_1 := am hi353_1
         have HC353_1 := am hl353_1
         clear hi353_1 hl353_1
         replace p353 := eq_true p353
         replace q353 := eq_true q353
         obtain ⟨Ao32, co32, eo32⟩ := Kd.S_slice HO_353002.out
         (first | subst eo32 | (injection eo32 with f1_ f2_ f3_; have f4_ := f1_.symm; have f5_ := f3_.symm; clear f1_ f2_ f3_; subst f4_; subst f5_))
         refine start_ (n := 8) (S := fun w' => w'.cell? ⟨gb352, 0, none⟩ = some (.int .i64 0) ∧ w'.cell? ⟨gb352, 1, none⟩ = some (u353001) ∧ w'.cell? ⟨gb352, 2, none⟩ = some (.slice Ao32 x353002_1.length co32) ∧ w'.cell? (ad353.add ((x7_1).toNat * 2)) = some (.int .i64 ((rd_T40 l1 x7_1).f0)) ∧ w'.cell? ⟨(ad353.add ((x7_1).toNat * 2)).block, (ad353.add ((x7_1).toNat * 2)).off + 1, none⟩ = some (.slice A353_1 ((rd_T40 l1 x7_1).f1).length c353_1)) (ds := []) #[false, false, false, false, false, false, false, false] (by kernel_rfl) rfl rfl ⟨q_z BK352.out 0, q_z BK352.out 1, q_z BK352.out 2, ((HB.out.cell (wb hw353_0)).trans hw353_0), ((HB.out.cell (wb hw353_1)).trans hw353_1)⟩ (fun hHeld => ?_); refine with_tabW spec_SettleAll.tab11 spec_SettleAll.bits11 (fun HT_ HW_ => ?_)
         generalize wr.drew = w31 at HO_353001 HO_353002 BK346 BK347 BK352 HB HR353_1 hx353_0 hx353_1 hHeld ⊢
         refine q_p 0 (some 29) #[true, false, false, false, false, false, false, false] HT_.out ?_
         refine q_p 2 (some 31) #[true, false, true, false, false, false, false, false] HT_.out ?_
         refine q_p 3 (some 32) #[true, false, true, true, false, false, false, false] HT_.out ?_
         refine q_p 4 (some 33) #[true, false, true, true, true, false, false, false] HT_.out ?_
         refine q_t 1 (some 30) #[true, true, true, true, true, false, false, false] HT_.out HW_.out hHeld ?_
         refine q_t 5 (some 34) #[true, true, true, true, true, true, false, false] HT_.out HW_.out hHeld ?_
         refine one_ (i := 6) (N := some 35) #[true, true, true, true, true, true, true, false] rfl rfl (one_of HT_.out (by kernel_rfl)) (by decide) (fun K hK => ?_)
         refine goes_ Try.func64 (by kernel_rfl) rfl #[.agg #[.slice Ao32 x353002_1.length co32], .agg #[.int .i64 ((rd_T40 l1 x7_1).f0), .slice A353_1 ((rd_T40 l1 x7_1).f1).length c353_1]] (by rfl) rfl rfl (by (try simp only [List.map_toArray, List.map_cons, List.map_nil]); first | done | rfl | (simp only [List.length_drop, List.length_take]; rfl)) ?_
         with_reducible refine (spec_l2Can.calls k1 _ _ x353002_1 ((rd_T40 l1 x7_1).f0) _ _ ((rd_T40 l1 x7_1).f1) t354 _ ?side1 ?side2 ?side3 ?side4 A27.out).mono ?_
         (case side1 => exact q_c ((Kd.S_reads' HO_353002.out).2.2))
         (case side2 => exact (Kd.S_reads' HO_353002.out).2.1)
         (case side3 => exact q_c ((Kd.C_below HR353_1.out HB.out)))
         (case side4 => exact HC353_1.out)
         rintro e w33 ⟨rfl, hb⟩
         refine ⟨_, rfl, ?_⟩
         have n0_ := am (Kd.R_below (q_r (HO_353001.out)) hb)
         have n1_ := am (Kd.S_below (q_s (HO_353002.out)) hb)
         have n2_ := am (blk_below (q_b BK346.out) hb)
         have n3_ := am (blk_below (q_b BK347.out) hb)
         have n4_ := am (blk_below (q_b BK352.out) hb)
         have n5_ := am (below_step bq hb)
         clear HO_353001
         clear HO_353002
         clear BK346
         clear BK347
         clear BK352
         clear HB
         have HO_353001 := n0_
         have HO_353002 := n1_
         have BK346 := n2_
         have BK347 := n3_
         have BK352 := n4_
         have HB := n5_
         clear n0_ n1_ n2_ n3_ n4_ n5_
         (try clear hb)
         (try clear hb2)
         (try clear hk)
         (try clear hi)
         refine hK.out _ _ ⟨q_z BK352.out 0, q_z BK352.out 1, q_z BK352.out 2, ((HB.out.cell (wb hw353_0)).trans hw353_0), ((HB.out.cell (wb hw353_1)).trans hw353_1)⟩ (fun hHeld => ?_)
         clear hK K
         refine norm_ (a' := ?_) ?_ ?_
         rotate_left
         ·show Act.put _ (some 35) _ = _
          simp only [Act.put, List.setIfInBounds_toArray, List.set_cons_zero, List.set_cons_succ, i64_w, i32_w]
          rfl
         refine q_p 7 (some 36) #[true, true, true, true, true, true, true, true] HT_.out ?_
         refine done_ (done_of HT_.out (by kernel_rfl)) ?_
         try go_wp2
         have n0_ := am (Kd.R_drew HO_353001.out)
         have n1_ := am (Kd.S_drew HO_353002.out)
         have n2_ := am (blk_drew BK346.out)
         have n3_ := am (blk_drew BK347.out)
         have n4_ := am (blk_drew BK352.out)
         have n5_ := am (below_drew1 HB.out)
         clear HO_353001
         clear HO_353002
         clear BK346
         clear BK347
         clear BK352
         clear HB
         have HO_353001 := n0_
         have HO_353002 := n1_
         have BK346 := n2_
         have BK347 := n3_
         have BK352 := n4_
         have HB := n5_
         clear n0_ n1_ n2_ n3_ n4_ n5_
         have p355 : 0 ≤ (x7_1 : Int) := q_d
         have q355 : x7_1 < (l1.length : Int) := q_d
         obtain ⟨ad355, A355_1, c355_1, e355, hx355_0, hx355_1, hl355_1, hi355_1⟩ := at_T40 HR1.out x7_1 p355 q355
         have hw355_1 := hx355_1
         have hw355_0 := hx355_0
         obtain rfl : ad353 = ad355 := (by injection e355)
         replace hx355_0 := q_x HB.out hx355_0
         replace hx355_1 := q_x HB.out hx355_1
         have HR355_1 := am hi355_1
         have HC355_1 := am hl355_1
         clear hi355_1 hl355_1
         replace p355 := eq_true p355
         replace q355 := eq_true q355
         refine start_ (n := 9) (S := fun w' => w'.cell? ⟨gb352, 0, none⟩ = some (.int .i64 0) ∧ w'.cell? ⟨gb352, 1, none⟩ = some (u353001) ∧ w'.cell? ⟨gb352, 2, none⟩ = some (.slice Ao32 x353002_1.length co32) ∧ w'.cell? (ad353.add ((x7_1).toNat * 2)) = some (.int .i64 ((rd_T40 l1 x7_1).f0)) ∧ w'.cell? ⟨(ad353.add ((x7_1).toNat * 2)).block, (ad353.add ((x7_1).toNat * 2)).off + 1, none⟩ = some (.slice A355_1 ((rd_T40 l1 x7_1).f1).length c355_1)) (ds := [8]) #[false, false, false, false, false, false, false, false, false] (by kernel_rfl) rfl rfl ⟨q_z BK352.out 0, q_z BK352.out 1, q_z BK352.out 2, ((HB.out.cell (wb hw355_0)).trans hw355_0), ((HB.out.cell (wb hw355_1)).trans hw355_1)⟩ (fun hHeld => ?_); refine with_tabW spec_SettleAll.tab13 spec_SettleAll.bits13 (fun HT_ HW_ => ?_)
         generalize w33.drew = w34 at HO_353001 HO_353002 BK346 BK347 BK352 HB HR355_1 hx355_0 hx355_1 hHeld ⊢
         refine q_p 0 (some 37) #[true, false, false, false, false, false, false, false, false] HT_.out ?_
         refine q_p 2 (some 39) #[true, false, true, false, false, false, false, false, false] HT_.out ?_
         refine q_p 3 (some 40) #[true, false, true, true, false, false, false, false, false] HT_.out ?_
         refine q_p 4 (some 41) #[true, false, true, true, true, false, false, false, false] HT_.out ?_
         refine q_t 1 (some 38) #[true, true, true, true, true, false, false, false, false] HT_.out HW_.out hHeld ?_
         refine q_t 5 (some 42) #[true, true, true, true, true, true, false, false, false] HT_.out HW_.out hHeld ?_
         refine one_ (i := 6) (N := some 43) #[true, true, true, true, true, true, true, false, false] rfl rfl (one_of HT_.out (by kernel_rfl)) (by decide) (fun K hK => ?_)
         refine goes_ Try.func63 (by kernel_rfl) rfl #[.agg #[.slice Ao32 x353002_1.length co32], .agg #[.int .i64 ((rd_T40 l1 x7_1).f0), .slice A355_1 ((rd_T40 l1 x7_1).f1).length c355_1]] (by rfl) rfl rfl (by (try simp only [List.map_toArray, List.map_cons, List.map_nil]); first | done | rfl | (simp only [List.length_drop, List.length_take]; rfl)) ?_
         with_reducible refine (spec_l2Settle.calls k1 _ _ x353002_1 ((rd_T40 l1 x7_1).f0) _ _ ((rd_T40 l1 x7_1).f1) t356 _ ?side1 ?side2 ?side3 ?side4 A29.out).mono ?_
         (case side1 => exact q_c ((Kd.S_reads' HO_353002.out).2.2))
         (case side2 => exact (Kd.S_reads' HO_353002.out).2.1)
         (case side3 => exact q_c ((Kd.C_below HR355_1.out HB.out)))
         (case side4 => exact HC355_1.out)
         rintro e w35 ⟨v357, rfl, ho0, hb⟩
         refine ⟨_, rfl, ?_⟩
         have n0_ := am (Kd.R_below (q_r (HO_353001.out)) hb)
         have n1_ := am (Kd.S_elder' (q_s (HO_353002.out)) (Kd.S_base ho0) hb)
         have n2_ := am (Kd.S_lower (Kd.S_new' ho0 (Kd.S_lt (q_s (HO_353002.out)))) (below_size bq))
         have n3_ := am (blk_below (q_b BK346.out) hb)
         have n4_ := am (blk_below (q_b BK347.out) hb)
         have n5_ := am (blk_below (q_b BK352.out) hb)
         have n6_ := am (below_step bq hb)
         clear HO_353001
         clear HO_353002
         clear BK346
         clear BK347
         clear BK352
         clear HB
         have HO_353001 := n0_
         have HO_353002 := n1_
         have HO358 := n2_
         have BK346 := n3_
         have BK347 := n4_
         have BK352 := n5_
         have HB := n6_
         clear n0_ n1_ n2_ n3_ n4_ n5_ n6_
         (try clear hb)
         (try clear hb2)
         (try clear hk)
         (try clear hi)
         (try clear ho0)
         obtain ⟨Ao36, co36, eo36⟩ := Kd.S_slice HO358.out
         (first | subst eo36 | (injection eo36 with f1_ f2_ f3_; have f4_ := f1_.symm; have f5_ := f3_.symm; clear f1_ f2_ f3_; subst f4_; subst f5_))
         refine hK.out _ _ ⟨q_z BK352.out 0, q_z BK352.out 1, q_z BK352.out 2, ((HB.out.cell (wb hw355_0)).trans hw355_0), ((HB.out.cell (wb hw355_1)).trans hw355_1)⟩ (fun hHeld => ?_)
         clear hK K
         refine norm_ (a' := ?_) ?_ ?_
         rotate_left
         ·show Act.put _ (some 43) _ = _
          simp only [Act.put, List.setIfInBounds_toArray, List.set_cons_zero, List.set_cons_succ, i64_w, i32_w]
          rfl
         refine q_p 7 (some 44) #[true, true, true, true, true, true, true, true, false] HT_.out ?_
         refine last_ (i := 8) (N := none) #[true, true, true, true, true, true, true, true, true] rfl rfl (one_of HT_.out (by kernel_rfl)) (by decide) (fun K hK => ?_)
         have hs37 : w35.cell? ⟨gb352, 2, none⟩ = some (.slice Ao32 x353002_1.length co32) := (blk_cell BK352.out 2).trans rfl
         have hfs37 := blk_frozen BK352.out 2
         have hns37_0 := NB346_352.out
         have hns37_1 := NB347_352.out
         have hms37_0 := NB352_346.out
         have hms37_1 := NB352_347.out
         refine skip_ (w1 := ?_) (by rfl) rfl ?_ ?_
         rotate_left
         ·go_simp
          rfl
         refine hK.out _ _ ?_
         clear hK K
         refine done_ (done_of HT_.out (by kernel_rfl)) ?_
         have hnb38 := NB352_346.out
         have hnc38 := NB346_352.out
         have hnb39 := NB352_347.out
         have hnc39 := NB347_352.out
         obtain ⟨hcz40_0, hcz40_1, hcz40_2, hfz40_0, hfz40_1, hfz40_2⟩ := q_3 BK352.out
         try go_wp2_with (first | ((with_reducible refine gate_builtin (b := .append) (xs := #[.tmp 46, .tmp 48]) rfl ?_); at_builtin; refine Kd.R_append (Kd.int .i64) (w0 := w) w.heap.size rfl (.tmp 46) (.tmp 48) 30 2 (.int .i64 0) 8 rfl Try.underlying30 info2 rfl (by decide) (by omega) u353001 x353001_1 1 [.int .i64 1] (fun _ => True) (fun _ => False) rfl (by first | (go_simp; done) | (go_simp; rfl)) ?aP (fun _ hk => hk.elim) ?aF ?aO ?aB ?aS ?aL ?_; (case aP => exact rfl); (case aB => exact bq); (case aF => exact (fun _ _ => trivial)); (case aO => exact (by (with_reducible repeat (first | apply Kd.R_alloc | apply Kd.R_drewN | apply Kd.R_drew)); exact Kd.R_mono (Kd.R_far (p := ⟨gb352, 2, none⟩) (Kd.R_types HO_353001.out BK352.out (by decide)) (fun _ hk => hk.2) (.slice Ao36 t356.length co36)) (fun _ hk => trivial))); (case aS => exact (below_size bq)); (case aL => have := LMc30.out; omega); intro v360 w41 ho hb hg hat; rw [← Ny359.out] at ho; have n0_ := am (Kd.S_over' (by (with_reducible repeat (first | apply Kd.S_alloc | apply Kd.S_drewN | apply Kd.S_drew)); exact (Kd.S_mono (Kd.S_far (p := ⟨gb352, 2, none⟩) (Kd.S_types HO_353002.out BK352.out (by decide)) (fun _ hk => hk.2) (.slice Ao36 t356.length co36)) (fun _ h_ => h_.1))) (Kd.R_typed (by (with_reducible repeat (first | apply Kd.R_alloc | apply Kd.R_drewN | apply Kd.R_drew)); exact (Kd.R_mono (Kd.R_far (p := ⟨gb352, 2, none⟩) (Kd.R_types HO_353001.out BK352.out (by decide)) (fun _ hk => hk.2) (.slice Ao36 t356.length co36)) (fun _ h_ => h_.1)))) (by decide) hg); have n1_ := am (blk_grown (g := gb346) (o := .cells #[.slice A0_0 l0_0.length c0_0] 26 (0, 0)) (by (with_reducible repeat (first | refine blk_drewN ?_ _ | refine blk_drew ?_ | refine blk_alloc ?_ _)); refine blk_far ?_ NB346_352.out _; (with_reducible repeat (first | refine blk_drewN ?_ _ | refine blk_drew ?_ | refine blk_alloc ?_ _)); exact BK346.out) hg (Kd.R_ne HO_353001.out BK346.out (by decide))); have n2_ := am (blk_grown (g := gb347) (o := .cells #[.int .i64 0, .slice none 0 0, .slice none 0 0] 32 (0, 0)) (by (with_reducible repeat (first | refine blk_drewN ?_ _ | refine blk_drew ?_ | refine blk_alloc ?_ _)); refine blk_far ?_ NB347_352.out _; (with_reducible repeat (first | refine blk_drewN ?_ _ | refine blk_drew ?_ | refine blk_alloc ?_ _)); exact BK347.out) hg (Kd.R_ne HO_353001.out BK347.out (by decide))); have n3_ := am (blk_grown (g := gb352) (o := .cells #[.int .i64 0, u353001, .slice Ao36 t356.length co36] 32 (0, 0)) (by (with_reducible repeat (first | refine blk_drewN ?_ _ | refine blk_drew ?_ | refine blk_alloc ?_ _)); refine blk_put (cs := #[.int .i64 0, u353001, .slice Ao32 x353002_1.length co32]) ?_ 2 _ rfl; (with_reducible repeat (first | refine blk_drewN ?_ _ | refine blk_drew ?_ | refine blk_alloc ?_ _)); exact BK352.out) hg (Kd.R_ne HO_353001.out BK352.out (by decide))); have n4_ := am (Kd.S_over' (by (with_reducible repeat (first | apply Kd.S_alloc | apply Kd.S_drewN | apply Kd.S_drew)); exact (Kd.S_mono (Kd.S_far (p := ⟨gb352, 2, none⟩) (Kd.S_types HO358.out BK352.out (by decide)) (fun _ hk => hk.2) (.slice Ao36 t356.length co36)) (fun _ h_ => h_.1))) (Kd.R_typed (by (with_reducible repeat (first | apply Kd.R_alloc | apply Kd.R_drewN | apply Kd.R_drew)); exact (Kd.R_mono (Kd.R_far (p := ⟨gb352, 2, none⟩) (Kd.R_types HO_353001.out BK352.out (by decide)) (fun _ hk => hk.2) (.slice Ao36 t356.length co36)) (fun _ h_ => h_.1)))) (by decide) hg); have n5_ := am (hb); have n6_ := am (ho); revert n0_ n1_ n2_ n3_ n4_ n5_ n6_; clear HO_353002 BK346 BK347 BK352 HO358 HB HO_353001; intro HO_353002 BK346 BK347 BK352 HO358 HB HO361; clear ho hb hg hat; obtain ⟨Ao42, co42, eo42⟩ := Kd.R_slice HO361.out; subst eo42; obtain ⟨hcz43_0, hcz43_1, hcz43_2, hfz43_0, hfz43_1, hfz43_2⟩ := q_3 BK352.out))
         go_roundg k1
         case measure => have := HK1.out; omega
         case rel => exact ⟨(wrap64 (x7_1 + 1)), (y359), (t356), (.slice Ao42 y359.length co42), (.slice Ao36 t356.length co36), q_i, H', ⟨by have := HK1.out; omega⟩, ⟨by (with_reducible repeat (first | apply Kd.R_alloc | apply Kd.R_drewN | apply Kd.R_drew)); exact Kd.R_mono (Kd.R_far (p := ⟨gb352, 1, none⟩) (Kd.R_types HO361.out BK352.out (by decide)) (fun _ hk => hk.2) (.slice Ao42 y359.length co42)) (fun _ hk => trivial)⟩, ⟨by (with_reducible repeat (first | apply Kd.S_alloc | apply Kd.S_drewN | apply Kd.S_drew)); exact Kd.S_mono (Kd.S_far (p := ⟨gb352, 1, none⟩) (Kd.S_types HO358.out BK352.out (by decide)) (fun _ hk => hk.2) (.slice Ao42 y359.length co42)) (fun _ hk => trivial)⟩, ⟨by (with_reducible repeat (first | refine blk_drewN ?_ _ | refine blk_drew ?_ | refine blk_alloc ?_ _)); refine blk_far ?_ NB346_352.out _; (with_reducible repeat (first | refine blk_drewN ?_ _ | refine blk_drew ?_ | refine blk_alloc ?_ _)); exact BK346.out⟩, ⟨by (with_reducible repeat (first | refine blk_drewN ?_ _ | refine blk_drew ?_ | refine blk_alloc ?_ _)); refine blk_far ?_ NB347_352.out _; (with_reducible repeat (first | refine blk_drewN ?_ _ | refine blk_drew ?_ | refine blk_alloc ?_ _)); exact BK347.out⟩, ⟨by (with_reducible repeat (first | refine blk_drewN ?_ _ | refine blk_drew ?_ | refine blk_alloc ?_ _)); refine blk_put (cs := #[.int .i64 0, u353001, .slice Ao36 t356.length co36]) ?_ 1 _ rfl; (with_reducible repeat (first | refine blk_drewN ?_ _ | refine blk_drew ?_ | refine blk_alloc ?_ _)); exact BK352.out⟩, ⟨bq⟩⟩
        ·rw [if_neg c30] at H
         exact absurd H (by simp)
       ·rw [if_neg c28] at H
        have c28b0 : (t354 == 0) = false := beq_eq_false_iff_ne.mpr c28
        have c28b1 : (t354 != 0) = true := bne_iff_ne.mpr c28
        by_cases c44 : x353001_1.length < 17592186044416
        ·rw [if_pos c44] at H
         have LMc44 := am c44
         clear c44
         obtain ⟨y362, hy362⟩ : ∃ y_ : List Int, y_ = (x353001_1 ++ [2]) := ⟨_, rfl⟩
         replace H : (spec_SettleAll.l0 k1 l1 (wrap64 (x7_1 + 1)) 0 y362 x353002_1) = some (r1, r2, r3) := q_h hy362 H
         have Ny362 := am hy362
         clear hy362
         have H' := am H
         clear H
         try go_wp2
         have n0_ := am (Kd.R_drew HO_353001.out)
         have n1_ := am (Kd.S_drew HO_353002.out)
         have n2_ := am (blk_drew BK346.out)
         have n3_ := am (blk_drew BK347.out)
         have n4_ := am (blk_drew BK352.out)
         have n5_ := am (below_drew1 HB.out)
         clear HO_353001
         clear HO_353002
         clear BK346
         clear BK347
         clear BK352
         clear HB
         have HO_353001 := n0_
         have HO_353002 := n1_
         have BK346 := n2_
         have BK347 := n3_
         have BK352 := n4_
         have HB := n5_
         clear n0_ n1_ n2_ n3_ n4_ n5_
         have p353 : 0 ≤ (x7_1 : Int) := q_d
         have q353 : x7_1 < (l1.length : Int) := q_d
         obtain ⟨ad353, A353_1, c353_1, e353, hx353_0, hx353_1, hl353_1, hi353_1⟩ := at_T40 HR1.out x7_1 p353 q353
         have hw353_1 := hx353_1
         have hw353_0 := hx353_0
         cases e353
         replace hx353_0 := q_x HB.out hx353_0
         replace hx353_1 := q_x HB.out hx353_1
         have HR353_1 := am hi353_1
         have HC353_1 := am hl353_1
         clear hi353_1 hl353_1
         replace p353 := eq_true p353
         replace q353 := eq_true q353
         obtain ⟨Ao46, co46, eo46⟩ := Kd.S_slice HO_353002.out
         (first | subst eo46 | (injection eo46 with f1_ f2_ f3_; have f4_ := f1_.symm; have f5_ := f3_.symm; clear f1_ f2_ f3_; subst f4_; subst f5_))
         refine start_ (n := 8) (S := fun w' => w'.cell? ⟨gb352, 0, none⟩ = some (.int .i64 0) ∧ w'.cell? ⟨gb352, 1, none⟩ = some (u353001) ∧ w'.cell? ⟨gb352, 2, none⟩ = some (.slice Ao46 x353002_1.length co46) ∧ w'.cell? (ad353.add ((x7_1).toNat * 2)) = some (.int .i64 ((rd_T40 l1 x7_1).f0)) ∧ w'.cell? ⟨(ad353.add ((x7_1).toNat * 2)).block, (ad353.add ((x7_1).toNat * 2)).off + 1, none⟩ = some (.slice A353_1 ((rd_T40 l1 x7_1).f1).length c353_1)) (ds := []) #[false, false, false, false, false, false, false, false] (by kernel_rfl) rfl rfl ⟨q_z BK352.out 0, q_z BK352.out 1, q_z BK352.out 2, ((HB.out.cell (wb hw353_0)).trans hw353_0), ((HB.out.cell (wb hw353_1)).trans hw353_1)⟩ (fun hHeld => ?_); refine with_tabW spec_SettleAll.tab11 spec_SettleAll.bits11 (fun HT_ HW_ => ?_)
         generalize wr.drew = w45 at HO_353001 HO_353002 BK346 BK347 BK352 HB HR353_1 hx353_0 hx353_1 hHeld ⊢
         refine q_p 0 (some 29) #[true, false, false, false, false, false, false, false] HT_.out ?_
         refine q_p 2 (some 31) #[true, false, true, false, false, false, false, false] HT_.out ?_
         refine q_p 3 (some 32) #[true, false, true, true, false, false, false, false] HT_.out ?_
         refine q_p 4 (some 33) #[true, false, true, true, true, false, false, false] HT_.out ?_
         refine q_t 1 (some 30) #[true, true, true, true, true, false, false, false] HT_.out HW_.out hHeld ?_
         refine q_t 5 (some 34) #[true, true, true, true, true, true, false, false] HT_.out HW_.out hHeld ?_
         refine one_ (i := 6) (N := some 35) #[true, true, true, true, true, true, true, false] rfl rfl (one_of HT_.out (by kernel_rfl)) (by decide) (fun K hK => ?_)
         refine goes_ Try.func64 (by kernel_rfl) rfl #[.agg #[.slice Ao46 x353002_1.length co46], .agg #[.int .i64 ((rd_T40 l1 x7_1).f0), .slice A353_1 ((rd_T40 l1 x7_1).f1).length c353_1]] (by rfl) rfl rfl (by (try simp only [List.map_toArray, List.map_cons, List.map_nil]); first | done | rfl | (simp only [List.length_drop, List.length_take]; rfl)) ?_
         with_reducible refine (spec_l2Can.calls k1 _ _ x353002_1 ((rd_T40 l1 x7_1).f0) _ _ ((rd_T40 l1 x7_1).f1) t354 _ ?side1 ?side2 ?side3 ?side4 A27.out).mono ?_
         (case side1 => exact q_c ((Kd.S_reads' HO_353002.out).2.2))
         (case side2 => exact (Kd.S_reads' HO_353002.out).2.1)
         (case side3 => exact q_c ((Kd.C_below HR353_1.out HB.out)))
         (case side4 => exact HC353_1.out)
         rintro e w47 ⟨rfl, hb⟩
         refine ⟨_, rfl, ?_⟩
         have n0_ := am (Kd.R_below (q_r (HO_353001.out)) hb)
         have n1_ := am (Kd.S_below (q_s (HO_353002.out)) hb)
         have n2_ := am (blk_below (q_b BK346.out) hb)
         have n3_ := am (blk_below (q_b BK347.out) hb)
         have n4_ := am (blk_below (q_b BK352.out) hb)
         have n5_ := am (below_step bq hb)
         clear HO_353001
         clear HO_353002
         clear BK346
         clear BK347
         clear BK352
         clear HB
         have HO_353001 := n0_
         have HO_353002 := n1_
         have BK346 := n2_
         have BK347 := n3_
         have BK352 := n4_
         have HB := n5_
         clear n0_ n1_ n2_ n3_ n4_ n5_
         (try clear hb)
         (try clear hb2)
         (try clear hk)
         (try clear hi)
         refine hK.out _ _ ⟨q_z BK352.out 0, q_z BK352.out 1, q_z BK352.out 2, ((HB.out.cell (wb hw353_0)).trans hw353_0), ((HB.out.cell (wb hw353_1)).trans hw353_1)⟩ (fun hHeld => ?_)
         clear hK K
         refine norm_ (a' := ?_) ?_ ?_
         rotate_left
         ·show Act.put _ (some 35) _ = _
          simp only [Act.put, List.setIfInBounds_toArray, List.set_cons_zero, List.set_cons_succ, i64_w, i32_w]
          rfl
         refine q_p 7 (some 36) #[true, true, true, true, true, true, true, true] HT_.out ?_
         refine done_ (done_of HT_.out (by kernel_rfl)) ?_
         have hnb48 := NB352_346.out
         have hnc48 := NB346_352.out
         have hnb49 := NB352_347.out
         have hnc49 := NB347_352.out
         obtain ⟨hcz50_0, hcz50_1, hcz50_2, hfz50_0, hfz50_1, hfz50_2⟩ := q_3 BK352.out
         try go_wp2_with (first | ((with_reducible refine gate_builtin (b := .append) (xs := #[.tmp 46, .tmp 48]) rfl ?_); at_builtin; refine Kd.R_append (Kd.int .i64) (w0 := w) w.heap.size rfl (.tmp 46) (.tmp 48) 30 2 (.int .i64 0) 8 rfl Try.underlying30 info2 rfl (by decide) (by omega) u353001 x353001_1 2 [.int .i64 2] (fun _ => True) (fun _ => False) rfl rfl ?aP (fun _ hk => hk.elim) ?aF ?aO ?aB ?aS ?aL ?_; (case aP => exact rfl); (case aB => exact bq); (case aF => exact (fun _ _ => trivial)); (case aO => exact (q_r (HO_353001.out))); (case aS => exact (below_size bq)); (case aL => have := LMc44.out; omega); intro v363 w51 ho hb hg hat; rw [← Ny362.out] at ho; have n0_ := am (Kd.S_over' (q_s (HO_353002.out)) (Kd.R_typed (q_r (HO_353001.out))) (by decide) hg); have n1_ := am (blk_grown (q_b BK346.out) hg (Kd.R_ne HO_353001.out BK346.out (by decide))); have n2_ := am (blk_grown (q_b BK347.out) hg (Kd.R_ne HO_353001.out BK347.out (by decide))); have n3_ := am (blk_grown (q_b BK352.out) hg (Kd.R_ne HO_353001.out BK352.out (by decide))); have n4_ := am (hb); have n5_ := am (ho); revert n0_ n1_ n2_ n3_ n4_ n5_; clear HO_353002 BK346 BK347 BK352 HB HO_353001; intro HO_353002 BK346 BK347 BK352 HB HO364; clear ho hb hg hat; obtain ⟨Ao52, co52, eo52⟩ := Kd.R_slice HO364.out; subst eo52; obtain ⟨hcz53_0, hcz53_1, hcz53_2, hfz53_0, hfz53_1, hfz53_2⟩ := q_3 BK352.out))
         go_roundg k1
         case measure => have := HK1.out; omega
         case rel => exact ⟨(wrap64 (x7_1 + 1)), (y362), (x353002_1), (.slice Ao52 y362.length co52), (.slice Ao46 x353002_1.length co46), q_i, H', ⟨by have := HK1.out; omega⟩, ⟨by (with_reducible repeat (first | apply Kd.R_alloc | apply Kd.R_drewN | apply Kd.R_drew)); exact Kd.R_mono (Kd.R_far (p := ⟨gb352, 1, none⟩) (Kd.R_types HO364.out BK352.out (by decide)) (fun _ hk => hk.2) (.slice Ao52 y362.length co52)) (fun _ hk => trivial)⟩, ⟨by (with_reducible repeat (first | apply Kd.S_alloc | apply Kd.S_drewN | apply Kd.S_drew)); exact Kd.S_mono (Kd.S_far (p := ⟨gb352, 1, none⟩) (Kd.S_types HO_353002.out BK352.out (by decide)) (fun _ hk => hk.2) (.slice Ao52 y362.length co52)) (fun _ hk => trivial)⟩, ⟨by (with_reducible repeat (first | refine blk_drewN ?_ _ | refine blk_drew ?_ | refine blk_alloc ?_ _)); refine blk_far ?_ NB346_352.out _; (with_reducible repeat (first | refine blk_drewN ?_ _ | refine blk_drew ?_ | refine blk_alloc ?_ _)); exact BK346.out⟩, ⟨by (with_reducible repeat (first | refine blk_drewN ?_ _ | refine blk_drew ?_ | refine blk_alloc ?_ _)); refine blk_far ?_ NB347_352.out _; (with_reducible repeat (first | refine blk_drewN ?_ _ | refine blk_drew ?_ | refine blk_alloc ?_ _)); exact BK347.out⟩, ⟨by (with_reducible repeat (first | refine blk_drewN ?_ _ | refine blk_drew ?_ | refine blk_alloc ?_ _)); refine blk_put (cs := #[.int .i64 0, u353001, .slice Ao46 x353002_1.length co46]) ?_ 1 _ rfl; (with_reducible repeat (first | refine blk_drewN ?_ _ | refine blk_drew ?_ | refine blk_alloc ?_ _)); exact BK352.out⟩, ⟨bq⟩⟩
        ·rw [if_neg c44] at H
         exact absurd H (by simp)
      ·rw [if_neg c26] at H
       exact absurd H (by simp)
     ·rw [if_neg c25] at H
      have c25b0 := decide_eq_false c25
      clear c25
      simp only [Option.some.injEq, Prod.mk.injEq] at H
      obtain ⟨rfl, rfl, rfl⟩ := H
      have hnb54 := NB352_346.out
      have hnc54 := NB346_352.out
      have hnb55 := NB352_347.out
      have hnc55 := NB347_352.out
      obtain ⟨hcz56_0, hcz56_1, hcz56_2, hfz56_0, hfz56_1, hfz56_2⟩ := q_3 BK352.out
      have hnb57 := NB347_346.out
      have hnc57 := NB346_347.out
      obtain ⟨hcz58_0, hcz58_1, hcz58_2, hfz58_0, hfz58_1, hfz58_2⟩ := q_3 BK347.out
      obtain ⟨Ao59, co59, eo59⟩ := Kd.R_slice HO_353001.out
      subst eo59
      obtain ⟨Ao60, co60, eo60⟩ := Kd.S_slice HO_353002.out
      subst eo60
      go_wp2
      refine bodyPost_ret (results_cell_row rfl _ _ gb347 32 #[.int .i64 0, .slice Ao59 x353001_1.length co59, .slice Ao60 x353002_1.length co60] (0, 0) _ rfl (by (with_reducible repeat (first | refine blk_drewN ?_ _ | refine blk_drew ?_ | refine blk_alloc ?_ _)); refine blk_put (cs := #[.int .i64 0, .slice Ao59 x353001_1.length co59, .slice none 0 0]) ?_ 2 _ rfl; (with_reducible repeat (first | refine blk_drewN ?_ _ | refine blk_drew ?_ | refine blk_alloc ?_ _)); refine blk_put (cs := #[.int .i64 0, .slice none 0 0, .slice none 0 0]) ?_ 1 _ rfl; (with_reducible repeat (first | refine blk_drewN ?_ _ | refine blk_drew ?_ | refine blk_alloc ?_ _)); refine blk_put (cs := #[.int .i64 0, .slice none 0 0, .slice none 0 0]) ?_ 0 _ rfl; (with_reducible repeat (first | refine blk_drewN ?_ _ | refine blk_drew ?_ | refine blk_alloc ?_ _)); exact BK347.out) Try.underlying32 rfl (by kernel_rfl)) rfl ?_
      exact ⟨_, _, q_e, by (with_reducible repeat (first | apply Kd.R_alloc | apply Kd.R_drewN | apply Kd.R_drew)); exact Kd.R_mono (Kd.R_far (p := ⟨gb347, 2, none⟩) (Kd.R_far (p := ⟨gb347, 1, none⟩) (Kd.R_far (p := ⟨gb347, 0, none⟩) (Kd.R_types HO_353001.out BK347.out (by decide)) (fun _ hk => hk.2) (.int .i64 0)) (fun _ hk => hk.2) (.slice Ao59 x353001_1.length co59)) (fun _ hk => hk.2) (.slice Ao60 x353002_1.length co60)) (fun _ hk => trivial), by (with_reducible repeat (first | apply Kd.S_alloc | apply Kd.S_drewN | apply Kd.S_drew)); exact Kd.S_mono (Kd.S_far (p := ⟨gb347, 2, none⟩) (Kd.S_far (p := ⟨gb347, 1, none⟩) (Kd.S_far (p := ⟨gb347, 0, none⟩) (Kd.S_types HO_353002.out BK347.out (by decide)) (fun _ hk => hk.2) (.int .i64 0)) (fun _ hk => hk.2) (.slice Ao59 x353001_1.length co59)) (fun _ hk => hk.2) (.slice Ao60 x353002_1.length co60)) (fun _ hk => trivial), bq⟩
 ·rw [if_neg c4] at H
  have c4b0 : (t348 == 0) = false := beq_eq_false_iff_ne.mpr c4
  have c4b1 : (t348 != 0) = true := bne_iff_ne.mpr c4
  simp only [Option.some.injEq, Prod.mk.injEq] at H
  obtain ⟨rfl, rfl, rfl⟩ := H
  go_enter Try.func16, Try.ntmps16
  go_wp2_with (first | ((with_reducible refine gate_dst (N := 2) rfl ?_); refine q_box (N := 2) (cs := #[.slice A0_0 l0_0.length c0_0]) (t := 26) ?_; intro gb346 hg w61 hbox hb; have n0_ := am (below_step bq hb); have n1_ := am (hbox); have n2_ := am ((q_g hg bq : w.heap.size ≤ gb346)); have n3_ := n2_; revert n0_ n1_ n2_ n3_; clear HB; intro HB BK346 GW346 GE346; clear hb hbox hg) | ((with_reducible refine gate_dst (N := 4) rfl ?_); refine q_box (N := 4) (cs := #[.int .i64 0, .slice none 0 0, .slice none 0 0]) (t := 32) ?_; intro gb347 hg w62 hbox hb; have n0_ := am (blk_below (q_b BK346.out) hb); have n1_ := am (below_step bq hb); have n2_ := am (hbox); have n3_ := am ((q_g hg bq : w.heap.size ≤ gb347)); have n4_ := n3_; have n5_ := am ((q_n hg (q_b BK346.out) : gb346 ≠ gb347)); have n6_ := am n5_.out.symm; revert n0_ n1_ n2_ n3_ n4_ n5_ n6_; clear BK346 HB; intro BK346 HB BK347 GW347 GE347 NB346_347 NB347_346; clear hb hbox hg; have hnb63 := NB346_347.out; have hnc63 := NB347_346.out; obtain ⟨hcz64_0, hfz64_0⟩ := q_1 BK346.out) | ((with_reducible refine gate_callee (f := 46) rfl ?_); refine goesLq (some 10) rfl rfl Try.func46 (by kernel_rfl) rfl #[.agg #[.slice A0_0 l0_0.length c0_0]] rfl ?_; (with_reducible refine (spec_LedgerFault.calls k _ _ l0_0 t348 _ ?side1 ?side2 A3.out).mono ?_); (case side1 => exact q_c ((Kd.C_below HR0_0.out HB.out))); (case side2 => exact HC0_0.out); rintro e w65 ⟨rfl, hb⟩; refine ⟨_, rfl, ?_⟩; have n0_ := am (blk_below (q_b BK346.out) hb); have n1_ := am (blk_below (q_b BK347.out) hb); have n2_ := am (below_step bq hb); revert n0_ n1_ n2_; clear BK346 BK347 HB; intro BK346 BK347 HB; (try clear hb); (try clear hb2); (try clear hk); (try clear hi); obtain ⟨hcz66_0, hcz66_1, hcz66_2, hfz66_0, hfz66_1, hfz66_2⟩ := q_3 BK347.out))
  refine bodyPost_ret (results_cell_row rfl _ _ gb347 32 #[.int .i64 t348, .slice none 0 0, .slice none 0 0] (0, 0) _ rfl (by (with_reducible repeat (first | refine blk_drewN ?_ _ | refine blk_drew ?_ | refine blk_alloc ?_ _)); refine blk_put (cs := #[.int .i64 t348, .slice none 0 0, .slice none 0 0]) ?_ 2 _ rfl; (with_reducible repeat (first | refine blk_drewN ?_ _ | refine blk_drew ?_ | refine blk_alloc ?_ _)); refine blk_put (cs := #[.int .i64 t348, .slice none 0 0, .slice none 0 0]) ?_ 1 _ rfl; (with_reducible repeat (first | refine blk_drewN ?_ _ | refine blk_drew ?_ | refine blk_alloc ?_ _)); refine blk_put (cs := #[.int .i64 0, .slice none 0 0, .slice none 0 0]) ?_ 0 _ rfl; (with_reducible repeat (first | refine blk_drewN ?_ _ | refine blk_drew ?_ | refine blk_alloc ?_ _)); exact BK347.out) Try.underlying32 rfl (by kernel_rfl)) rfl ?_
  exact ⟨_, _, q_e, by first | exact Kd.R_nil _ _ _ _ _ | exact Kd.N_nil _ _ _ _ _ | exact Kd.V_nil _ _ _ _ _ | exact Kd.Q_nil _ _ _ _ _ | exact Kd.S_nil _ _ _ _ _, by first | exact Kd.S_nil _ _ _ _ _ | exact Kd.N_nil _ _ _ _ _ | exact Kd.V_nil _ _ _ _ _ | exact Kd.Q_nil _ _ _ _ _ | exact Kd.R_nil _ _ _ _ _, bq⟩

/-! ### laws_szBalanceS: function 33 -/
def laws_szBalanceS.f (l0 : List (S115)) (a1 : Int) : Option (Int) := if (wrap64 (a1 - (l0.length : Int))) < 0 then (some (-1)) else (some (wrap64 (a1 - (l0.length : Int))))
theorem laws_szBalanceS.calls (A0 : Option Addr) (c0 : Nat) (l0 : List (S115)) (a1 : Int) (r : Int) (w : World) (hr0 : Kd.C k115 w A0 l0.length l0) (hc0 : l0.length ≤ c0) (h : laws_szBalanceS.f l0 a1 = some r) :
  Calls Try.prog 33 #[.slice A0 l0.length c0, .int .i64 a1] w fun e w' => e = .returned (.int .i64 r) ∧ Drawn0 w w' := by
 have HR0 := am hr0
 have HC0 := am hc0
 clear hr0 hc0
 have H : (if (wrap64 (a1 - (l0.length : Int))) < 0 then (some (-1)) else (some (wrap64 (a1 - (l0.length : Int))))) = some r := h
 clear h
 by_cases c3 : (wrap64 (a1 - (l0.length : Int))) < 0
 ·rw [if_pos c3] at H
  have c3b0 := decide_eq_true c3
  clear c3
  obtain rfl := Option.some.inj H
  go_enter Try.func33, Try.ntmps33
  go_wp2
  go_ret
  exact ⟨by first | rfl | (simp; done) | (simp [*]; done), q_0⟩
 ·rw [if_neg c3] at H
  have c3b0 := decide_eq_false c3
  clear c3
  obtain rfl := Option.some.inj H
  go_enter Try.func33, Try.ntmps33
  go_wp2
  go_ret
  exact ⟨by first | rfl | (simp; done) | (simp [*]; done), q_0⟩

/-! ### laws_szBalanceSS: function 71 -/
def laws_szBalanceSS.l0 : Nat → List (List (S115)) → Int → Int → Option (Int)
  | 0, _, _, _ => none
  | k + 1, x0, x1, x5 => if x5 < (x0.length : Int) then (if 0 ≤ x5 then ((laws_szBalanceS.f (rd_L7 x0 x5) x1).bind fun t366 => (if t366 < 0 then (some (-1)) else (laws_szBalanceSS.l0 k x0 t366 (wrap64 (x5 + 1))))) else (none)) else (some x1)
def laws_szBalanceSS.f (k : Nat) (l0 : List (List (S115))) (a1 : Int) : Option (Int) := if (wrap64 (a1 - (l0.length : Int))) < 0 then (some (-1)) else (laws_szBalanceSS.l0 k l0 (wrap64 (a1 - (l0.length : Int))) 0)
theorem laws_szBalanceSS.calls (k : Nat) (A0 : Option Addr) (c0 : Nat) (l0 : List (List (S115))) (a1 : Int) (r : Int) (w : World) (hr0 : Kd.C (Kd.slice 115 k115) w A0 l0.length l0) (hc0 : l0.length ≤ c0) (h : laws_szBalanceSS.f k l0 a1 = some r) :
  Calls Try.prog 71 #[.slice A0 l0.length c0, .int .i64 a1] w fun e w' => e = .returned (.int .i64 r) ∧ Drawn0 w w' := by
 have HR0 := am hr0
 have HC0 := am hc0
 clear hr0 hc0
 have H : (if (wrap64 (a1 - (l0.length : Int))) < 0 then (some (-1)) else (laws_szBalanceSS.l0 k l0 (wrap64 (a1 - (l0.length : Int))) 0)) = some r := h
 clear h
 by_cases c3 : (wrap64 (a1 - (l0.length : Int))) < 0
 ·rw [if_pos c3] at H
  have c3b0 := decide_eq_true c3
  clear c3
  obtain rfl := Option.some.inj H
  go_enter Try.func71, Try.ntmps71
  go_wp2
  go_ret
  exact ⟨by first | rfl | (simp; done) | (simp [*]; done), q_0⟩
 ·rw [if_neg c3] at H
  have c3b0 := decide_eq_false c3
  clear c3
  have H' := am H
  clear H
  go_enter Try.func71, Try.ntmps71
  go_wp2
  go_loopg [1, 5] k (fun kq v1 v5 w' => ∃ (x1_1 : Int) (x5_1 : Int), v1 = .int .i64 x1_1 ∧ v5 = .int .i64 x5_1 ∧ Aside0 (laws_szBalanceSS.l0 kq l0 x1_1 x5_1 = some r) ∧ Aside0 (kq ≤ k) ∧ Drawn0 w w')
  case atStart => exact ⟨(wrap64 (a1 - (l0.length : Int))), (0), q_i, q_i, H', ⟨Nat.le_refl _⟩, q_0⟩
  case round =>
   clear H'
   (try clear p2); (try clear c3); (try clear c3b0)
   obtain ⟨x1_1, x5_1, rfl, rfl, HA, HK1, ⟨m1, rfl⟩⟩ := hrel
   cases gk with
   | zero => exact absurd HA.out (by simp [laws_szBalanceSS.l0])
   | succ k1 =>
    have H := HA.out
    clear HA
    simp only [laws_szBalanceSS.l0] at H
    by_cases c4 : x5_1 < (l0.length : Int)
    ·rw [if_pos c4] at H
     have c4b0 := decide_eq_true c4
     clear c4
     by_cases c5 : 0 ≤ x5_1
     ·rw [if_pos c5] at H
      have c5b0 := decide_eq_true c5
      clear c5
      replace H := ob H
      obtain ⟨t366, A60, H⟩ := H
      replace H : (if t366 < 0 then (some (-1)) else (laws_szBalanceSS.l0 k1 l0 t366 (wrap64 (x5_1 + 1)))) = some r := H
      have A6 := am A60
      clear A60
      by_cases c7 : t366 < 0
      ·rw [if_pos c7] at H
       have c7b0 := decide_eq_true c7
       clear c7
       obtain rfl := Option.some.inj H
       have p365 : 0 ≤ (x5_1 : Int) := q_d
       have q365 : x5_1 < (l0.length : Int) := q_d
       obtain ⟨ad365, A365_0, c365_0, e365, hx365_0, hl365_0, hi365_0⟩ := at_L7 HR0.out x5_1 p365 q365
       cases e365
       have HR365_0 := am hi365_0
       have HC365_0 := am hl365_0
       clear hi365_0 hl365_0
       replace p365 := eq_true p365
       replace q365 := eq_true q365
       go_wp2_with (first | ((with_reducible refine gate_callee (f := 33) rfl ?_); refine goesLq (some 23) rfl rfl Try.func33 (by kernel_rfl) rfl #[.slice A365_0 (rd_L7 l0 x5_1).length c365_0, .int .i64 x1_1] rfl ?_; (with_reducible refine (laws_szBalanceS.calls _ _ (rd_L7 l0 x5_1) x1_1 t366 _ ?side1 ?side2 A6.out).mono ?_); (case side1 => exact q_c (HR365_0.out)); (case side2 => exact HC365_0.out); rintro e w' ⟨rfl, ⟨nd, rfl⟩⟩; refine ⟨_, rfl, ?_⟩))
       go_ret
       exact ⟨by first | rfl | (simp; done) | (simp [*]; done), q_0⟩
      ·rw [if_neg c7] at H
       have c7b0 := decide_eq_false c7
       clear c7
       have H' := am H
       clear H
       have p365 : 0 ≤ (x5_1 : Int) := q_d
       have q365 : x5_1 < (l0.length : Int) := q_d
       obtain ⟨ad365, A365_0, c365_0, e365, hx365_0, hl365_0, hi365_0⟩ := at_L7 HR0.out x5_1 p365 q365
       cases e365
       have HR365_0 := am hi365_0
       have HC365_0 := am hl365_0
       clear hi365_0 hl365_0
       replace p365 := eq_true p365
       replace q365 := eq_true q365
       go_wp2_with (first | ((with_reducible refine gate_callee (f := 33) rfl ?_); refine goesLq (some 23) rfl rfl Try.func33 (by kernel_rfl) rfl #[.slice A365_0 (rd_L7 l0 x5_1).length c365_0, .int .i64 x1_1] rfl ?_; (with_reducible refine (laws_szBalanceS.calls _ _ (rd_L7 l0 x5_1) x1_1 t366 _ ?side1 ?side2 A6.out).mono ?_); (case side1 => exact q_c (HR365_0.out)); (case side2 => exact HC365_0.out); rintro e w' ⟨rfl, ⟨nd, rfl⟩⟩; refine ⟨_, rfl, ?_⟩))
       go_roundg k1
       case measure => have := HK1.out; omega
       case rel => exact ⟨(t366), (wrap64 (x5_1 + 1)), q_i, q_i, H', ⟨by have := HK1.out; omega⟩, q_0⟩
     ·rw [if_neg c5] at H
      exact absurd H (by simp)
    ·rw [if_neg c4] at H
     have c4b0 := decide_eq_false c4
     clear c4
     obtain rfl := Option.some.inj H
     go_wp2
     go_ret
     exact ⟨by first | rfl | (simp; done) | (simp [*]; done), q_0⟩

/-! ### laws_szLedger: function 21 -/
def laws_szLedger.f (k : Nat) (l0_0 : List (List (S115))) (a1 : Int) : Option (Int) := (laws_szBalanceSS.f k l0_0 a1).bind fun t368 => (if t368 < 0 then (some (-1)) else (some t368))
theorem laws_szLedger.calls (k : Nat) (A0_0 : Option Addr) (c0_0 : Nat) (l0_0 : List (List (S115))) (a1 : Int) (r : Int) (w : World) (hr0_0 : Kd.C (Kd.slice 115 k115) w A0_0 l0_0.length l0_0) (hc0_0 : l0_0.length ≤ c0_0) (h : laws_szLedger.f k l0_0 a1 = some r) :
  Calls Try.prog 21 #[.agg #[.slice A0_0 l0_0.length c0_0], .int .i64 a1] w fun e w' => e = .returned (.int .i64 r) ∧ Below w.heap.size w w' := by
 have hu47 := Try.underlying47
 have HR0_0 := am hr0_0
 have HC0_0 := am hc0_0
 clear hr0_0 hc0_0
 have HB := am (Below.refl w.heap.size w)
 have H : ((laws_szBalanceSS.f k l0_0 a1).bind fun t368 => (if t368 < 0 then (some (-1)) else (some t368))) = some r := h
 clear h
 replace H := ob H
 obtain ⟨t368, A30, H⟩ := H
 replace H : (if t368 < 0 then (some (-1)) else (some t368)) = some r := H
 have A3 := am A30
 clear A30
 by_cases c4 : t368 < 0
 ·rw [if_pos c4] at H
  have c4b0 := decide_eq_true c4
  clear c4
  obtain rfl := Option.some.inj H
  go_enter Try.func21, Try.ntmps21
  go_wp2_with (first | ((with_reducible refine gate_dst (N := 2) rfl ?_); refine q_box (N := 2) (cs := #[.slice A0_0 l0_0.length c0_0]) (t := 47) ?_; intro gb367 hg w5 hbox hb; have n0_ := am (below_step bq hb); have n1_ := am (hbox); have n2_ := am ((q_g hg bq : w.heap.size ≤ gb367)); have n3_ := n2_; revert n0_ n1_ n2_ n3_; clear HB; intro HB BK367 GW367 GE367; clear hb hbox hg; obtain ⟨hcz6_0, hfz6_0⟩ := q_1 BK367.out) | ((with_reducible refine gate_callee (f := 71) rfl ?_); refine goesLq (some 8) rfl rfl Try.func71 (by kernel_rfl) rfl #[.slice A0_0 l0_0.length c0_0, .int .i64 a1] rfl ?_; (with_reducible refine (laws_szBalanceSS.calls k _ _ l0_0 a1 t368 _ ?side1 ?side2 A3.out).mono ?_); (case side1 => exact q_c ((Kd.C_below HR0_0.out HB.out))); (case side2 => exact HC0_0.out); rintro e w' ⟨rfl, ⟨nd, rfl⟩⟩; refine ⟨_, rfl, ?_⟩))
  go_ret
  exact ⟨q_e, bq⟩
 ·rw [if_neg c4] at H
  have c4b0 := decide_eq_false c4
  clear c4
  obtain rfl := Option.some.inj H
  go_enter Try.func21, Try.ntmps21
  go_wp2_with (first | ((with_reducible refine gate_dst (N := 2) rfl ?_); refine q_box (N := 2) (cs := #[.slice A0_0 l0_0.length c0_0]) (t := 47) ?_; intro gb367 hg w7 hbox hb; have n0_ := am (below_step bq hb); have n1_ := am (hbox); have n2_ := am ((q_g hg bq : w.heap.size ≤ gb367)); have n3_ := n2_; revert n0_ n1_ n2_ n3_; clear HB; intro HB BK367 GW367 GE367; clear hb hbox hg; obtain ⟨hcz8_0, hfz8_0⟩ := q_1 BK367.out) | ((with_reducible refine gate_callee (f := 71) rfl ?_); refine goesLq (some 8) rfl rfl Try.func71 (by kernel_rfl) rfl #[.slice A0_0 l0_0.length c0_0, .int .i64 a1] rfl ?_; (with_reducible refine (laws_szBalanceSS.calls k _ _ l0_0 a1 t368 _ ?side1 ?side2 A3.out).mono ?_); (case side1 => exact q_c ((Kd.C_below HR0_0.out HB.out))); (case side2 => exact HC0_0.out); rintro e w' ⟨rfl, ⟨nd, rfl⟩⟩; refine ⟨_, rfl, ?_⟩))
  go_ret
  exact ⟨q_e, bq⟩

/-! ### laws_toBalance: function 82 -/
def laws_toBalance.f (a0_0 : Int) (a0_1 : Int) (a0_2 : Int) : Option (Int × Int × Int) := some (a0_0, a0_1, a0_2)
theorem laws_toBalance.calls (a0_0 : Int) (a0_1 : Int) (a0_2 : Int) (r1 : Int) (r2 : Int) (r3 : Int) (w : World) (h : laws_toBalance.f a0_0 a0_1 a0_2 = some (r1, r2, r3)) :
  Calls Try.prog 82 #[.agg #[.int .i64 a0_0, .int .i64 a0_1, .int .i64 a0_2]] w fun e w' => e = .returned (.agg #[.int .i64 r1, .int .i64 r2, .int .i64 r3]) ∧ Below w.heap.size w w' := by
 have hu115 := Try.underlying115
 have hu104 := Try.underlying104
 have HB := am (Below.refl w.heap.size w)
 have H : (some (a0_0, a0_1, a0_2)) = some (r1, r2, r3) := h
 clear h
 simp only [Option.some.injEq, Prod.mk.injEq] at H
 obtain ⟨rfl, rfl, rfl⟩ := H
 go_enter Try.func82, Try.ntmps82
 go_wp2_with (first | ((with_reducible refine gate_dst (N := 1) rfl ?_); refine q_box (N := 1) (cs := #[.int .i64 a0_0, .int .i64 a0_1, .int .i64 a0_2]) (t := 115) ?_; intro gb369 hg w2 hbox hb; have n0_ := am (below_step bq hb); have n1_ := am (hbox); have n2_ := am ((q_g hg bq : w.heap.size ≤ gb369)); have n3_ := n2_; revert n0_ n1_ n2_ n3_; clear HB; intro HB BK369 GW369 GE369; clear hb hbox hg) | ((with_reducible refine gate_dst (N := 2) rfl ?_); refine q_box (N := 2) (cs := #[.int .i64 0, .int .i64 0, .int .i64 0]) (t := 104) ?_; intro gb370 hg w3 hbox hb; have n0_ := am (blk_below (q_b BK369.out) hb); have n1_ := am (below_step bq hb); have n2_ := am (hbox); have n3_ := am ((q_g hg bq : w.heap.size ≤ gb370)); have n4_ := n3_; have n5_ := am ((q_n hg (q_b BK369.out) : gb369 ≠ gb370)); have n6_ := am n5_.out.symm; revert n0_ n1_ n2_ n3_ n4_ n5_ n6_; clear BK369 HB; intro BK369 HB BK370 GW370 GE370 NB369_370 NB370_369; clear hb hbox hg) | ((with_reducible refine gate_dst (N := 3) rfl ?_); refine q_box (N := 3) (cs := #[.int .i64 0, .int .i64 0, .int .i64 0]) (t := 104) ?_; intro gb371 hg w4 hbox hb; have n0_ := am (blk_below (q_b BK369.out) hb); have n1_ := am (blk_below (q_b BK370.out) hb); have n2_ := am (below_step bq hb); have n3_ := am (hbox); have n4_ := am ((q_g hg bq : w.heap.size ≤ gb371)); have n5_ := n4_; have n6_ := am ((q_n hg (q_b BK369.out) : gb369 ≠ gb371)); have n7_ := am n6_.out.symm; have n8_ := am ((q_n hg (q_b BK370.out) : gb370 ≠ gb371)); have n9_ := am n8_.out.symm; revert n0_ n1_ n2_ n3_ n4_ n5_ n6_ n7_ n8_ n9_; clear BK369 BK370 HB; intro BK369 BK370 HB BK371 GW371 GE371 NB369_371 NB371_369 NB370_371 NB371_370; clear hb hbox hg; have hnb5 := NB369_370.out; have hnc5 := NB370_369.out; have hnb6 := NB369_371.out; have hnc6 := NB371_369.out; obtain ⟨hcz7_0, hcz7_1, hcz7_2, hfz7_0, hfz7_1, hfz7_2⟩ := q_3 BK369.out; have hnb8 := NB371_370.out; have hnc8 := NB370_371.out; obtain ⟨hcz9_0, hcz9_1, hcz9_2, hfz9_0, hfz9_1, hfz9_2⟩ := q_3 BK371.out; obtain ⟨hcz10_0, hcz10_1, hcz10_2, hfz10_0, hfz10_1, hfz10_2⟩ := q_3 BK370.out))
 refine bodyPost_ret (results_cell_row rfl _ _ gb370 104 #[.int .i64 a0_0, .int .i64 a0_1, .int .i64 a0_2] (0, 0) _ rfl (by (with_reducible repeat (first | refine blk_drewN ?_ _ | refine blk_drew ?_ | refine blk_alloc ?_ _)); refine blk_put (cs := #[.int .i64 a0_0, .int .i64 a0_1, .int .i64 0]) ?_ 2 _ rfl; (with_reducible repeat (first | refine blk_drewN ?_ _ | refine blk_drew ?_ | refine blk_alloc ?_ _)); refine blk_put (cs := #[.int .i64 a0_0, .int .i64 0, .int .i64 0]) ?_ 1 _ rfl; (with_reducible repeat (first | refine blk_drewN ?_ _ | refine blk_drew ?_ | refine blk_alloc ?_ _)); refine blk_put (cs := #[.int .i64 0, .int .i64 0, .int .i64 0]) ?_ 0 _ rfl; (with_reducible repeat (first | refine blk_drewN ?_ _ | refine blk_drew ?_ | refine blk_alloc ?_ _)); refine blk_far ?_ NB370_371.out _; (with_reducible repeat (first | refine blk_drewN ?_ _ | refine blk_drew ?_ | refine blk_alloc ?_ _)); refine blk_far ?_ NB370_371.out _; (with_reducible repeat (first | refine blk_drewN ?_ _ | refine blk_drew ?_ | refine blk_alloc ?_ _)); refine blk_far ?_ NB370_371.out _; (with_reducible repeat (first | refine blk_drewN ?_ _ | refine blk_drew ?_ | refine blk_alloc ?_ _)); exact BK370.out) Try.underlying104 rfl (by kernel_rfl)) rfl ?_
 exact ⟨q_e, bq⟩

end Go.Proofs.Ytanegggacfmkcaa.PFnExactSettleAll
