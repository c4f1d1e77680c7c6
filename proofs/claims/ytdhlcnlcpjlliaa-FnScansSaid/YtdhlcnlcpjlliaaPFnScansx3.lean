/- The functions that a law reaches, each as a plain Lean function with the proof that the machine comes to its answer: written by program (the kit's print, turned by wip/gen). No conditions. -/
import Derived.Test.YtdhlcnlcpjlliaaPFnScansx0
import Derived.Test.YtdhlcnlcpjlliaaPFnScansx2
namespace Go.Proofs.Ytdhlcnlcpjlliaa.PFnScans
open Go.RowKit Go.Proofs.YtdhlcnlcpjlliaaW.PrintWords Go.Proofs.YtdhlcnlcpjlliaaW.PrintLast Go.Proofs.YtdhlcnlcpjlliaaW.PrintMore
attribute [local go_sem] max2_int min2_int max_two min_two max_three min_three max_four min_four   -- for this text's walks alone
set_option linter.unusedVariables false
set_option linter.unusedSimpArgs false

/-! ### impl_GetRow: function 26 -/
def impl_GetRow.f (k : Nat) (l0 : List (S49)) (a1 : ByteArray) (a2 : Int) : Option (Int × ByteArray) := (impl_TableFault.f k l0).bind fun t129 => (if t129 = 0 then ((impl_rowOf.f k l0 a1 a2).bind fun bt130 => (if bt130.2.2.2.2 = true then (if bt130.2.2.2.1 = true then (some (4, (⟨#[]⟩ : ByteArray))) else (some (0, bt130.2.2.1))) else (some (4, (⟨#[]⟩ : ByteArray))))) else (some (t129, (⟨#[]⟩ : ByteArray))))
set_option maxHeartbeats 8000000 in
set_option maxRecDepth 100000 in
theorem impl_GetRow.calls (k : Nat) (A0 : Option Addr) (c0 : Nat) (l0 : List (S49)) (a1 : ByteArray) (a2 : Int) (r1 : Int) (r2 : ByteArray) (w : World) (hr0 : Kd.C k49 w A0 l0.length l0) (hc0 : l0.length ≤ c0) (h : impl_GetRow.f k l0 a1 a2 = some (r1, r2)) :
  Calls Try.prog 26 #[.slice A0 l0.length c0, .string a1, .int .i64 a2] w fun e w' => e = .returned (.agg #[.int .i64 r1, .string r2]) ∧ Below w.heap.size w w' := by
 have hu37 := Try.underlying37
 have hu49 := Try.underlying49
 have HR0 := Aside0.mk hr0
 have HC0 := Aside0.mk hc0
 clear hr0 hc0
 have HB := Aside0.mk (Below.refl w.heap.size w)
 have H : ((impl_TableFault.f k l0).bind fun t129 => (if t129 = 0 then ((impl_rowOf.f k l0 a1 a2).bind fun bt130 => (if bt130.2.2.2.2 = true then (if bt130.2.2.2.1 = true then (some (4, (⟨#[]⟩ : ByteArray))) else (some (0, bt130.2.2.1))) else (some (4, (⟨#[]⟩ : ByteArray))))) else (some (t129, (⟨#[]⟩ : ByteArray))))) = some (r1, r2) := h
 clear h
 replace H := Option.bind_eq_some_iff.mp H
 obtain ⟨t129, A40, H⟩ := H
 replace H : (if t129 = 0 then ((impl_rowOf.f k l0 a1 a2).bind fun bt130 => (if bt130.2.2.2.2 = true then (if bt130.2.2.2.1 = true then (some (4, (⟨#[]⟩ : ByteArray))) else (some (0, bt130.2.2.1))) else (some (4, (⟨#[]⟩ : ByteArray))))) else (some (t129, (⟨#[]⟩ : ByteArray)))) = some (r1, r2) := H
 have A4 := Aside0.mk A40
 clear A40
 by_cases c5 : t129 = 0
 ·rw [if_pos c5] at H
  have c5b0 : (t129 == 0) = true := beq_iff_eq.mpr c5
  have c5b1 : (t129 != 0) = false := bne_eq_false_iff_eq.mpr c5
  clear c5
  replace H := Option.bind_eq_some_iff.mp H
  obtain ⟨⟨t130, t131, t132, t133, t134⟩, A60, H⟩ := H
  replace H : (if t134 = true then (if t133 = true then (some (4, (⟨#[]⟩ : ByteArray))) else (some (0, t132))) else (some (4, (⟨#[]⟩ : ByteArray)))) = some (r1, r2) := H
  have A6 := Aside0.mk A60
  clear A60
  by_cases c7 : t134 = true
  ·subst c7
   have H1 : (if t133 = true then (some (4, (⟨#[]⟩ : ByteArray))) else (some (0, t132))) = some (r1, r2) := by rw [if_pos rfl] at H; exact H
   clear H
   have H := H1
   clear H1
   by_cases c8 : t133 = true
   ·subst c8
    have H1 : (some (4, (⟨#[]⟩ : ByteArray))) = some (r1, r2) := by rw [if_pos rfl] at H; exact H
    clear H
    have H := H1
    clear H1
    simp only [Option.some.injEq, Prod.mk.injEq] at H
    obtain ⟨rfl, rfl⟩ := H
    go_enter Try.func26, Try.ntmps26
    go_wp2_with (first | ((with_reducible refine gate_dst (N := 6) rfl ?_); refine q_box (N := 6) (cs := #[.int .i64 0, .string (⟨#[]⟩ : ByteArray)]) (t := 37) ?_; intro gb128 hg w9 hbox hb; have n0_ := Aside0.mk (below_step bq hb); have n1_ := Aside0.mk (hbox); have n2_ := Aside0.mk ((q_g hg bq : w.heap.size ≤ gb128)); have n3_ := Aside0.mk ((q_g hg bq : w.heap.size ≤ gb128)); revert n0_ n1_ n2_ n3_; clear HB; intro HB BK128 GW128 GE128; clear hb hbox hg) | ((with_reducible refine gate_callee (f := 18) rfl ?_); refine goesLq (some 11) rfl rfl Try.func18 (by kernel_rfl) rfl #[.slice A0 l0.length c0] rfl ?_; (with_reducible refine (impl_TableFault.calls k _ _ l0 t129 _ ?side1 ?side2 A4.out).mono ?_); (case side1 => exact q_c ((Kd.C_below HR0.out HB.out))); (case side2 => exact HC0.out); rintro e w10 ⟨rfl, hb⟩; refine ⟨_, rfl, ?_⟩; have n0_ := Aside0.mk (blk_below (q_b BK128.out) hb); have n1_ := Aside0.mk (below_step bq hb); revert n0_ n1_; clear BK128 HB; intro BK128 HB; (try clear hb); (try clear hb2); (try clear hk); (try clear hi)) | ((with_reducible refine gate_callee (f := 80) rfl ?_); refine goesLq (some 20) rfl rfl Try.func80 (by kernel_rfl) rfl #[.slice A0 l0.length c0, .string a1, .int .i64 a2] rfl ?_; (with_reducible refine (impl_rowOf.calls k _ _ l0 a1 a2 t130 t131 t132 true true _ ?side1 ?side2 A6.out).mono ?_); (case side1 => exact q_c ((Kd.C_below HR0.out HB.out))); (case side2 => exact HC0.out); rintro e w11 ⟨rfl, hb⟩; refine ⟨_, rfl, ?_⟩; have n0_ := Aside0.mk (blk_below (q_b BK128.out) hb); have n1_ := Aside0.mk (below_step bq hb); revert n0_ n1_; clear BK128 HB; intro BK128 HB; (try clear hb); (try clear hb2); (try clear hk); (try clear hi)) | ((with_reducible refine gate_dst (N := 8) rfl ?_); refine q_box (N := 8) (cs := #[.string (⟨#[]⟩ : ByteArray), .int .i64 0, .string (⟨#[]⟩ : ByteArray), .bool false]) (t := 49) ?_; intro gb135 hg w12 hbox hb; have n0_ := Aside0.mk (blk_below (q_b BK128.out) hb); have n1_ := Aside0.mk (below_step bq hb); have n2_ := Aside0.mk (hbox); have n3_ := Aside0.mk ((q_g hg bq : w.heap.size ≤ gb135)); have n4_ := Aside0.mk ((q_g hg bq : w.heap.size ≤ gb135)); have n5_ := Aside0.mk ((q_n hg (q_b BK128.out) : gb128 ≠ gb135)); have n6_ := Aside0.mk ((q_m hg (q_b BK128.out) : gb135 ≠ gb128)); revert n0_ n1_ n2_ n3_ n4_ n5_ n6_; clear BK128 HB; intro BK128 HB BK135 GW135 GE135 NB128_135 NB135_128; clear hb hbox hg; have hnb13 := NB135_128.out; have hnc13 := NB128_135.out; obtain ⟨hcz14_0, hcz14_1, hcz14_2, hcz14_3, hfz14_0, hfz14_1, hfz14_2, hfz14_3⟩ := q_4 BK135.out; obtain ⟨hcz15_0, hcz15_1, hfz15_0, hfz15_1⟩ := q_2 BK128.out))
    refine bodyPost_ret (results_cell_row rfl _ _ gb128 37 #[.int .i64 4, .string (⟨#[]⟩ : ByteArray)] (0, 0) _ rfl (by (with_reducible repeat (first | refine blk_drewN ?_ _ | refine blk_drew ?_ | refine blk_alloc ?_ _)); refine blk_put (cs := #[.int .i64 4, .string (⟨#[]⟩ : ByteArray)]) ?_ 1 _ rfl; (with_reducible repeat (first | refine blk_drewN ?_ _ | refine blk_drew ?_ | refine blk_alloc ?_ _)); refine blk_put (cs := #[.int .i64 0, .string (⟨#[]⟩ : ByteArray)]) ?_ 0 _ rfl; (with_reducible repeat (first | refine blk_drewN ?_ _ | refine blk_drew ?_ | refine blk_alloc ?_ _)); refine blk_far ?_ NB128_135.out _; (with_reducible repeat (first | refine blk_drewN ?_ _ | refine blk_drew ?_ | refine blk_alloc ?_ _)); refine blk_far ?_ NB128_135.out _; (with_reducible repeat (first | refine blk_drewN ?_ _ | refine blk_drew ?_ | refine blk_alloc ?_ _)); refine blk_far ?_ NB128_135.out _; (with_reducible repeat (first | refine blk_drewN ?_ _ | refine blk_drew ?_ | refine blk_alloc ?_ _)); refine blk_far ?_ NB128_135.out _; (with_reducible repeat (first | refine blk_drewN ?_ _ | refine blk_drew ?_ | refine blk_alloc ?_ _)); exact BK128.out) Try.underlying37 rfl (by kernel_rfl)) rfl ?_
    exact ⟨q_e, bq⟩
   ·replace c8 := Bool.eq_false_iff.mpr c8
    subst c8
    have H1 : (some (0, t132)) = some (r1, r2) := by rw [if_neg (show ¬ (false = true) by decide)] at H; exact H
    clear H
    have H := H1
    clear H1
    simp only [Option.some.injEq, Prod.mk.injEq] at H
    obtain ⟨rfl, rfl⟩ := H
    go_enter Try.func26, Try.ntmps26
    go_wp2_with (first | ((with_reducible refine gate_dst (N := 6) rfl ?_); refine q_box (N := 6) (cs := #[.int .i64 0, .string (⟨#[]⟩ : ByteArray)]) (t := 37) ?_; intro gb128 hg w16 hbox hb; have n0_ := Aside0.mk (below_step bq hb); have n1_ := Aside0.mk (hbox); have n2_ := Aside0.mk ((q_g hg bq : w.heap.size ≤ gb128)); have n3_ := Aside0.mk ((q_g hg bq : w.heap.size ≤ gb128)); revert n0_ n1_ n2_ n3_; clear HB; intro HB BK128 GW128 GE128; clear hb hbox hg) | ((with_reducible refine gate_callee (f := 18) rfl ?_); refine goesLq (some 11) rfl rfl Try.func18 (by kernel_rfl) rfl #[.slice A0 l0.length c0] rfl ?_; (with_reducible refine (impl_TableFault.calls k _ _ l0 t129 _ ?side1 ?side2 A4.out).mono ?_); (case side1 => exact q_c ((Kd.C_below HR0.out HB.out))); (case side2 => exact HC0.out); rintro e w17 ⟨rfl, hb⟩; refine ⟨_, rfl, ?_⟩; have n0_ := Aside0.mk (blk_below (q_b BK128.out) hb); have n1_ := Aside0.mk (below_step bq hb); revert n0_ n1_; clear BK128 HB; intro BK128 HB; (try clear hb); (try clear hb2); (try clear hk); (try clear hi)) | ((with_reducible refine gate_callee (f := 80) rfl ?_); refine goesLq (some 20) rfl rfl Try.func80 (by kernel_rfl) rfl #[.slice A0 l0.length c0, .string a1, .int .i64 a2] rfl ?_; (with_reducible refine (impl_rowOf.calls k _ _ l0 a1 a2 t130 t131 t132 false true _ ?side1 ?side2 A6.out).mono ?_); (case side1 => exact q_c ((Kd.C_below HR0.out HB.out))); (case side2 => exact HC0.out); rintro e w18 ⟨rfl, hb⟩; refine ⟨_, rfl, ?_⟩; have n0_ := Aside0.mk (blk_below (q_b BK128.out) hb); have n1_ := Aside0.mk (below_step bq hb); revert n0_ n1_; clear BK128 HB; intro BK128 HB; (try clear hb); (try clear hb2); (try clear hk); (try clear hi)) | ((with_reducible refine gate_dst (N := 8) rfl ?_); refine q_box (N := 8) (cs := #[.string (⟨#[]⟩ : ByteArray), .int .i64 0, .string (⟨#[]⟩ : ByteArray), .bool false]) (t := 49) ?_; intro gb135 hg w19 hbox hb; have n0_ := Aside0.mk (blk_below (q_b BK128.out) hb); have n1_ := Aside0.mk (below_step bq hb); have n2_ := Aside0.mk (hbox); have n3_ := Aside0.mk ((q_g hg bq : w.heap.size ≤ gb135)); have n4_ := Aside0.mk ((q_g hg bq : w.heap.size ≤ gb135)); have n5_ := Aside0.mk ((q_n hg (q_b BK128.out) : gb128 ≠ gb135)); have n6_ := Aside0.mk ((q_m hg (q_b BK128.out) : gb135 ≠ gb128)); revert n0_ n1_ n2_ n3_ n4_ n5_ n6_; clear BK128 HB; intro BK128 HB BK135 GW135 GE135 NB128_135 NB135_128; clear hb hbox hg; have hnb20 := NB135_128.out; have hnc20 := NB128_135.out; obtain ⟨hcz21_0, hcz21_1, hcz21_2, hcz21_3, hfz21_0, hfz21_1, hfz21_2, hfz21_3⟩ := q_4 BK135.out; obtain ⟨hcz22_0, hcz22_1, hfz22_0, hfz22_1⟩ := q_2 BK128.out))
    refine bodyPost_ret (results_cell_row rfl _ _ gb128 37 #[.int .i64 0, .string t132] (0, 0) _ rfl (by (with_reducible repeat (first | refine blk_drewN ?_ _ | refine blk_drew ?_ | refine blk_alloc ?_ _)); refine blk_put (cs := #[.int .i64 0, .string (⟨#[]⟩ : ByteArray)]) ?_ 1 _ rfl; (with_reducible repeat (first | refine blk_drewN ?_ _ | refine blk_drew ?_ | refine blk_alloc ?_ _)); refine blk_put (cs := #[.int .i64 0, .string (⟨#[]⟩ : ByteArray)]) ?_ 0 _ rfl; (with_reducible repeat (first | refine blk_drewN ?_ _ | refine blk_drew ?_ | refine blk_alloc ?_ _)); refine blk_far ?_ NB128_135.out _; (with_reducible repeat (first | refine blk_drewN ?_ _ | refine blk_drew ?_ | refine blk_alloc ?_ _)); refine blk_far ?_ NB128_135.out _; (with_reducible repeat (first | refine blk_drewN ?_ _ | refine blk_drew ?_ | refine blk_alloc ?_ _)); refine blk_far ?_ NB128_135.out _; (with_reducible repeat (first | refine blk_drewN ?_ _ | refine blk_drew ?_ | refine blk_alloc ?_ _)); refine blk_far ?_ NB128_135.out _; (with_reducible repeat (first | refine blk_drewN ?_ _ | refine blk_drew ?_ | refine blk_alloc ?_ _)); exact BK128.out) Try.underlying37 rfl (by kernel_rfl)) rfl ?_
    exact ⟨q_e, bq⟩
  ·replace c7 := Bool.eq_false_iff.mpr c7
   subst c7
   have H1 : (some (4, (⟨#[]⟩ : ByteArray))) = some (r1, r2) := by rw [if_neg (show ¬ (false = true) by decide)] at H; exact H
   clear H
   have H := H1
   clear H1
   simp only [Option.some.injEq, Prod.mk.injEq] at H
   obtain ⟨rfl, rfl⟩ := H
   go_enter Try.func26, Try.ntmps26
   go_wp2_with (first | ((with_reducible refine gate_dst (N := 6) rfl ?_); refine q_box (N := 6) (cs := #[.int .i64 0, .string (⟨#[]⟩ : ByteArray)]) (t := 37) ?_; intro gb128 hg w23 hbox hb; have n0_ := Aside0.mk (below_step bq hb); have n1_ := Aside0.mk (hbox); have n2_ := Aside0.mk ((q_g hg bq : w.heap.size ≤ gb128)); have n3_ := Aside0.mk ((q_g hg bq : w.heap.size ≤ gb128)); revert n0_ n1_ n2_ n3_; clear HB; intro HB BK128 GW128 GE128; clear hb hbox hg) | ((with_reducible refine gate_callee (f := 18) rfl ?_); refine goesLq (some 11) rfl rfl Try.func18 (by kernel_rfl) rfl #[.slice A0 l0.length c0] rfl ?_; (with_reducible refine (impl_TableFault.calls k _ _ l0 t129 _ ?side1 ?side2 A4.out).mono ?_); (case side1 => exact q_c ((Kd.C_below HR0.out HB.out))); (case side2 => exact HC0.out); rintro e w24 ⟨rfl, hb⟩; refine ⟨_, rfl, ?_⟩; have n0_ := Aside0.mk (blk_below (q_b BK128.out) hb); have n1_ := Aside0.mk (below_step bq hb); revert n0_ n1_; clear BK128 HB; intro BK128 HB; (try clear hb); (try clear hb2); (try clear hk); (try clear hi)) | ((with_reducible refine gate_callee (f := 80) rfl ?_); refine goesLq (some 20) rfl rfl Try.func80 (by kernel_rfl) rfl #[.slice A0 l0.length c0, .string a1, .int .i64 a2] rfl ?_; (with_reducible refine (impl_rowOf.calls k _ _ l0 a1 a2 t130 t131 t132 t133 false _ ?side1 ?side2 A6.out).mono ?_); (case side1 => exact q_c ((Kd.C_below HR0.out HB.out))); (case side2 => exact HC0.out); rintro e w25 ⟨rfl, hb⟩; refine ⟨_, rfl, ?_⟩; have n0_ := Aside0.mk (blk_below (q_b BK128.out) hb); have n1_ := Aside0.mk (below_step bq hb); revert n0_ n1_; clear BK128 HB; intro BK128 HB; (try clear hb); (try clear hb2); (try clear hk); (try clear hi)) | ((with_reducible refine gate_dst (N := 8) rfl ?_); refine q_box (N := 8) (cs := #[.string (⟨#[]⟩ : ByteArray), .int .i64 0, .string (⟨#[]⟩ : ByteArray), .bool false]) (t := 49) ?_; intro gb135 hg w26 hbox hb; have n0_ := Aside0.mk (blk_below (q_b BK128.out) hb); have n1_ := Aside0.mk (below_step bq hb); have n2_ := Aside0.mk (hbox); have n3_ := Aside0.mk ((q_g hg bq : w.heap.size ≤ gb135)); have n4_ := Aside0.mk ((q_g hg bq : w.heap.size ≤ gb135)); have n5_ := Aside0.mk ((q_n hg (q_b BK128.out) : gb128 ≠ gb135)); have n6_ := Aside0.mk ((q_m hg (q_b BK128.out) : gb135 ≠ gb128)); revert n0_ n1_ n2_ n3_ n4_ n5_ n6_; clear BK128 HB; intro BK128 HB BK135 GW135 GE135 NB128_135 NB135_128; clear hb hbox hg; have hnb27 := NB135_128.out; have hnc27 := NB128_135.out; obtain ⟨hcz28_0, hcz28_1, hcz28_2, hcz28_3, hfz28_0, hfz28_1, hfz28_2, hfz28_3⟩ := q_4 BK135.out; obtain ⟨hcz29_0, hcz29_1, hfz29_0, hfz29_1⟩ := q_2 BK128.out))
   refine bodyPost_ret (results_cell_row rfl _ _ gb128 37 #[.int .i64 4, .string (⟨#[]⟩ : ByteArray)] (0, 0) _ rfl (by (with_reducible repeat (first | refine blk_drewN ?_ _ | refine blk_drew ?_ | refine blk_alloc ?_ _)); refine blk_put (cs := #[.int .i64 4, .string (⟨#[]⟩ : ByteArray)]) ?_ 1 _ rfl; (with_reducible repeat (first | refine blk_drewN ?_ _ | refine blk_drew ?_ | refine blk_alloc ?_ _)); refine blk_put (cs := #[.int .i64 0, .string (⟨#[]⟩ : ByteArray)]) ?_ 0 _ rfl; (with_reducible repeat (first | refine blk_drewN ?_ _ | refine blk_drew ?_ | refine blk_alloc ?_ _)); refine blk_far ?_ NB128_135.out _; (with_reducible repeat (first | refine blk_drewN ?_ _ | refine blk_drew ?_ | refine blk_alloc ?_ _)); refine blk_far ?_ NB128_135.out _; (with_reducible repeat (first | refine blk_drewN ?_ _ | refine blk_drew ?_ | refine blk_alloc ?_ _)); refine blk_far ?_ NB128_135.out _; (with_reducible repeat (first | refine blk_drewN ?_ _ | refine blk_drew ?_ | refine blk_alloc ?_ _)); refine blk_far ?_ NB128_135.out _; (with_reducible repeat (first | refine blk_drewN ?_ _ | refine blk_drew ?_ | refine blk_alloc ?_ _)); exact BK128.out) Try.underlying37 rfl (by kernel_rfl)) rfl ?_
   exact ⟨q_e, bq⟩
 ·rw [if_neg c5] at H
  have c5b0 : (t129 == 0) = false := beq_eq_false_iff_ne.mpr c5
  have c5b1 : (t129 != 0) = true := bne_iff_ne.mpr c5
  simp only [Option.some.injEq, Prod.mk.injEq] at H
  obtain ⟨rfl, rfl⟩ := H
  go_enter Try.func26, Try.ntmps26
  go_wp2_with (first | ((with_reducible refine gate_dst (N := 6) rfl ?_); refine q_box (N := 6) (cs := #[.int .i64 0, .string (⟨#[]⟩ : ByteArray)]) (t := 37) ?_; intro gb128 hg w30 hbox hb; have n0_ := Aside0.mk (below_step bq hb); have n1_ := Aside0.mk (hbox); have n2_ := Aside0.mk ((q_g hg bq : w.heap.size ≤ gb128)); have n3_ := Aside0.mk ((q_g hg bq : w.heap.size ≤ gb128)); revert n0_ n1_ n2_ n3_; clear HB; intro HB BK128 GW128 GE128; clear hb hbox hg) | ((with_reducible refine gate_callee (f := 18) rfl ?_); refine goesLq (some 11) rfl rfl Try.func18 (by kernel_rfl) rfl #[.slice A0 l0.length c0] rfl ?_; (with_reducible refine (impl_TableFault.calls k _ _ l0 t129 _ ?side1 ?side2 A4.out).mono ?_); (case side1 => exact q_c ((Kd.C_below HR0.out HB.out))); (case side2 => exact HC0.out); rintro e w31 ⟨rfl, hb⟩; refine ⟨_, rfl, ?_⟩; have n0_ := Aside0.mk (blk_below (q_b BK128.out) hb); have n1_ := Aside0.mk (below_step bq hb); revert n0_ n1_; clear BK128 HB; intro BK128 HB; (try clear hb); (try clear hb2); (try clear hk); (try clear hi); obtain ⟨hcz32_0, hcz32_1, hfz32_0, hfz32_1⟩ := q_2 BK128.out))
  refine bodyPost_ret (results_cell_row rfl _ _ gb128 37 #[.int .i64 t129, .string (⟨#[]⟩ : ByteArray)] (0, 0) _ rfl (by (with_reducible repeat (first | refine blk_drewN ?_ _ | refine blk_drew ?_ | refine blk_alloc ?_ _)); refine blk_put (cs := #[.int .i64 t129, .string (⟨#[]⟩ : ByteArray)]) ?_ 1 _ rfl; (with_reducible repeat (first | refine blk_drewN ?_ _ | refine blk_drew ?_ | refine blk_alloc ?_ _)); refine blk_put (cs := #[.int .i64 0, .string (⟨#[]⟩ : ByteArray)]) ?_ 0 _ rfl; (with_reducible repeat (first | refine blk_drewN ?_ _ | refine blk_drew ?_ | refine blk_alloc ?_ _)); exact BK128.out) Try.underlying37 rfl (by kernel_rfl)) rfl ?_
  exact ⟨q_e, bq⟩

/-! ### laws_lwBig: function 28 -/
def laws_lwBig.f (l0 : List Int) : Option (Bool) := some (decide ((l0.length : Int) > 1048576))
set_option maxHeartbeats 8000000 in
set_option maxRecDepth 100000 in
theorem laws_lwBig.calls (A0 : Option Addr) (c0 : Nat) (l0 : List Int) (r : Bool) (w : World) (hr0 : Kd.C (Kd.int .u8) w A0 l0.length l0) (hc0 : l0.length ≤ c0) (h : laws_lwBig.f l0 = some r) :
  Calls Try.prog 28 #[.slice A0 l0.length c0] w fun e w' => e = .returned (.bool r) ∧ Drawn0 w w' := by
 have HR0 := Aside0.mk hr0
 have HC0 := Aside0.mk hc0
 clear hr0 hc0
 have H : (some (decide ((l0.length : Int) > 1048576))) = some r := h
 clear h
 obtain rfl := Option.some.inj H
 go_enter Try.func28, Try.ntmps28
 go_wp2
 go_ret
 exact ⟨by first | rfl | (simp; done) | (simp [*]; done), q_0⟩

/-! ### spec_l1In: function 89 -/
def spec_l1In.f (a0 : Int) (a1 : Int) (a2 : Int) : Option (Bool) := if a0 ≥ a1 then (some (decide (a0 ≤ a2))) else (some false)
set_option maxHeartbeats 8000000 in
set_option maxRecDepth 100000 in
theorem spec_l1In.calls (a0 : Int) (a1 : Int) (a2 : Int) (r : Bool) (w : World) (h : spec_l1In.f a0 a1 a2 = some r) :
  Calls Try.prog 89 #[.int .i64 a0, .int .i64 a1, .int .i64 a2] w fun e w' => e = .returned (.bool r) ∧ Drawn0 w w' := by
 have H : (if a0 ≥ a1 then (some (decide (a0 ≤ a2))) else (some false)) = some r := h
 clear h
 by_cases c4 : a0 ≥ a1
 ·rw [if_pos c4] at H
  have c4b0 := decide_eq_true c4
  clear c4
  obtain rfl := Option.some.inj H
  go_enter Try.func89, Try.ntmps89
  go_wp2
  go_ret
  exact ⟨by first | rfl | (simp; done) | (simp [*]; done), q_0⟩
 ·rw [if_neg c4] at H
  have c4b0 := decide_eq_false c4
  clear c4
  obtain rfl := Option.some.inj H
  go_enter Try.func89, Try.ntmps89
  go_wp2
  go_ret
  exact ⟨by first | rfl | (simp; done) | (simp [*]; done), q_0⟩

/-! ### spec_RowFault: function 63 -/
def spec_RowFault.j0 : Nat → Bool → ByteArray → Int → ByteArray → Bool → Option (Int)
  | 0, _, _, _, _, _ => none
  | k + 1, x21, x137000, x137001, x137002, x137003 => if x21 = true then (some 1) else (if (x137002.size : Int) > 100 then (some 2) else ((spec_l1In.f x137001 1 1000000).bind fun t137 => (if t137 = true then (some 0) else (some 3))))
def spec_RowFault.f (k : Nat) (a0_0 : ByteArray) (a0_1 : Int) (a0_2 : ByteArray) (a0_3 : Bool) : Option (Int) := if (a0_0.size : Int) < 1 then (spec_RowFault.j0 k true a0_0 a0_1 a0_2 a0_3) else (if (a0_0.size : Int) > 20 then (spec_RowFault.j0 k true a0_0 a0_1 a0_2 a0_3) else (if a0_3 = true then (spec_RowFault.j0 k (a0_2.toList != ([] : List UInt8)) a0_0 a0_1 a0_2 a0_3) else (spec_RowFault.j0 k false a0_0 a0_1 a0_2 a0_3)))
set_option maxHeartbeats 8000000 in
set_option maxRecDepth 100000 in
theorem spec_RowFault.calls (k : Nat) (a0_0 : ByteArray) (a0_1 : Int) (a0_2 : ByteArray) (a0_3 : Bool) (r : Int) (w : World) (h : spec_RowFault.f k a0_0 a0_1 a0_2 a0_3 = some r) :
  Calls Try.prog 63 #[.agg #[.string a0_0, .int .i64 a0_1, .string a0_2, .bool a0_3]] w fun e w' => e = .returned (.int .i64 r) ∧ Below w.heap.size w w' := by
 have hu49 := Try.underlying49
 have HB := Aside0.mk (Below.refl w.heap.size w)
 have H : (if (a0_0.size : Int) < 1 then (spec_RowFault.j0 k true a0_0 a0_1 a0_2 a0_3) else (if (a0_0.size : Int) > 20 then (spec_RowFault.j0 k true a0_0 a0_1 a0_2 a0_3) else (if a0_3 = true then (spec_RowFault.j0 k (a0_2.toList != ([] : List UInt8)) a0_0 a0_1 a0_2 a0_3) else (spec_RowFault.j0 k false a0_0 a0_1 a0_2 a0_3)))) = some r := h
 clear h
 have HC2 := Aside0.mk H
 clear H
 go_enter Try.func63, Try.ntmps63
 go_upto_region 1 with (first | ((with_reducible refine gate_dst (N := 1) rfl ?_); (try (refine gate_guard (by rfl) ?_; dsimp only)); refine q_box (N := 1) (cs := #[.string a0_0, .int .i64 a0_1, .string a0_2, .bool a0_3]) (t := 49) ?_; intro gb136 hg w3 hbox hb; have n0_ := Aside0.mk (below_step bq hb); have n1_ := Aside0.mk (hbox); have n2_ := Aside0.mk ((q_g hg bq : w.heap.size ≤ gb136)); have n3_ := Aside0.mk ((q_g hg bq : w.heap.size ≤ gb136)); revert n0_ n1_ n2_ n3_; clear HB; intro HB BK136 GW136 GE136; clear hb hbox hg))
 (try simp only [Act.put, List.setIfInBounds_toArray, List.set_cons_zero, List.set_cons_succ])
 go_cut [21] (fun v21 wc => ∃ (kq : Nat) (x21_1 : Bool), v21 = .bool x21_1 ∧ Aside0 (spec_RowFault.j0 kq x21_1 a0_0 a0_1 a0_2 a0_3 = some r) ∧ Aside0 (kq ≤ k) ∧ Aside0 (wc.heap[gb136]? = some (.cells #[.string a0_0, .int .i64 a0_1, .string a0_2, .bool a0_3] 49 (0, 0))) ∧ Aside0 (Below w.heap.size w wc))
 case first =>
  have H := HC2.out
  clear HC2
  by_cases c4 : (a0_0.size : Int) < 1
  ·rw [if_pos c4] at H
   have c4b0 := decide_eq_true c4
   have c4b1 : decide (a0_0.size < 1) = true := decide_eq_true (by omega)
   clear c4
   (first | rw [c4b0] | (simp only [i64_w, i32_w]; rw [c4b0]) | skip)
   have H' := Aside0.mk H
   clear H
   obtain ⟨hcz5_0, hcz5_1, hcz5_2, hcz5_3, hfz5_0, hfz5_1, hfz5_2, hfz5_3⟩ := q_4 BK136.out
   go_wp2
   go_meet
   case rel => exact ⟨_, (true), q_i, H', ⟨by first | omega | exact Nat.le_refl _⟩, ⟨q_b BK136.out⟩, ⟨bq⟩⟩
  ·rw [if_neg c4] at H
   have c4b0 := decide_eq_false c4
   have c4b1 : decide (a0_0.size < 1) = false := decide_eq_false (by omega)
   clear c4
   (first | rw [c4b0] | (simp only [i64_w, i32_w]; rw [c4b0]) | skip)
   by_cases c6 : (a0_0.size : Int) > 20
   ·rw [if_pos c6] at H
    have c6b0 := decide_eq_true c6
    have c6b1 : decide (20 < a0_0.size) = true := decide_eq_true (by omega)
    clear c6
    have H' := Aside0.mk H
    clear H
    obtain ⟨hcz7_0, hcz7_1, hcz7_2, hcz7_3, hfz7_0, hfz7_1, hfz7_2, hfz7_3⟩ := q_4 BK136.out
    go_wp2
    go_meet
    case rel => exact ⟨_, (true), q_i, H', ⟨by first | omega | exact Nat.le_refl _⟩, ⟨q_b BK136.out⟩, ⟨bq⟩⟩
   ·rw [if_neg c6] at H
    have c6b0 := decide_eq_false c6
    have c6b1 : decide (20 < a0_0.size) = false := decide_eq_false (by omega)
    clear c6
    by_cases c8 : a0_3 = true
    ·subst c8
     have H1 : (spec_RowFault.j0 k (a0_2.toList != ([] : List UInt8)) a0_0 a0_1 a0_2 true) = some r := by rw [if_pos rfl] at H; exact H
     clear H
     have H := H1
     clear H1
     have H' := Aside0.mk H
     clear H
     obtain ⟨hcz9_0, hcz9_1, hcz9_2, hcz9_3, hfz9_0, hfz9_1, hfz9_2, hfz9_3⟩ := q_4 BK136.out
     go_wp2
     go_meet
     case rel => exact ⟨_, ((a0_2.toList != ([] : List UInt8))), q_i, H', ⟨by first | omega | exact Nat.le_refl _⟩, ⟨q_b BK136.out⟩, ⟨bq⟩⟩
    ·replace c8 := Bool.eq_false_iff.mpr c8
     subst c8
     have H1 : (spec_RowFault.j0 k false a0_0 a0_1 a0_2 false) = some r := by rw [if_neg (show ¬ (false = true) by decide)] at H; exact H
     clear H
     have H := H1
     clear H1
     have H' := Aside0.mk H
     clear H
     obtain ⟨hcz10_0, hcz10_1, hcz10_2, hcz10_3, hfz10_0, hfz10_1, hfz10_2, hfz10_3⟩ := q_4 BK136.out
     go_wp2
     go_meet
     case rel => exact ⟨_, (false), q_i, H', ⟨by first | omega | exact Nat.le_refl _⟩, ⟨q_b BK136.out⟩, ⟨bq⟩⟩
 case rest =>
  clear HC2
  (try clear p2); (try clear c4); (try clear c4b0); (try clear c4b1); (try clear c6); (try clear c6b0); (try clear c6b1); (try clear c8); (try clear hcz10_0); (try clear hcz10_1); (try clear hcz10_2); (try clear hcz10_3)
  (try clear hcz5_0); (try clear hcz5_1); (try clear hcz5_2); (try clear hcz5_3); (try clear hcz7_0); (try clear hcz7_1); (try clear hcz7_2); (try clear hcz7_3); (try clear hcz9_0); (try clear hcz9_1)
  (try clear hcz9_2); (try clear hcz9_3); (try clear hfz10_0); (try clear hfz10_1); (try clear hfz10_2); (try clear hfz10_3); (try clear hfz5_0); (try clear hfz5_1); (try clear hfz5_2); (try clear hfz5_3)
  (try clear hfz7_0); (try clear hfz7_1); (try clear hfz7_2); (try clear hfz7_3); (try clear hfz9_0); (try clear hfz9_1); (try clear hfz9_2); (try clear hfz9_3)
  obtain ⟨kq, x21_1, rfl, HA, HJ1, BK136, HB⟩ := hcut
  cases kq with
  | zero => exact absurd HA.out (by simp [spec_RowFault.j0])
  | succ kj1 =>
   have H := HA.out
   clear HA
   simp only [spec_RowFault.j0] at H
   by_cases c11 : x21_1 = true
   ·subst c11
    have H1 : (some 1) = some r := by rw [if_pos rfl] at H; exact H
    clear H
    have H := H1
    clear H1
    obtain rfl := Option.some.inj H
    go_wp2
    go_ret
    exact ⟨q_e, bq⟩
   ·replace c11 := Bool.eq_false_iff.mpr c11
    subst c11
    have H1 : (if (a0_2.size : Int) > 100 then (some 2) else ((spec_l1In.f a0_1 1 1000000).bind fun t137 => (if t137 = true then (some 0) else (some 3)))) = some r := by rw [if_neg (show ¬ (false = true) by decide)] at H; exact H
    clear H
    have H := H1
    clear H1
    by_cases c12 : (a0_2.size : Int) > 100
    ·rw [if_pos c12] at H
     have c12b0 := decide_eq_true c12
     have c12b1 : decide (100 < a0_2.size) = true := decide_eq_true (by omega)
     clear c12
     obtain rfl := Option.some.inj H
     obtain ⟨hcz13_0, hcz13_1, hcz13_2, hcz13_3, hfz13_0, hfz13_1, hfz13_2, hfz13_3⟩ := q_4 BK136.out
     go_wp2
     go_ret
     exact ⟨q_e, bq⟩
    ·rw [if_neg c12] at H
     have c12b0 := decide_eq_false c12
     have c12b1 : decide (100 < a0_2.size) = false := decide_eq_false (by omega)
     clear c12
     replace H := Option.bind_eq_some_iff.mp H
     obtain ⟨t137, A140, H⟩ := H
     replace H : (if t137 = true then (some 0) else (some 3)) = some r := H
     have A14 := Aside0.mk A140
     clear A140
     by_cases c15 : t137 = true
     ·subst c15
      have H1 : (some 0) = some r := by rw [if_pos rfl] at H; exact H
      clear H
      have H := H1
      clear H1
      obtain rfl := Option.some.inj H
      obtain ⟨hcz16_0, hcz16_1, hcz16_2, hcz16_3, hfz16_0, hfz16_1, hfz16_2, hfz16_3⟩ := q_4 BK136.out
      go_wp2_with (first | ((with_reducible refine gate_callee (f := 89) rfl ?_); refine goesLq (some 28) rfl rfl Try.func89 (by kernel_rfl) rfl #[.int .i64 a0_1, .int .i64 1, .int .i64 1000000] rfl ?_; (with_reducible refine (spec_l1In.calls a0_1 1 1000000 true _ A14.out).mono ?_); rintro e w' ⟨rfl, ⟨nd, rfl⟩⟩; refine ⟨_, rfl, ?_⟩))
      go_ret
      exact ⟨q_e, bq⟩
     ·replace c15 := Bool.eq_false_iff.mpr c15
      subst c15
      have H1 : (some 3) = some r := by rw [if_neg (show ¬ (false = true) by decide)] at H; exact H
      clear H
      have H := H1
      clear H1
      obtain rfl := Option.some.inj H
      obtain ⟨hcz17_0, hcz17_1, hcz17_2, hcz17_3, hfz17_0, hfz17_1, hfz17_2, hfz17_3⟩ := q_4 BK136.out
      go_wp2_with (first | ((with_reducible refine gate_callee (f := 89) rfl ?_); refine goesLq (some 28) rfl rfl Try.func89 (by kernel_rfl) rfl #[.int .i64 a0_1, .int .i64 1, .int .i64 1000000] rfl ?_; (with_reducible refine (spec_l1In.calls a0_1 1 1000000 false _ A14.out).mono ?_); rintro e w' ⟨rfl, ⟨nd, rfl⟩⟩; refine ⟨_, rfl, ?_⟩))
      go_ret
      exact ⟨q_e, bq⟩

/-! ### spec_l5Ahead: function 64 -/
def spec_l5Ahead.f (a0_0 : ByteArray) (a0_1 : Int) (a0_2 : ByteArray) (a0_3 : Bool) (a1_0 : ByteArray) (a1_1 : Int) (a1_2 : ByteArray) (a1_3 : Bool) : Option (Bool) := if a0_0.toList = a1_0.toList then (some (decide (a0_1 > a1_1))) else (some (Op.bytesLess a0_0.toList a1_0.toList))
set_option maxHeartbeats 8000000 in
set_option maxRecDepth 100000 in
theorem spec_l5Ahead.calls (a0_0 : ByteArray) (a0_1 : Int) (a0_2 : ByteArray) (a0_3 : Bool) (a1_0 : ByteArray) (a1_1 : Int) (a1_2 : ByteArray) (a1_3 : Bool) (r : Bool) (w : World) (h : spec_l5Ahead.f a0_0 a0_1 a0_2 a0_3 a1_0 a1_1 a1_2 a1_3 = some r) :
  Calls Try.prog 64 #[.agg #[.string a0_0, .int .i64 a0_1, .string a0_2, .bool a0_3], .agg #[.string a1_0, .int .i64 a1_1, .string a1_2, .bool a1_3]] w fun e w' => e = .returned (.bool r) ∧ Below w.heap.size w w' := by
 have hu49 := Try.underlying49
 have HB := Aside0.mk (Below.refl w.heap.size w)
 have H : (if a0_0.toList = a1_0.toList then (some (decide (a0_1 > a1_1))) else (some (Op.bytesLess a0_0.toList a1_0.toList))) = some r := h
 clear h
 by_cases c3 : a0_0.toList = a1_0.toList
 ·rw [if_pos c3] at H
  have c3b0 : (a0_0.toList == a1_0.toList) = true := beq_iff_eq.mpr c3
  have c3b1 : (a0_0.toList != a1_0.toList) = false := bne_eq_false_iff_eq.mpr c3
  clear c3
  obtain rfl := Option.some.inj H
  go_enter Try.func64, Try.ntmps64
  go_wp2_with (first | ((with_reducible refine gate_dst (N := 2) rfl ?_); refine q_box (N := 2) (cs := #[.string a0_0, .int .i64 a0_1, .string a0_2, .bool a0_3]) (t := 49) ?_; intro gb138 hg w4 hbox hb; have n0_ := Aside0.mk (below_step bq hb); have n1_ := Aside0.mk (hbox); have n2_ := Aside0.mk ((q_g hg bq : w.heap.size ≤ gb138)); have n3_ := Aside0.mk ((q_g hg bq : w.heap.size ≤ gb138)); revert n0_ n1_ n2_ n3_; clear HB; intro HB BK138 GW138 GE138; clear hb hbox hg) | ((with_reducible refine gate_dst (N := 3) rfl ?_); refine q_box (N := 3) (cs := #[.string a1_0, .int .i64 a1_1, .string a1_2, .bool a1_3]) (t := 49) ?_; intro gb139 hg w5 hbox hb; have n0_ := Aside0.mk (blk_below (q_b BK138.out) hb); have n1_ := Aside0.mk (below_step bq hb); have n2_ := Aside0.mk (hbox); have n3_ := Aside0.mk ((q_g hg bq : w.heap.size ≤ gb139)); have n4_ := Aside0.mk ((q_g hg bq : w.heap.size ≤ gb139)); have n5_ := Aside0.mk ((q_n hg (q_b BK138.out) : gb138 ≠ gb139)); have n6_ := Aside0.mk ((q_m hg (q_b BK138.out) : gb139 ≠ gb138)); revert n0_ n1_ n2_ n3_ n4_ n5_ n6_; clear BK138 HB; intro BK138 HB BK139 GW139 GE139 NB138_139 NB139_138; clear hb hbox hg; have hnb6 := NB138_139.out; have hnc6 := NB139_138.out; obtain ⟨hcz7_0, hcz7_1, hcz7_2, hcz7_3, hfz7_0, hfz7_1, hfz7_2, hfz7_3⟩ := q_4 BK138.out; obtain ⟨hcz8_0, hcz8_1, hcz8_2, hcz8_3, hfz8_0, hfz8_1, hfz8_2, hfz8_3⟩ := q_4 BK139.out))
  go_ret
  exact ⟨q_e, bq⟩
 ·rw [if_neg c3] at H
  have c3b0 : (a0_0.toList == a1_0.toList) = false := beq_eq_false_iff_ne.mpr c3
  have c3b1 : (a0_0.toList != a1_0.toList) = true := bne_iff_ne.mpr c3
  obtain rfl := Option.some.inj H
  go_enter Try.func64, Try.ntmps64
  go_wp2_with (first | ((with_reducible refine gate_dst (N := 2) rfl ?_); refine q_box (N := 2) (cs := #[.string a0_0, .int .i64 a0_1, .string a0_2, .bool a0_3]) (t := 49) ?_; intro gb138 hg w9 hbox hb; have n0_ := Aside0.mk (below_step bq hb); have n1_ := Aside0.mk (hbox); have n2_ := Aside0.mk ((q_g hg bq : w.heap.size ≤ gb138)); have n3_ := Aside0.mk ((q_g hg bq : w.heap.size ≤ gb138)); revert n0_ n1_ n2_ n3_; clear HB; intro HB BK138 GW138 GE138; clear hb hbox hg) | ((with_reducible refine gate_dst (N := 3) rfl ?_); refine q_box (N := 3) (cs := #[.string a1_0, .int .i64 a1_1, .string a1_2, .bool a1_3]) (t := 49) ?_; intro gb139 hg w10 hbox hb; have n0_ := Aside0.mk (blk_below (q_b BK138.out) hb); have n1_ := Aside0.mk (below_step bq hb); have n2_ := Aside0.mk (hbox); have n3_ := Aside0.mk ((q_g hg bq : w.heap.size ≤ gb139)); have n4_ := Aside0.mk ((q_g hg bq : w.heap.size ≤ gb139)); have n5_ := Aside0.mk ((q_n hg (q_b BK138.out) : gb138 ≠ gb139)); have n6_ := Aside0.mk ((q_m hg (q_b BK138.out) : gb139 ≠ gb138)); revert n0_ n1_ n2_ n3_ n4_ n5_ n6_; clear BK138 HB; intro BK138 HB BK139 GW139 GE139 NB138_139 NB139_138; clear hb hbox hg; have hnb11 := NB138_139.out; have hnc11 := NB139_138.out; obtain ⟨hcz12_0, hcz12_1, hcz12_2, hcz12_3, hfz12_0, hfz12_1, hfz12_2, hfz12_3⟩ := q_4 BK138.out; obtain ⟨hcz13_0, hcz13_1, hcz13_2, hcz13_3, hfz13_0, hfz13_1, hfz13_2, hfz13_3⟩ := q_4 BK139.out))
  go_ret
  exact ⟨q_e, bq⟩

end Go.Proofs.Ytdhlcnlcpjlliaa.PFnScans
