/- The functions that a law reaches, each as a plain Lean function with the proof that the machine comes to its answer: written by program (the kit's print, turned by wip/gen). No conditions. -/
import Derived.Test.YtdhlcnlcpjlliaaPFnScansx0
import Derived.Test.YtdhlcnlcpjlliaaPFnScansx4
namespace Go.Proofs.Ytdhlcnlcpjlliaa.PFnScans
open Go.RowKit Go.Proofs.YtdhlcnlcpjlliaaW.PrintWords Go.Proofs.YtdhlcnlcpjlliaaW.PrintLast Go.Proofs.YtdhlcnlcpjlliaaW.PrintMore
attribute [local go_sem] max2_int min2_int max_two min_two max_three min_three max_four min_four   -- for this text's walks alone
set_option linter.unusedVariables false
set_option linter.unusedSimpArgs false

/-! ### spec_l5Get: function 79 -/
mutual
def spec_l5Get.l0 : Nat → List (S49) → ByteArray → Int → Int → Option (Int)
  | 0, _, _, _, _ => none
  | k + 1, x0, x1, x2, x7 => if x7 < (x0.length : Int) then (if 0 ≤ x7 then (if ((rd_T49 x0 x7).f0).toList = x1.toList then (spec_l5Get.j1 k x0 x1 x2 x7 (decide (((rd_T49 x0 x7).f1) ≤ x2))) else (spec_l5Get.j1 k x0 x1 x2 x7 false)) else (none)) else (some (-1))
def spec_l5Get.j1 : Nat → List (S49) → ByteArray → Int → Int → Bool → Option (Int)
  | 0, _, _, _, _, _ => none
  | k + 1, x0, x1, x2, x7, x29 => if x29 = true then (if 0 ≤ x7 then (if x7 < (x0.length : Int) then (if (rd_T49 x0 x7).f3 = true then (some (-1)) else (some x7)) else (none)) else (none)) else (spec_l5Get.l0 k x0 x1 x2 (wrap64 (x7 + 1)))
end
def spec_l5Get.f (k : Nat) (l0 : List (S49)) (a1 : ByteArray) (a2 : Int) : Option (Int) := spec_l5Get.l0 k l0 a1 a2 0
set_option maxHeartbeats 8000000 in
set_option maxRecDepth 100000 in
theorem spec_l5Get.calls (k : Nat) (A0 : Option Addr) (c0 : Nat) (l0 : List (S49)) (a1 : ByteArray) (a2 : Int) (r : Int) (w : World) (hr0 : Kd.C k49 w A0 l0.length l0) (hc0 : l0.length ≤ c0) (h : spec_l5Get.f k l0 a1 a2 = some r) :
  Calls Try.prog 79 #[.slice A0 l0.length c0, .string a1, .int .i64 a2] w fun e w' => e = .returned (.int .i64 r) ∧ Drawn0 w w' := by
 have HR0 := Aside0.mk hr0
 have HC0 := Aside0.mk hc0
 clear hr0 hc0
 have H : (spec_l5Get.l0 k l0 a1 a2 0) = some r := h
 clear h
 have H' := Aside0.mk H
 clear H
 go_enter Try.func79, Try.ntmps79
 go_wp2
 go_loopg [7] k (fun kq v7 w' => ∃ (x7_1 : Int), v7 = .int .i64 x7_1 ∧ Aside0 (spec_l5Get.l0 kq l0 a1 a2 x7_1 = some r) ∧ Aside0 (kq ≤ k) ∧ Drawn0 w w')
 case atStart => exact ⟨(0), q_i, H', ⟨Nat.le_refl _⟩, q_0⟩
 case round =>
  clear H'
  (try clear p2)
  obtain ⟨x7_1, rfl, HA, HK1, ⟨m1, rfl⟩⟩ := hrel
  cases gk with
  | zero => exact absurd HA.out (by simp [spec_l5Get.l0])
  | succ k1 =>
   have H := HA.out
   clear HA
   simp only [spec_l5Get.l0] at H
   by_cases c4 : x7_1 < (l0.length : Int)
   ·rw [if_pos c4] at H
    have c4b0 := decide_eq_true c4
    clear c4
    have HC5 := Aside0.mk H
    clear H
    go_upto_region 4 with (fail)
    go_cut [29] (fun v29 wc => ∃ (kq : Nat) (x29_4 : Bool), v29 = .bool x29_4 ∧ Aside0 (spec_l5Get.j1 kq l0 a1 a2 x7_1 x29_4 = some r) ∧ Aside0 (kq ≤ k1) ∧ Drawn0 w wc)
    case first =>
     have H := HC5.out
     clear HC5
     by_cases c6 : 0 ≤ x7_1
     ·rw [if_pos c6] at H
      have c6b0 := decide_eq_true c6
      clear c6
      (first | rw [c6b0] | (simp only [i64_w, i32_w]; rw [c6b0]) | skip)
      by_cases c7 : ((rd_T49 l0 x7_1).f0).toList = a1.toList
      ·rw [if_pos c7] at H
       have c7b0 : (((rd_T49 l0 x7_1).f0).toList == a1.toList) = true := beq_iff_eq.mpr c7
       have c7b1 : (((rd_T49 l0 x7_1).f0).toList != a1.toList) = false := bne_eq_false_iff_eq.mpr c7
       clear c7
       have H' := Aside0.mk H
       clear H
       have p365 : 0 ≤ (x7_1 : Int) := q_d
       have q365 : x7_1 < (l0.length : Int) := q_d
       obtain ⟨ad365, e365, hx365_0, hx365_1, hx365_2, hx365_3⟩ := at_T49 HR0.out x7_1 p365 q365
       cases e365
       replace p365 := eq_true p365
       replace q365 := eq_true q365
       have p366 : 0 ≤ (x7_1 : Int) := q_d
       have q366 : x7_1 < (l0.length : Int) := q_d
       obtain ⟨ad366, e366, hx366_0, hx366_1, hx366_2, hx366_3⟩ := at_T49 HR0.out x7_1 p366 q366
       obtain rfl : ad365 = ad366 := (by injection e366)
       replace p366 := eq_true p366
       replace q366 := eq_true q366
       go_wp2
       go_meet
       case rel => (try rw [← Nbq11.out]); exact ⟨_, (decide (((rd_T49 l0 x7_1).f1) ≤ a2)), q_i, H', ⟨by have := HK1.out; first | omega | exact Nat.le_refl _⟩, q_0⟩
      ·rw [if_neg c7] at H
       have c7b0 : (((rd_T49 l0 x7_1).f0).toList == a1.toList) = false := beq_eq_false_iff_ne.mpr c7
       have c7b1 : (((rd_T49 l0 x7_1).f0).toList != a1.toList) = true := bne_iff_ne.mpr c7
       have H' := Aside0.mk H
       clear H
       have p365 : 0 ≤ (x7_1 : Int) := q_d
       have q365 : x7_1 < (l0.length : Int) := q_d
       obtain ⟨ad365, e365, hx365_0, hx365_1, hx365_2, hx365_3⟩ := at_T49 HR0.out x7_1 p365 q365
       cases e365
       replace p365 := eq_true p365
       replace q365 := eq_true q365
       go_wp2
       go_meet
       case rel => (try rw [← Nbq11.out]); exact ⟨_, (false), q_i, H', ⟨by have := HK1.out; first | omega | exact Nat.le_refl _⟩, q_0⟩
     ·rw [if_neg c6] at H
      exact absurd H (by simp)
    case rest =>
     clear HC5
     (try clear p2); (try clear p3); (try clear q3); (try clear hx3); (try clear c4); (try clear c4b0); (try clear c6); (try clear c6b0); (try clear c7); (try clear c7b0); (try clear c7b1); (try clear hx365_0)
     (try clear hx365_1); (try clear hx365_2); (try clear hx365_3); (try clear hx366_0); (try clear hx366_1); (try clear hx366_2); (try clear hx366_3); (try clear p2); (try clear p365); (try clear p366)
     (try clear q365); (try clear q366)
     obtain ⟨kq, x29_4, rfl, HA, HJ4, ⟨mc4, rfl⟩⟩ := hcut
     cases kq with
     | zero => exact absurd HA.out (by simp [spec_l5Get.j1])
     | succ kj4 =>
      have H := HA.out
      clear HA
      simp only [spec_l5Get.j1] at H
      by_cases c8 : x29_4 = true
      ·subst c8
       have H1 : (if 0 ≤ x7_1 then (if x7_1 < (l0.length : Int) then (if (rd_T49 l0 x7_1).f3 = true then (some (-1)) else (some x7_1)) else (none)) else (none)) = some r := by rw [if_pos rfl] at H; exact H
       clear H
       have H := H1
       clear H1
       by_cases c9 : 0 ≤ x7_1
       ·rw [if_pos c9] at H
        have c9b0 := decide_eq_true c9
        clear c9
        by_cases c10 : x7_1 < (l0.length : Int)
        ·rw [if_pos c10] at H
         have c10b0 := decide_eq_true c10
         clear c10
         obtain ⟨bq11, hbq11⟩ : ∃ b_ : Bool, b_ = ((rd_T49 l0 x7_1).f3) := ⟨_, rfl⟩
         replace H : (if bq11 = true then (some (-1)) else (some x7_1)) = some r := by rw [← hbq11] at H; exact H
         have Nbq11 := Aside0.mk hbq11
         clear hbq11
         by_cases c12 : bq11 = true
         ·subst c12
          have H1 : (some (-1)) = some r := by rw [if_pos rfl] at H; exact H
          clear H
          have H := H1
          clear H1
          obtain rfl := Option.some.inj H
          have p367 : 0 ≤ (x7_1 : Int) := q_d
          have q367 : x7_1 < (l0.length : Int) := q_d
          obtain ⟨ad367, e367, hx367_0, hx367_1, hx367_2, hx367_3⟩ := at_T49 HR0.out x7_1 p367 q367
          (try rw [← Nbq11.out] at hx367_3)
          cases e367
          replace p367 := eq_true p367
          replace q367 := eq_true q367
          go_wp2
          go_ret
          exact ⟨by first | rfl | (simp; done) | (simp [*]; done), q_0⟩
         ·replace c12 := Bool.eq_false_iff.mpr c12
          subst c12
          have H1 : (some x7_1) = some r := by rw [if_neg (show ¬ (false = true) by decide)] at H; exact H
          clear H
          have H := H1
          clear H1
          obtain rfl := Option.some.inj H
          have p367 : 0 ≤ (x7_1 : Int) := q_d
          have q367 : x7_1 < (l0.length : Int) := q_d
          obtain ⟨ad367, e367, hx367_0, hx367_1, hx367_2, hx367_3⟩ := at_T49 HR0.out x7_1 p367 q367
          (try rw [← Nbq11.out] at hx367_3)
          cases e367
          replace p367 := eq_true p367
          replace q367 := eq_true q367
          go_wp2
          go_ret
          exact ⟨by first | rfl | (simp; done) | (simp [*]; done), q_0⟩
        ·rw [if_neg c10] at H
         exact absurd H (by simp)
       ·rw [if_neg c9] at H
        exact absurd H (by simp)
      ·replace c8 := Bool.eq_false_iff.mpr c8
       subst c8
       have H1 : (spec_l5Get.l0 kj4 l0 a1 a2 (wrap64 (x7_1 + 1))) = some r := by rw [if_neg (show ¬ (false = true) by decide)] at H; exact H
       clear H
       have H := H1
       clear H1
       have H' := Aside0.mk H
       clear H
       go_wp2
       go_roundg kj4
       case measure => have := HK1.out; have := HJ4.out; omega
       case rel => (try rw [← Nbq11.out]); exact ⟨(wrap64 (x7_1 + 1)), q_i, H', ⟨by have := HK1.out; have := HJ4.out; omega⟩, q_0⟩
   ·rw [if_neg c4] at H
    have c4b0 := decide_eq_false c4
    clear c4
    obtain rfl := Option.some.inj H
    go_wp2
    go_ret
    exact ⟨by first | rfl | (simp; done) | (simp [*]; done), q_0⟩

/-! ### spec_ScanTable: function 49 -/
mutual
def spec_ScanTable.l0 : Nat → List (S49) → ByteArray → Int → List ByteArray → Int → Int → List (S49) → Option (Int × (List (S49)))
  | 0, _, _, _, _, _, _, _ => none
  | k + 1, x0, x1, x2, x9, x10, x371000, x371001 => if x10 < (x9.length : Int) then (if 0 ≤ x10 then (if ((rdOf ByteArray.empty x9 x10).size : Int) < (x1.size : Int) then (spec_ScanTable.j1 k x0 x1 x2 x9 x10 true x371000 x371001) else (if 0 ≤ (x1.size : Int) then (if (x1.size : Int) ≤ ((rdOf ByteArray.empty x9 x10).size : Int) then (spec_ScanTable.j1 k x0 x1 x2 x9 x10 (((rdOf ByteArray.empty x9 x10).extract 0 ((x1.size : Int) : Int).toNat).toList != x1.toList) x371000 x371001) else (none)) else (none))) else (none)) else (some (x371000, x371001))
def spec_ScanTable.j1 : Nat → List (S49) → ByteArray → Int → List ByteArray → Int → Bool → Int → List (S49) → Option (Int × (List (S49)))
  | 0, _, _, _, _, _, _, _, _ => none
  | k + 1, x0, x1, x2, x9, x10, x45, x371000, x371001 => if x45 = true then (spec_ScanTable.l0 k x0 x1 x2 x9 (wrap64 (x10 + 1)) x371000 x371001) else (if 0 ≤ x10 then (if x10 < (x9.length : Int) then ((spec_l5Get.f k x0 (rdOf ByteArray.empty x9 x10) x2).bind fun t377 => (if t377 ≥ 0 then (if 0 ≤ t377 then (if t377 < (x0.length : Int) then (if x371001.length < 2932031007402 then (spec_ScanTable.l0 k x0 x1 x2 x9 (wrap64 (x10 + 1)) x371000 (x371001 ++ [(⟨(rd_T49 x0 t377).f0, (rd_T49 x0 t377).f1, (rd_T49 x0 t377).f2, (rd_T49 x0 t377).f3⟩ : S49)])) else (none)) else (none)) else (none)) else (spec_ScanTable.l0 k x0 x1 x2 x9 (wrap64 (x10 + 1)) x371000 x371001))) else (none)) else (none))
end
def spec_ScanTable.f (k : Nat) (l0 : List (S49)) (a1 : ByteArray) (a2 : Int) : Option (Int × (List (S49))) := (spec_TableFault.f k l0).bind fun t369 => (if t369 = 0 then ((spec_l5Keys.f k l0).bind fun t371 => (spec_ScanTable.l0 k l0 a1 a2 t371 0 0 ([] : List (S49)))) else (some (t369, ([] : List (S49)))))
def spec_ScanTable.T12 : Bool × List (List Nat × List Nat) := (true, [([], []), ([0], [0]), ([], []), ([], []), ([2, 3], [2, 3]), ([4], [4]), ([5], [5]), ([1, 6], [1, 6]), ([0, 1, 2, 3, 4, 5, 6, 7], []), ([8, 7, 7, 0, 1, 2, 3, 4, 5, 6, 7], [7, 8])])
def spec_ScanTable.B12 : List Nat := [0, 1, 0, 0, 12, 28, 60, 127, 255, 511]
theorem spec_ScanTable.tab12 : rtab .any (opsOf Try.f49 12) = spec_ScanTable.T12 := by kernel_rfl
theorem spec_ScanTable.bits12 : waitsOk spec_ScanTable.T12.2 spec_ScanTable.B12 = true := by kernel_rfl
set_option maxHeartbeats 8000000 in
set_option maxRecDepth 100000 in
theorem spec_ScanTable.calls (k : Nat) (A0 : Option Addr) (c0 : Nat) (l0 : List (S49)) (a1 : ByteArray) (a2 : Int) (r1 : Int) (r2 : List (S49)) (w : World) (hr0 : Kd.C k49 w A0 l0.length l0) (hc0 : l0.length ≤ c0) (h : spec_ScanTable.f k l0 a1 a2 = some (r1, r2)) :
  Calls Try.prog 49 #[.slice A0 l0.length c0, .string a1, .int .i64 a2] w fun e w' => ∃ v1_ : Value, e = .returned (.agg #[.int .i64 r1, v1_]) ∧ Kd.R k49 49 w' w.heap.size (fun _ => True) v1_ r2 ∧ Below w.heap.size w w' := by
 have hu46 := Try.underlying46
 have hu49 := Try.underlying49
 have HR0 := Aside0.mk hr0
 have HC0 := Aside0.mk hc0
 clear hr0 hc0
 have HB := Aside0.mk (Below.refl w.heap.size w)
 have H : ((spec_TableFault.f k l0).bind fun t369 => (if t369 = 0 then ((spec_l5Keys.f k l0).bind fun t371 => (spec_ScanTable.l0 k l0 a1 a2 t371 0 0 ([] : List (S49)))) else (some (t369, ([] : List (S49)))))) = some (r1, r2) := h
 clear h
 replace H := Option.bind_eq_some_iff.mp H
 obtain ⟨t369, A40, H⟩ := H
 replace H : (if t369 = 0 then ((spec_l5Keys.f k l0).bind fun t371 => (spec_ScanTable.l0 k l0 a1 a2 t371 0 0 ([] : List (S49)))) else (some (t369, ([] : List (S49))))) = some (r1, r2) := H
 have A4 := Aside0.mk A40
 clear A40
 by_cases c5 : t369 = 0
 ·rw [if_pos c5] at H
  have c5b0 : (t369 == 0) = true := beq_iff_eq.mpr c5
  have c5b1 : (t369 != 0) = false := bne_eq_false_iff_eq.mpr c5
  clear c5
  replace H := Option.bind_eq_some_iff.mp H
  obtain ⟨t371, A60, H⟩ := H
  replace H : (spec_ScanTable.l0 k l0 a1 a2 t371 0 0 ([] : List (S49))) = some (r1, r2) := H
  have A6 := Aside0.mk A60
  clear A60
  have H' := Aside0.mk H
  clear H
  go_enter Try.func49, Try.ntmps49
  go_wp2_with (first | ((with_reducible refine gate_dst (N := 6) rfl ?_); (try (refine gate_guard (by rfl) ?_; dsimp only)); refine q_box (N := 6) (cs := #[.int .i64 0, .slice none 0 0]) (t := 46) ?_; intro gb368 hg w7 hbox hb; have n0_ := Aside0.mk (below_step bq hb); have n1_ := Aside0.mk (hbox); have n2_ := Aside0.mk ((q_g hg bq : w.heap.size ≤ gb368)); have n3_ := Aside0.mk ((q_g hg bq : w.heap.size ≤ gb368)); revert n0_ n1_ n2_ n3_; clear HB; intro HB BK368 GW368 GE368; clear hb hbox hg) | ((with_reducible refine gate_callee (f := 16) rfl ?_); refine goesLq (some 13) rfl rfl Try.func16 (by kernel_rfl) rfl #[.slice A0 l0.length c0] rfl ?_; (with_reducible refine (spec_TableFault.calls k _ _ l0 t369 _ ?side1 ?side2 A4.out).mono ?_); (case side1 => exact q_c ((Kd.C_below HR0.out HB.out))); (case side2 => exact HC0.out); rintro e w8 ⟨rfl, hb⟩; refine ⟨_, rfl, ?_⟩; have n0_ := Aside0.mk (blk_below (q_b BK368.out) hb); have n1_ := Aside0.mk (below_step bq hb); revert n0_ n1_; clear BK368 HB; intro BK368 HB; (try clear hb); (try clear hb2); (try clear hk); (try clear hi)) | ((with_reducible refine gate_dst (N := 8) rfl ?_); (try (refine gate_guard (by rfl) ?_; dsimp only)); refine q_box (N := 8) (cs := #[.int .i64 0, .slice none 0 0]) (t := 46) ?_; intro gb370 hg w9 hbox hb; have n0_ := Aside0.mk (blk_below (q_b BK368.out) hb); have n1_ := Aside0.mk (below_step bq hb); have n2_ := Aside0.mk (hbox); have n3_ := Aside0.mk ((q_g hg bq : w.heap.size ≤ gb370)); have n4_ := Aside0.mk ((q_g hg bq : w.heap.size ≤ gb370)); have n5_ := Aside0.mk ((q_n hg (q_b BK368.out) : gb368 ≠ gb370)); have n6_ := Aside0.mk ((q_m hg (q_b BK368.out) : gb370 ≠ gb368)); revert n0_ n1_ n2_ n3_ n4_ n5_ n6_; clear BK368 HB; intro BK368 HB BK370 GW370 GE370 NB368_370 NB370_368; clear hb hbox hg; have hnb10 := NB370_368.out; have hnc10 := NB368_370.out; obtain ⟨hcz11_0, hcz11_1, hfz11_0, hfz11_1⟩ := q_2 BK370.out) | ((with_reducible refine gate_callee (f := 92) rfl ?_); refine goesLq (some 20) rfl rfl Try.func92 (by kernel_rfl) rfl #[.slice A0 l0.length c0] rfl ?_; (with_reducible refine (spec_l5Keys.calls k _ _ l0 t371 _ ?side1 ?side2 A6.out).mono ?_); (case side1 => exact Kd.C_below HR0.out bq); (case side2 => exact HC0.out); rintro e w12 ⟨v372, rfl, ho0, hb⟩; refine ⟨_, rfl, ?_⟩; have n0_ := Aside0.mk (Kd.R_lower ho0 (below_size bq)); have n1_ := Aside0.mk (blk_below (g := gb368) (o := .cells #[.int .i64 0, .slice none 0 0] 46 (0, 0)) (by (with_reducible repeat (first | refine blk_drewN ?_ _ | refine blk_drew ?_ | refine blk_alloc ?_ _)); refine blk_far ?_ NB368_370.out _; (with_reducible repeat (first | refine blk_drewN ?_ _ | refine blk_drew ?_ | refine blk_alloc ?_ _)); refine blk_far ?_ NB368_370.out _; (with_reducible repeat (first | refine blk_drewN ?_ _ | refine blk_drew ?_ | refine blk_alloc ?_ _)); exact BK368.out) hb); have n2_ := Aside0.mk (blk_below (g := gb370) (o := .cells #[.int .i64 0, .slice none 0 0] 46 (0, 0)) (by (with_reducible repeat (first | refine blk_drewN ?_ _ | refine blk_drew ?_ | refine blk_alloc ?_ _)); refine blk_put (cs := #[.int .i64 0, .slice none 0 0]) ?_ 1 _ rfl; (with_reducible repeat (first | refine blk_drewN ?_ _ | refine blk_drew ?_ | refine blk_alloc ?_ _)); refine blk_put (cs := #[.int .i64 0, .slice none 0 0]) ?_ 0 _ rfl; (with_reducible repeat (first | refine blk_drewN ?_ _ | refine blk_drew ?_ | refine blk_alloc ?_ _)); exact BK370.out) hb); have n3_ := Aside0.mk (below_step bq hb); revert n0_ n1_ n2_ n3_; clear BK368 BK370 HB; intro HO373 BK368 BK370 HB; (try clear hb); (try clear hb2); (try clear hk); (try clear hi); (try clear ho0)))
  go_loopg [10] k (fun kq v10 w' => ∃ (x10_1 : Int) (x371001_1 : List (S49)) (u371001 : Value), v10 = .int .i64 x10_1 ∧ Aside0 (spec_ScanTable.l0 kq l0 a1 a2 t371 x10_1 0 x371001_1 = some (r1, r2)) ∧ Aside0 (kq ≤ k) ∧ Aside0 (Kd.R Kd.string 9 w' w.heap.size (fun _ => True) v372 t371) ∧ Aside0 (Kd.R k49 49 w' w.heap.size (fun _ => True) u371001 x371001_1) ∧ Aside0 (w'.heap[gb368]? = some (.cells #[.int .i64 0, (.slice none 0 0)] 46 (0, 0))) ∧ Aside0 (w'.heap[gb370]? = some (.cells #[.int .i64 0, u371001] 46 (0, 0))) ∧ Aside0 (Below w.heap.size w w'))
  case atStart => exact ⟨(0), (([] : List (S49))), (.slice none 0 0), q_i, H', ⟨Nat.le_refl _⟩, ⟨q_r (HO373.out)⟩, ⟨by first | exact Kd.R_nil _ _ _ _ _ | exact Kd.N_nil _ _ _ _ _ | exact Kd.V_nil _ _ _ _ _ | exact Kd.Q_nil _ _ _ _ _ | exact Kd.S_nil _ _ _ _ _⟩, ⟨q_b BK368.out⟩, ⟨q_b BK370.out⟩, ⟨bq⟩⟩
  case round =>
   clear H'
   (try clear c1); (try clear p2); (try clear c4); (try clear c5); (try clear c5b0); (try clear c5b1); (try clear c9); (try clear c10); (try clear hcz11_0); (try clear hcz11_1); (try clear hfz11_0); (try clear hfz11_1)
   obtain ⟨x10_1, x371001_1, u371001, rfl, HA, HK1, HO_9, HO_371001, BK368, BK370, HB⟩ := hrel
   cases gk with
   | zero => exact absurd HA.out (by simp [spec_ScanTable.l0])
   | succ k1 =>
    have H := HA.out
    clear HA
    simp only [spec_ScanTable.l0] at H
    by_cases c13 : x10_1 < (t371.length : Int)
    ·rw [if_pos c13] at H
     have c13b0 := decide_eq_true c13
     clear c13
     have HC14 := Aside0.mk H
     clear H
     obtain ⟨Ao15, co15, eo15⟩ := Kd.R_slice HO_9.out
     subst eo15
     go_upto_region 9 with (fail)
     go_cut [45] (fun v45 wc => ∃ (kq : Nat) (x45_13 : Bool), v45 = .bool x45_13 ∧ Aside0 (spec_ScanTable.j1 kq l0 a1 a2 t371 x10_1 x45_13 0 x371001_1 = some (r1, r2)) ∧ Aside0 (kq ≤ k1) ∧ Aside0 (Kd.R Kd.string 9 wc w.heap.size (fun _ => True) (.slice Ao15 t371.length co15) t371) ∧ Aside0 (Kd.R k49 49 wc w.heap.size (fun _ => True) u371001 x371001_1) ∧ Aside0 (wc.heap[gb368]? = some (.cells #[.int .i64 0, (.slice none 0 0)] 46 (0, 0))) ∧ Aside0 (wc.heap[gb370]? = some (.cells #[.int .i64 0, u371001] 46 (0, 0))) ∧ Aside0 (Below w.heap.size w wc))
     case first =>
      have H := HC14.out
      clear HC14
      by_cases c16 : 0 ≤ x10_1
      ·rw [if_pos c16] at H
       have c16b0 := decide_eq_true c16
       clear c16
       (first | rw [c16b0] | (simp only [i64_w, i32_w]; rw [c16b0]) | skip)
       by_cases c17 : ((rdOf ByteArray.empty t371 x10_1).size : Int) < (a1.size : Int)
       ·rw [if_pos c17] at H
        have c17b0 := decide_eq_true c17
        have c17b1 : decide ((rdOf ByteArray.empty t371 x10_1).size < a1.size) = true := decide_eq_true (Int.ofNat_lt.mp c17)
        clear c17
        have H' := Aside0.mk H
        clear H
        have p374 : 0 ≤ (x10_1 : Int) := q_d
        have q374 : x10_1 < (t371.length : Int) := q_d
        obtain ⟨ad374, e374, hx374_0⟩ := Kd.at_string (Kd.R_reads' HO_9.out).2.2 x10_1 p374 q374
        cases e374
        replace p374 := eq_true p374
        replace q374 := eq_true q374
        go_wp2
        go_meet
        case rel => exact ⟨_, (true), q_i, H', ⟨by have := HK1.out; first | omega | exact Nat.le_refl _⟩, ⟨q_r (HO_9.out)⟩, ⟨q_r (HO_371001.out)⟩, ⟨q_b BK368.out⟩, ⟨q_b BK370.out⟩, ⟨bq⟩⟩
       ·rw [if_neg c17] at H
        have c17b0 := decide_eq_false c17
        have c17b1 : decide ((rdOf ByteArray.empty t371 x10_1).size < a1.size) = false := decide_eq_false (fun h => c17 (Int.ofNat_lt.mpr h))
        clear c17
        by_cases c18 : 0 ≤ (a1.size : Int)
        ·rw [if_pos c18] at H
         have c18b0 := eq_true c18
         have c18b1 := decide_eq_true c18
         clear c18
         by_cases c19 : (a1.size : Int) ≤ ((rdOf ByteArray.empty t371 x10_1).size : Int)
         ·rw [if_pos c19] at H
          have c19b0 := eq_true c19
          have c19b1 := decide_eq_true c19
          clear c19
          have H' := Aside0.mk H
          clear H
          have p374 : 0 ≤ (x10_1 : Int) := q_d
          have q374 : x10_1 < (t371.length : Int) := q_d
          obtain ⟨ad374, e374, hx374_0⟩ := Kd.at_string (Kd.R_reads' HO_9.out).2.2 x10_1 p374 q374
          cases e374
          replace p374 := eq_true p374
          replace q374 := eq_true q374
          have p375 : 0 ≤ (x10_1 : Int) := q_d
          have q375 : x10_1 < (t371.length : Int) := q_d
          obtain ⟨ad375, e375, hx375_0⟩ := Kd.at_string (Kd.R_reads' HO_9.out).2.2 x10_1 p375 q375
          obtain rfl : ad374 = ad375 := (by injection e375)
          replace p375 := eq_true p375
          replace q375 := eq_true q375
          go_wp2
          go_meet
          case rel => exact ⟨_, ((((rdOf ByteArray.empty t371 x10_1).extract 0 ((a1.size : Int) : Int).toNat).toList != a1.toList)), q_i, H', ⟨by have := HK1.out; first | omega | exact Nat.le_refl _⟩, ⟨q_r (HO_9.out)⟩, ⟨q_r (HO_371001.out)⟩, ⟨q_b BK368.out⟩, ⟨q_b BK370.out⟩, ⟨bq⟩⟩
         ·rw [if_neg c19] at H
          exact absurd H (by simp)
        ·rw [if_neg c18] at H
         exact absurd H (by simp)
      ·rw [if_neg c16] at H
       exact absurd H (by simp)
     case rest =>
      clear HC14
      (try clear c1); (try clear p2); (try clear p3); (try clear q3); (try clear hx3); (try clear c4); (try clear c5); (try clear c5b0); (try clear c5b1); (try clear c9); (try clear c10); (try clear c13)
      (try clear c13b0); (try clear c16); (try clear c16b0); (try clear c17); (try clear c17b0); (try clear c17b1); (try clear c18); (try clear c18b0); (try clear c18b1); (try clear c19); (try clear c19b0)
      (try clear c19b1); (try clear hcz11_0); (try clear hcz11_1); (try clear hfz11_0); (try clear hfz11_1); (try clear hx374_0); (try clear hx375_0); (try clear p2); (try clear p374); (try clear p375)
      (try clear q374); (try clear q375)
      obtain ⟨kq, x45_13, rfl, HA, HJ13, HO_9, HO_371001, BK368, BK370, HB⟩ := hcut
      cases kq with
      | zero => exact absurd HA.out (by simp [spec_ScanTable.j1])
      | succ kj13 =>
       have H := HA.out
       clear HA
       simp only [spec_ScanTable.j1] at H
       by_cases c20 : x45_13 = true
       ·subst c20
        have H1 : (spec_ScanTable.l0 kj13 l0 a1 a2 t371 (wrap64 (x10_1 + 1)) 0 x371001_1) = some (r1, r2) := by rw [if_pos rfl] at H; exact H
        clear H
        have H := H1
        clear H1
        have H' := Aside0.mk H
        clear H
        go_wp2
        go_roundg kj13
        case measure => have := HK1.out; have := HJ13.out; omega
        case rel => exact ⟨(wrap64 (x10_1 + 1)), (x371001_1), (u371001), q_i, H', ⟨by have := HK1.out; have := HJ13.out; omega⟩, ⟨q_r (HO_9.out)⟩, ⟨q_r (HO_371001.out)⟩, ⟨q_b BK368.out⟩, ⟨q_b BK370.out⟩, ⟨bq⟩⟩
       ·replace c20 := Bool.eq_false_iff.mpr c20
        subst c20
        have H1 : (if 0 ≤ x10_1 then (if x10_1 < (t371.length : Int) then ((spec_l5Get.f kj13 l0 (rdOf ByteArray.empty t371 x10_1) a2).bind fun t377 => (if t377 ≥ 0 then (if 0 ≤ t377 then (if t377 < (l0.length : Int) then (if x371001_1.length < 2932031007402 then (spec_ScanTable.l0 kj13 l0 a1 a2 t371 (wrap64 (x10_1 + 1)) 0 (x371001_1 ++ [(⟨(rd_T49 l0 t377).f0, (rd_T49 l0 t377).f1, (rd_T49 l0 t377).f2, (rd_T49 l0 t377).f3⟩ : S49)])) else (none)) else (none)) else (none)) else (spec_ScanTable.l0 kj13 l0 a1 a2 t371 (wrap64 (x10_1 + 1)) 0 x371001_1))) else (none)) else (none)) = some (r1, r2) := by rw [if_neg (show ¬ (false = true) by decide)] at H; exact H
        clear H
        have H := H1
        clear H1
        by_cases c21 : 0 ≤ x10_1
        ·rw [if_pos c21] at H
         have c21b0 := decide_eq_true c21
         clear c21
         by_cases c22 : x10_1 < (t371.length : Int)
         ·rw [if_pos c22] at H
          have c22b0 := decide_eq_true c22
          clear c22
          replace H := Option.bind_eq_some_iff.mp H
          obtain ⟨t377, A230, H⟩ := H
          replace H : (if t377 ≥ 0 then (if 0 ≤ t377 then (if t377 < (l0.length : Int) then (if x371001_1.length < 2932031007402 then (spec_ScanTable.l0 kj13 l0 a1 a2 t371 (wrap64 (x10_1 + 1)) 0 (x371001_1 ++ [(⟨(rd_T49 l0 t377).f0, (rd_T49 l0 t377).f1, (rd_T49 l0 t377).f2, (rd_T49 l0 t377).f3⟩ : S49)])) else (none)) else (none)) else (none)) else (spec_ScanTable.l0 kj13 l0 a1 a2 t371 (wrap64 (x10_1 + 1)) 0 x371001_1)) = some (r1, r2) := H
          have A23 := Aside0.mk A230
          clear A230
          by_cases c24 : t377 ≥ 0
          ·rw [if_pos c24] at H
           have c24b0 := decide_eq_true c24
           clear c24
           by_cases c25 : 0 ≤ t377
           ·rw [if_pos c25] at H
            have c25b0 := decide_eq_true c25
            clear c25
            by_cases c26 : t377 < (l0.length : Int)
            ·rw [if_pos c26] at H
             have c26b0 := decide_eq_true c26
             clear c26
             by_cases c27 : x371001_1.length < 2932031007402
             ·rw [if_pos c27] at H
              have LMc27 := Aside0.mk c27
              clear c27
              obtain ⟨y379, hy379⟩ : ∃ y_ : List (S49), y_ = (x371001_1 ++ [(⟨(rd_T49 l0 t377).f0, (rd_T49 l0 t377).f1, (rd_T49 l0 t377).f2, (rd_T49 l0 t377).f3⟩ : S49)]) := ⟨_, rfl⟩
              replace H : (spec_ScanTable.l0 kj13 l0 a1 a2 t371 (wrap64 (x10_1 + 1)) 0 y379) = some (r1, r2) := q_h hy379 H
              have Ny379 := Aside0.mk hy379
              clear hy379
              have H' := Aside0.mk H
              clear H
              have p376 : 0 ≤ (x10_1 : Int) := q_d
              have q376 : x10_1 < (t371.length : Int) := q_d
              obtain ⟨ad376, e376, hx376_0⟩ := Kd.at_string (Kd.R_reads' HO_9.out).2.2 x10_1 p376 q376
              cases e376
              replace p376 := eq_true p376
              replace q376 := eq_true q376
              try go_wp2_with (first | ((with_reducible refine gate_callee (f := 79) rfl ?_); refine goesLq (some 52) rfl rfl Try.func79 (by kernel_rfl) rfl #[.slice A0 l0.length c0, .string (rdOf ByteArray.empty t371 x10_1), .int .i64 a2] rfl ?_; (with_reducible refine (spec_l5Get.calls kj13 _ _ l0 (rdOf ByteArray.empty t371 x10_1) a2 t377 _ ?side1 ?side2 A23.out).mono ?_); (case side1 => exact q_c ((Kd.C_below HR0.out HB.out))); (case side2 => exact HC0.out); rintro e w' ⟨rfl, ⟨nd, rfl⟩⟩; refine ⟨_, rfl, ?_⟩; (try (rw [drewN_self wc]; generalize hq_ : World.drewN wc _ = wc; have n0_ : Aside0 (Kd.R k49 49 wc w.heap.size (fun _ => True) u371001 x371001_1) := ⟨by rw [← hq_]; exact (q_r (HO_371001.out))⟩; have n1_ : Aside0 (Kd.R Kd.string 9 wc w.heap.size (fun _ => True) (.slice (some ad376) t371.length co15) t371) := ⟨by rw [← hq_]; exact (q_r (HO_9.out))⟩; have n2_ : Aside0 (wc.heap[gb368]? = some (.cells #[.int .i64 0, .slice none 0 0] 46 (0, 0))) := ⟨by rw [← hq_]; exact kq⟩; have n3_ : Aside0 (wc.heap[gb370]? = some (.cells #[.int .i64 0, u371001] 46 (0, 0))) := ⟨by rw [← hq_]; exact kq⟩; have n4_ : Aside0 (Below w.heap.size w wc) := ⟨by rw [← hq_]; exact bq⟩; clear HO_371001 HO_9 BK368 BK370 HB hq_; have HO_371001 := n0_; have HO_9 := n1_; have BK368 := n2_; have BK370 := n3_; have HB := n4_; clear n0_ n1_ n2_ n3_ n4_))))
              have n0_ := Aside0.mk (Kd.R_drew HO_9.out)
              have n1_ := Aside0.mk (Kd.R_drew HO_371001.out)
              have n2_ := Aside0.mk (blk_drew BK368.out)
              have n3_ := Aside0.mk (blk_drew BK370.out)
              have n4_ := Aside0.mk (below_drew1 HB.out)
              clear HO_9
              clear HO_371001
              clear BK368
              clear BK370
              clear HB
              have HO_9 := n0_
              have HO_371001 := n1_
              have BK368 := n2_
              have BK370 := n3_
              have HB := n4_
              clear n0_ n1_ n2_ n3_ n4_
              have p378 : 0 ≤ (t377 : Int) := q_d
              have q378 : t377 < (l0.length : Int) := q_d
              obtain ⟨ad378, e378, hx378_0, hx378_1, hx378_2, hx378_3⟩ := at_T49 HR0.out t377 p378 q378
              have hw378_3 := hx378_3
              have hw378_2 := hx378_2
              have hw378_1 := hx378_1
              have hw378_0 := hx378_0
              cases e378
              replace hx378_0 := q_x HB.out hx378_0
              replace hx378_1 := q_x HB.out hx378_1
              replace hx378_2 := q_x HB.out hx378_2
              replace hx378_3 := q_x HB.out hx378_3
              replace p378 := eq_true p378
              replace q378 := eq_true q378
              refine start_ (n := 10) (S := fun w' => w'.cell? ⟨gb370, 0, none⟩ = some (.int .i64 0) ∧ w'.cell? ⟨gb370, 1, none⟩ = some (u371001) ∧ w'.cell? (ad378.add ((t377).toNat * 4)) = some (.string ((rd_T49 l0 t377).f0)) ∧ w'.cell? ⟨(ad378.add ((t377).toNat * 4)).block, (ad378.add ((t377).toNat * 4)).off + 1, none⟩ = some (.int .i64 ((rd_T49 l0 t377).f1)) ∧ w'.cell? ⟨(ad378.add ((t377).toNat * 4)).block, (ad378.add ((t377).toNat * 4)).off + 2, none⟩ = some (.string ((rd_T49 l0 t377).f2)) ∧ w'.cell? ⟨(ad378.add ((t377).toNat * 4)).block, (ad378.add ((t377).toNat * 4)).off + 3, none⟩ = some (.bool ((rd_T49 l0 t377).f3))) (ds := [9]) #[false, false, false, false, false, false, false, false, false, false] (by kernel_rfl) rfl rfl ⟨q_z BK370.out 0, q_z BK370.out 1, ((HB.out.cell (World.block_lt_of_cell? w _ hw378_0)).trans hw378_0), ((HB.out.cell (World.block_lt_of_cell? w _ hw378_1)).trans hw378_1), ((HB.out.cell (World.block_lt_of_cell? w _ hw378_2)).trans hw378_2), ((HB.out.cell (World.block_lt_of_cell? w _ hw378_3)).trans hw378_3)⟩ (fun hHeld => ?_); refine with_tabW spec_ScanTable.tab12 spec_ScanTable.bits12 (fun HT_ HW_ => ?_)
              generalize wc.drew = w28 at HO_9 HO_371001 BK368 BK370 HB hx378_0 hx378_1 hx378_2 hx378_3 hHeld ⊢
              refine q_p 0 (some 55) #[true, false, false, false, false, false, false, false, false, false] HT_.out ?_
              refine q_p 2 (some 57) #[true, false, true, false, false, false, false, false, false, false] HT_.out ?_
              refine q_p 3 (some 58) #[true, false, true, true, false, false, false, false, false, false] HT_.out ?_
              refine q_p 4 (some 59) #[true, false, true, true, true, false, false, false, false, false] HT_.out ?_
              refine q_t 1 (some 56) #[true, true, true, true, true, false, false, false, false, false] HT_.out HW_.out hHeld ?_
              refine q_t 5 (some 60) #[true, true, true, true, true, true, false, false, false, false] HT_.out HW_.out hHeld ?_
              refine one_ (i := 6) (N := some 61) #[true, true, true, true, true, true, true, false, false, false] rfl rfl (one_of HT_.out (by kernel_rfl)) (by decide) (fun K hK => ?_)
              refine value_ (w1 := ?_) (v := ?_) (by rfl) rfl ?_ ?_
              rotate_left 2
              ·go_simp
               constructor
               ·rfl
               ·rfl
              refine hK.out _ _ ⟨(blk_cell (blk_alloc BK370.out _) 0).trans rfl, (blk_cell (blk_alloc BK370.out _) 1).trans rfl, (World.cell?_alloc_lt _ _ _ (World.block_lt_of_cell? _ _ (((HB.out.cell (World.block_lt_of_cell? w _ hw378_0)).trans hw378_0)))).trans (((HB.out.cell (World.block_lt_of_cell? w _ hw378_0)).trans hw378_0)), (World.cell?_alloc_lt _ _ _ (World.block_lt_of_cell? _ _ (((HB.out.cell (World.block_lt_of_cell? w _ hw378_1)).trans hw378_1)))).trans (((HB.out.cell (World.block_lt_of_cell? w _ hw378_1)).trans hw378_1)), (World.cell?_alloc_lt _ _ _ (World.block_lt_of_cell? _ _ (((HB.out.cell (World.block_lt_of_cell? w _ hw378_2)).trans hw378_2)))).trans (((HB.out.cell (World.block_lt_of_cell? w _ hw378_2)).trans hw378_2)), (World.cell?_alloc_lt _ _ _ (World.block_lt_of_cell? _ _ (((HB.out.cell (World.block_lt_of_cell? w _ hw378_3)).trans hw378_3)))).trans (((HB.out.cell (World.block_lt_of_cell? w _ hw378_3)).trans hw378_3))⟩ (fun hHeld => ?_)
              clear hK K
              refine norm_ (a' := ?_) ?_ ?_
              rotate_left
              ·show Act.put _ (some 61) _ = _
               simp only [Act.put, List.setIfInBounds_toArray, List.set_cons_zero, List.set_cons_succ, i64_w, i32_w]
               rfl
              refine one_ (i := 7) (N := some 62) #[true, true, true, true, true, true, true, true, false, false] rfl rfl (one_of HT_.out (by kernel_rfl)) (by decide) (fun K hK => ?_)
              refine Kd.R_append_step k49 (w0 := w) w.heap.size (by rfl) (.tmp 56) (.tmp 61) 25 49 (.agg #[(.string ⟨#[]⟩), (.int .i64 0), (.string ⟨#[]⟩), (.bool false)]) 48 rfl Try.underlying25 info49 rfl (by decide) (by omega) u371001 x371001_1 (⟨(rd_T49 l0 t377).f0, (rd_T49 l0 t377).f1, (rd_T49 l0 t377).f2, (rd_T49 l0 t377).f3⟩ : S49) [.string ((rd_T49 l0 t377).f0), .int .i64 ((rd_T49 l0 t377).f1), .string ((rd_T49 l0 t377).f2), .bool ((rd_T49 l0 t377).f3)] (fun _ => True) (fun _ => False) rfl rfl ?aP (fun _ hk => hk.elim) ?aF ?aO ?aB ?aS ?aL ?_
              (case aP => exact k49_mkM _ _ _ (⟨(rd_T49 l0 t377).f0, (rd_T49 l0 t377).f1, (rd_T49 l0 t377).f2, (rd_T49 l0 t377).f3⟩ : S49))
              (case aB => exact bq)
              (case aF => exact (fun _ _ => trivial))
              (case aO => exact (q_r (HO_371001.out)))
              (case aS => exact (below_size bq))
              (case aL => have := LMc27.out; omega)
              intro v380 w29 ho hb hg hat
              rw [← Ny379.out] at ho
              have n0_ := Aside0.mk (Kd.R_over' (q_r (HO_9.out)) (Kd.R_typed (q_r (HO_371001.out))) (by decide) hg)
              have n1_ := Aside0.mk (blk_grown (q_b BK368.out) hg (Kd.R_ne HO_371001.out BK368.out (by decide)))
              have n2_ := Aside0.mk (blk_grown (q_b BK370.out) hg (Kd.R_ne HO_371001.out BK370.out (by decide)))
              have n3_ := Aside0.mk (hb)
              have n4_ := Aside0.mk (ho)
              clear HO_9
              clear BK368
              clear BK370
              clear HB
              clear HO_371001
              have HO_9 := n0_
              have BK368 := n1_
              have BK370 := n2_
              have HB := n3_
              have HO381 := n4_
              clear n0_ n1_ n2_ n3_ n4_
              clear ho hb hg hat
              obtain ⟨Ao30, co30, eo30⟩ := Kd.R_slice HO381.out
              (first | subst eo30 | (injection eo30 with f1_ f2_ f3_; have f4_ := f1_.symm; have f5_ := f3_.symm; clear f1_ f2_ f3_; subst f4_; subst f5_))
              refine hK.out _ _ ⟨q_z BK370.out 0, q_z BK370.out 1, ((HB.out.cell (World.block_lt_of_cell? w _ hw378_0)).trans hw378_0), ((HB.out.cell (World.block_lt_of_cell? w _ hw378_1)).trans hw378_1), ((HB.out.cell (World.block_lt_of_cell? w _ hw378_2)).trans hw378_2), ((HB.out.cell (World.block_lt_of_cell? w _ hw378_3)).trans hw378_3)⟩ (fun hHeld => ?_)
              clear hK K
              refine norm_ (a' := ?_) ?_ ?_
              rotate_left
              ·show Act.put _ (some 62) _ = _
               simp only [Act.put, List.setIfInBounds_toArray, List.set_cons_zero, List.set_cons_succ, i64_w, i32_w]
               rfl
              refine q_p 8 (some 63) #[true, true, true, true, true, true, true, true, true, false] HT_.out ?_
              refine last_ (i := 9) (N := none) #[true, true, true, true, true, true, true, true, true, true] rfl rfl (one_of HT_.out (by kernel_rfl)) (by decide) (fun K hK => ?_)
              have hs31 : w29.cell? ⟨gb370, 1, none⟩ = some (u371001) := (blk_cell BK370.out 1).trans rfl
              have hfs31 := blk_frozen BK370.out 1
              have hns31_0 := NB368_370.out
              have hms31_0 := NB370_368.out
              refine skip_ (w1 := ?_) (by rfl) rfl ?_ ?_
              rotate_left
              ·go_simp
               rfl
              refine hK.out _ _ ?_
              clear hK K
              refine done_ (done_of HT_.out (by kernel_rfl)) ?_
              try go_wp2
              go_roundg kj13
              case measure => have := HK1.out; have := HJ13.out; omega
              case rel => exact ⟨(wrap64 (x10_1 + 1)), (y379), (.slice Ao30 y379.length co30), q_i, H', ⟨by have := HK1.out; have := HJ13.out; omega⟩, ⟨by (with_reducible repeat (first | apply Kd.R_alloc | apply Kd.R_drewN | apply Kd.R_drew)); exact Kd.R_mono (Kd.R_far (p := ⟨gb370, 1, none⟩) (Kd.R_types HO_9.out BK370.out (by decide)) (fun _ hk => hk.2) (.slice Ao30 y379.length co30)) (fun _ hk => trivial)⟩, ⟨by (with_reducible repeat (first | apply Kd.R_alloc | apply Kd.R_drewN | apply Kd.R_drew)); exact Kd.R_mono (Kd.R_far (p := ⟨gb370, 1, none⟩) (Kd.R_types HO381.out BK370.out (by decide)) (fun _ hk => hk.2) (.slice Ao30 y379.length co30)) (fun _ hk => trivial)⟩, ⟨by (with_reducible repeat (first | refine blk_drewN ?_ _ | refine blk_drew ?_ | refine blk_alloc ?_ _)); refine blk_far ?_ NB368_370.out _; (with_reducible repeat (first | refine blk_drewN ?_ _ | refine blk_drew ?_ | refine blk_alloc ?_ _)); exact BK368.out⟩, ⟨by (with_reducible repeat (first | refine blk_drewN ?_ _ | refine blk_drew ?_ | refine blk_alloc ?_ _)); refine blk_put (cs := #[.int .i64 0, u371001]) ?_ 1 _ rfl; (with_reducible repeat (first | refine blk_drewN ?_ _ | refine blk_drew ?_ | refine blk_alloc ?_ _)); exact BK370.out⟩, ⟨bq⟩⟩
             ·rw [if_neg c27] at H
              exact absurd H (by simp)
            ·rw [if_neg c26] at H
             exact absurd H (by simp)
           ·rw [if_neg c25] at H
            exact absurd H (by simp)
          ·rw [if_neg c24] at H
           have c24b0 := decide_eq_false c24
           clear c24
           have H' := Aside0.mk H
           clear H
           have p376 : 0 ≤ (x10_1 : Int) := q_d
           have q376 : x10_1 < (t371.length : Int) := q_d
           obtain ⟨ad376, e376, hx376_0⟩ := Kd.at_string (Kd.R_reads' HO_9.out).2.2 x10_1 p376 q376
           cases e376
           replace p376 := eq_true p376
           replace q376 := eq_true q376
           go_wp2_with (first | ((with_reducible refine gate_callee (f := 79) rfl ?_); refine goesLq (some 52) rfl rfl Try.func79 (by kernel_rfl) rfl #[.slice A0 l0.length c0, .string (rdOf ByteArray.empty t371 x10_1), .int .i64 a2] rfl ?_; (with_reducible refine (spec_l5Get.calls kj13 _ _ l0 (rdOf ByteArray.empty t371 x10_1) a2 t377 _ ?side1 ?side2 A23.out).mono ?_); (case side1 => exact q_c ((Kd.C_below HR0.out HB.out))); (case side2 => exact HC0.out); rintro e w' ⟨rfl, ⟨nd, rfl⟩⟩; refine ⟨_, rfl, ?_⟩))
           go_roundg kj13
           case measure => have := HK1.out; have := HJ13.out; omega
           case rel => exact ⟨(wrap64 (x10_1 + 1)), (x371001_1), (u371001), q_i, H', ⟨by have := HK1.out; have := HJ13.out; omega⟩, ⟨q_r (HO_9.out)⟩, ⟨q_r (HO_371001.out)⟩, ⟨q_b BK368.out⟩, ⟨q_b BK370.out⟩, ⟨bq⟩⟩
         ·rw [if_neg c22] at H
          exact absurd H (by simp)
        ·rw [if_neg c21] at H
         exact absurd H (by simp)
    ·rw [if_neg c13] at H
     have c13b0 := decide_eq_false c13
     clear c13
     simp only [Option.some.injEq, Prod.mk.injEq] at H
     obtain ⟨rfl, rfl⟩ := H
     obtain ⟨Ao32, co32, eo32⟩ := Kd.R_slice HO_9.out
     subst eo32
     have hnb33 := NB370_368.out
     have hnc33 := NB368_370.out
     obtain ⟨hcz34_0, hcz34_1, hfz34_0, hfz34_1⟩ := q_2 BK370.out
     obtain ⟨hcz35_0, hcz35_1, hfz35_0, hfz35_1⟩ := q_2 BK368.out
     obtain ⟨Ao36, co36, eo36⟩ := Kd.R_slice HO_371001.out
     subst eo36
     go_wp2
     refine bodyPost_ret (results_cell_row rfl _ _ gb368 46 #[.int .i64 0, .slice Ao36 x371001_1.length co36] (0, 0) _ rfl (by (with_reducible repeat (first | refine blk_drewN ?_ _ | refine blk_drew ?_ | refine blk_alloc ?_ _)); refine blk_put (cs := #[.int .i64 0, .slice none 0 0]) ?_ 1 _ rfl; (with_reducible repeat (first | refine blk_drewN ?_ _ | refine blk_drew ?_ | refine blk_alloc ?_ _)); refine blk_put (cs := #[.int .i64 0, .slice none 0 0]) ?_ 0 _ rfl; (with_reducible repeat (first | refine blk_drewN ?_ _ | refine blk_drew ?_ | refine blk_alloc ?_ _)); exact BK368.out) Try.underlying46 rfl (by kernel_rfl)) rfl ?_
     exact ⟨_, q_e, by (with_reducible repeat (first | apply Kd.R_alloc | apply Kd.R_drewN | apply Kd.R_drew)); exact Kd.R_mono (Kd.R_far (p := ⟨gb368, 1, none⟩) (Kd.R_far (p := ⟨gb368, 0, none⟩) (Kd.R_types HO_371001.out BK368.out (by decide)) (fun _ hk => hk.2) (.int .i64 0)) (fun _ hk => hk.2) (.slice Ao36 x371001_1.length co36)) (fun _ hk => trivial), bq⟩
 ·rw [if_neg c5] at H
  have c5b0 : (t369 == 0) = false := beq_eq_false_iff_ne.mpr c5
  have c5b1 : (t369 != 0) = true := bne_iff_ne.mpr c5
  simp only [Option.some.injEq, Prod.mk.injEq] at H
  obtain ⟨rfl, rfl⟩ := H
  go_enter Try.func49, Try.ntmps49
  go_wp2_with (first | ((with_reducible refine gate_dst (N := 6) rfl ?_); (try (refine gate_guard (by rfl) ?_; dsimp only)); refine q_box (N := 6) (cs := #[.int .i64 0, .slice none 0 0]) (t := 46) ?_; intro gb368 hg w37 hbox hb; have n0_ := Aside0.mk (below_step bq hb); have n1_ := Aside0.mk (hbox); have n2_ := Aside0.mk ((q_g hg bq : w.heap.size ≤ gb368)); have n3_ := Aside0.mk ((q_g hg bq : w.heap.size ≤ gb368)); revert n0_ n1_ n2_ n3_; clear HB; intro HB BK368 GW368 GE368; clear hb hbox hg) | ((with_reducible refine gate_callee (f := 16) rfl ?_); refine goesLq (some 13) rfl rfl Try.func16 (by kernel_rfl) rfl #[.slice A0 l0.length c0] rfl ?_; (with_reducible refine (spec_TableFault.calls k _ _ l0 t369 _ ?side1 ?side2 A4.out).mono ?_); (case side1 => exact q_c ((Kd.C_below HR0.out HB.out))); (case side2 => exact HC0.out); rintro e w38 ⟨rfl, hb⟩; refine ⟨_, rfl, ?_⟩; have n0_ := Aside0.mk (blk_below (q_b BK368.out) hb); have n1_ := Aside0.mk (below_step bq hb); revert n0_ n1_; clear BK368 HB; intro BK368 HB; (try clear hb); (try clear hb2); (try clear hk); (try clear hi); obtain ⟨hcz39_0, hcz39_1, hfz39_0, hfz39_1⟩ := q_2 BK368.out))
  refine bodyPost_ret (results_cell_row rfl _ _ gb368 46 #[.int .i64 t369, .slice none 0 0] (0, 0) _ rfl (by (with_reducible repeat (first | refine blk_drewN ?_ _ | refine blk_drew ?_ | refine blk_alloc ?_ _)); refine blk_put (cs := #[.int .i64 t369, .slice none 0 0]) ?_ 1 _ rfl; (with_reducible repeat (first | refine blk_drewN ?_ _ | refine blk_drew ?_ | refine blk_alloc ?_ _)); refine blk_put (cs := #[.int .i64 0, .slice none 0 0]) ?_ 0 _ rfl; (with_reducible repeat (first | refine blk_drewN ?_ _ | refine blk_drew ?_ | refine blk_alloc ?_ _)); exact BK368.out) Try.underlying46 rfl (by kernel_rfl)) rfl ?_
  exact ⟨_, q_e, by first | exact Kd.R_nil _ _ _ _ _ | exact Kd.N_nil _ _ _ _ _ | exact Kd.V_nil _ _ _ _ _ | exact Kd.Q_nil _ _ _ _ _ | exact Kd.S_nil _ _ _ _ _, bq⟩

end Go.Proofs.Ytdhlcnlcpjlliaa.PFnScans
