/- The functions that a law reaches, each as a plain Lean function with the proof that the machine comes to its answer: written by program (the kit's print, turned by wip/gen). No conditions. -/
import Derived.Test.YtanegggacfmkcaaPFnExactSettleOnex0
import Derived.Test.YtanegggacfmkcaaPFnExactSettleOnex13
import Derived.Test.YtanegggacfmkcaaPFnExactSettleOnex14
namespace Go.Proofs.Ytanegggacfmkcaa.PFnExactSettleOne
open Go.RowKit Go.Proofs.YtanegggacfmkcaaW.PrintWords Go.Proofs.YtanegggacfmkcaaW.PrintLast Go.Proofs.YtanegggacfmkcaaW.PrintMore
attribute [local go_sem] max2_int min2_int max_two min_two max_three min_three max_four min_four   -- for this text's walks alone
set_option linter.unusedVariables false
set_option linter.unusedSimpArgs false

/-! ### spec_l1Legs: function 104 -/
def spec_l1Legs.l0 : Nat → Int → List (S86) → Int → Int → List (S86) → Option ((List (S86)))
  | 0, _, _, _, _, _ => none
  | k + 1, x1, x5, x6, x331000, x331001 => if x6 < (x331001.length : Int) then (if 0 ≤ x6 then (if ((rd_T86 x331001 x6).f0) = x1 then (if x5.length < 4398046511104 then (spec_l1Legs.l0 k x1 (x5 ++ [(⟨(rd_T86 x331001 x6).f0, (rd_T86 x331001 x6).f1, (rd_T86 x331001 x6).f2, (rd_T86 x331001 x6).f3⟩ : S86)]) (wrap64 (x6 + 1)) x331000 x331001) else (none)) else (spec_l1Legs.l0 k x1 x5 (wrap64 (x6 + 1)) x331000 x331001)) else (none)) else (some x5)
def spec_l1Legs.f (k : Nat) (a0_0 : Int) (l0_1 : List (S86)) (a1 : Int) : Option ((List (S86))) := spec_l1Legs.l0 k a1 (([] : List (S86))) 0 a0_0 l0_1
set_option maxHeartbeats 8000000 in
set_option maxRecDepth 100000 in
theorem spec_l1Legs.calls (k : Nat) (a0_0 : Int) (A0_1 : Option Addr) (c0_1 : Nat) (l0_1 : List (S86)) (a1 : Int) (r : List (S86)) (w : World) (hr0_1 : Kd.C k86 w A0_1 l0_1.length l0_1) (hc0_1 : l0_1.length ≤ c0_1) (h : spec_l1Legs.f k a0_0 l0_1 a1 = some r) :
  Calls Try.prog 104 #[.agg #[.int .i64 a0_0, .slice A0_1 l0_1.length c0_1], .int .i64 a1] w fun e w' => ∃ v0_ : Value, e = .returned (v0_) ∧ Kd.R k86 86 w' w.heap.size (fun _ => True) v0_ r ∧ Below w.heap.size w w' := by
 have hu40 := Try.underlying40
 have hu86 := Try.underlying86
 have HR0_1 := Aside0.mk hr0_1
 have HC0_1 := Aside0.mk hc0_1
 clear hr0_1 hc0_1
 have HB := Aside0.mk (Below.refl w.heap.size w)
 have H : (spec_l1Legs.l0 k a1 (([] : List (S86))) 0 a0_0 l0_1) = some r := h
 clear h
 obtain ⟨y331, hy331⟩ : ∃ y_ : List (S86), y_ = (([] : List (S86))) := ⟨_, rfl⟩
 replace H : (spec_l1Legs.l0 k a1 y331 0 a0_0 l0_1) = some r := q_h hy331 H
 have Ny331 := Aside0.mk hy331
 clear hy331
 have H' := Aside0.mk H
 clear H
 go_enter Try.func104, Try.ntmps104
 go_wp2_with (first | ((with_reducible refine gate_dst (N := 2) rfl ?_); refine q_box (N := 2) (cs := #[.int .i64 a0_0, .slice A0_1 l0_1.length c0_1]) (t := 40) ?_; intro gb330 hg w3 hbox hb; have n0_ := Aside0.mk (below_step bq hb); have n1_ := Aside0.mk (hbox); have n2_ := Aside0.mk ((q_g hg bq : w.heap.size ≤ gb330)); have n3_ := Aside0.mk ((q_g hg bq : w.heap.size ≤ gb330)); revert n0_ n1_ n2_ n3_; clear HB; intro HB BK330 GW330 GE330; clear hb hbox hg) | ((with_reducible refine gate_dst (N := 7) rfl ?_); refine Kd.R_lit k86 _ 86 ?hg (N := 7) ?hd (xs := ([] : List (S86))) (inner := []) (ok := fun _ => True) (okp := fun _ => True) ?hr ?hp (fun _ hk => hk) trivial (Below.refl _ _) (Nat.le_refl _) (by simp) ?_; (case hd => rfl); (case hg => rfl); (case hr => first | (go_simp; done) | (go_simp; rfl)); (case hp => exact (Reps.none _ _)); intro v332 w4 ho5 hb hg_ hnew_; clear hg_ hnew_; (first | rw [← Ny331.out] at ho5 | (simp only [Int.reduceToNat] at ho5; rw [← Ny331.out] at ho5)); have n0_ := Aside0.mk (Kd.R_lower ho5 (below_size bq)); have n1_ := Aside0.mk (blk_below (q_b BK330.out) hb); have n2_ := Aside0.mk (below_step bq hb); revert n0_ n1_ n2_; clear BK330 HB; intro HO333 BK330 HB; clear hb ho5))
 go_loopg [5, 6] k (fun kq v5 v6 w' => ∃ (x5_1 : List (S86)) (x6_1 : Int), v6 = .int .i64 x6_1 ∧ Aside0 (spec_l1Legs.l0 kq a1 x5_1 x6_1 a0_0 l0_1 = some r) ∧ Aside0 (kq ≤ k) ∧ Aside0 (Kd.R k86 86 w' w.heap.size (fun _ => True) v5 x5_1) ∧ Aside0 (w'.heap[gb330]? = some (.cells #[.int .i64 a0_0, (.slice A0_1 l0_1.length c0_1)] 40 (0, 0))) ∧ Aside0 (Below w.heap.size w w'))
 case atStart => exact ⟨(y331), (0), q_i, H', ⟨Nat.le_refl _⟩, ⟨q_r (HO333.out)⟩, ⟨q_b BK330.out⟩, ⟨bq⟩⟩
 case round =>
  clear H'
  (try clear c1); (try clear p2)
  obtain ⟨x5_1, x6_1, rfl, HA, HK1, HO_5, BK330, HB⟩ := hrel
  cases gk with
  | zero => exact absurd HA.out (by simp [spec_l1Legs.l0])
  | succ k1 =>
   have H := HA.out
   clear HA
   simp only [spec_l1Legs.l0] at H
   by_cases c6 : x6_1 < (l0_1.length : Int)
   ·rw [if_pos c6] at H
    have c6b0 := decide_eq_true c6
    clear c6
    by_cases c7 : 0 ≤ x6_1
    ·rw [if_pos c7] at H
     have c7b0 := decide_eq_true c7
     clear c7
     by_cases c8 : ((rd_T86 l0_1 x6_1).f0) = a1
     ·rw [if_pos c8] at H
      have c8b0 : (((rd_T86 l0_1 x6_1).f0) == a1) = true := beq_iff_eq.mpr c8
      have c8b1 : (((rd_T86 l0_1 x6_1).f0) != a1) = false := bne_eq_false_iff_eq.mpr c8
      clear c8
      by_cases c9 : x5_1.length < 4398046511104
      ·rw [if_pos c9] at H
       have LMc9 := Aside0.mk c9
       clear c9
       obtain ⟨y336, hy336⟩ : ∃ y_ : List (S86), y_ = (x5_1 ++ [(⟨(rd_T86 l0_1 x6_1).f0, (rd_T86 l0_1 x6_1).f1, (rd_T86 l0_1 x6_1).f2, (rd_T86 l0_1 x6_1).f3⟩ : S86)]) := ⟨_, rfl⟩
       replace H : (spec_l1Legs.l0 k1 a1 y336 (wrap64 (x6_1 + 1)) a0_0 l0_1) = some r := q_h hy336 H
       have Ny336 := Aside0.mk hy336
       clear hy336
       have H' := Aside0.mk H
       clear H
       obtain ⟨hcz10_0, hcz10_1, hfz10_0, hfz10_1⟩ := q_2 BK330.out
       have p334 : 0 ≤ (x6_1 : Int) := q_d
       have q334 : x6_1 < (l0_1.length : Int) := q_d
       obtain ⟨ad334, e334, hx334_0, hx334_1, hx334_2, hx334_3⟩ := at_T86 HR0_1.out x6_1 p334 q334
       cases e334
       replace hx334_0 := q_x HB.out hx334_0
       replace hx334_1 := q_x HB.out hx334_1
       replace hx334_2 := q_x HB.out hx334_2
       replace hx334_3 := q_x HB.out hx334_3
       replace p334 := eq_true p334
       replace q334 := eq_true q334
       have p335 : 0 ≤ (x6_1 : Int) := q_d
       have q335 : x6_1 < (l0_1.length : Int) := q_d
       obtain ⟨ad335, e335, hx335_0, hx335_1, hx335_2, hx335_3⟩ := at_T86 HR0_1.out x6_1 p335 q335
       obtain rfl : ad334 = ad335 := (by injection e335)
       replace hx335_0 := q_x HB.out hx335_0
       replace hx335_1 := q_x HB.out hx335_1
       replace hx335_2 := q_x HB.out hx335_2
       replace hx335_3 := q_x HB.out hx335_3
       replace p335 := eq_true p335
       replace q335 := eq_true q335
       go_wp2_with (first | ((with_reducible refine gate_builtin (b := .append) (xs := #[.tmp 23, .tmp 29]) rfl ?_); at_builtin; refine Kd.R_append k86 (w0 := w) w.heap.size rfl (.tmp 23) (.tmp 29) 38 86 (.agg #[(.int .i64 0), (.int .i64 0), (.int .i64 0), (.int .i64 0)]) 32 rfl Try.underlying38 info86 rfl (by decide) (by omega) u5 x5_1 (⟨(rd_T86 l0_1 x6_1).f0, (rd_T86 l0_1 x6_1).f1, (rd_T86 l0_1 x6_1).f2, (rd_T86 l0_1 x6_1).f3⟩ : S86) [.int .i64 ((rd_T86 l0_1 x6_1).f0), .int .i64 ((rd_T86 l0_1 x6_1).f1), .int .i64 ((rd_T86 l0_1 x6_1).f2), .int .i64 ((rd_T86 l0_1 x6_1).f3)] (fun _ => True) (fun _ => False) rfl rfl ?aP (fun _ hk => hk.elim) ?aF ?aO ?aB ?aS ?aL ?_; (case aP => exact k86_mkM _ _ _ (⟨(rd_T86 l0_1 x6_1).f0, (rd_T86 l0_1 x6_1).f1, (rd_T86 l0_1 x6_1).f2, (rd_T86 l0_1 x6_1).f3⟩ : S86)); (case aB => exact bq); (case aF => exact (fun _ _ => trivial)); (case aO => exact (q_r (HO_5.out))); (case aS => exact (below_size bq)); (case aL => have := LMc9.out; omega); intro v337 w11 ho hb hg hat; rw [← Ny336.out] at ho; have n0_ := Aside0.mk (blk_grown (q_b BK330.out) hg (Kd.R_ne HO_5.out BK330.out (by decide))); have n1_ := Aside0.mk (hb); have n2_ := Aside0.mk (ho); revert n0_ n1_ n2_; clear BK330 HB HO_5; intro BK330 HB HO338; clear ho hb hg hat))
       go_roundg k1
       case measure => have := HK1.out; omega
       case rel => exact ⟨(y336), (wrap64 (x6_1 + 1)), q_i, H', ⟨by have := HK1.out; omega⟩, ⟨q_r (HO338.out)⟩, ⟨q_b BK330.out⟩, ⟨bq⟩⟩
      ·rw [if_neg c9] at H
       exact absurd H (by simp)
     ·rw [if_neg c8] at H
      have c8b0 : (((rd_T86 l0_1 x6_1).f0) == a1) = false := beq_eq_false_iff_ne.mpr c8
      have c8b1 : (((rd_T86 l0_1 x6_1).f0) != a1) = true := bne_iff_ne.mpr c8
      have H' := Aside0.mk H
      clear H
      obtain ⟨hcz12_0, hcz12_1, hfz12_0, hfz12_1⟩ := q_2 BK330.out
      have p334 : 0 ≤ (x6_1 : Int) := q_d
      have q334 : x6_1 < (l0_1.length : Int) := q_d
      obtain ⟨ad334, e334, hx334_0, hx334_1, hx334_2, hx334_3⟩ := at_T86 HR0_1.out x6_1 p334 q334
      cases e334
      replace hx334_0 := q_x HB.out hx334_0
      replace hx334_1 := q_x HB.out hx334_1
      replace hx334_2 := q_x HB.out hx334_2
      replace hx334_3 := q_x HB.out hx334_3
      replace p334 := eq_true p334
      replace q334 := eq_true q334
      go_wp2
      go_roundg k1
      case measure => have := HK1.out; omega
      case rel => exact ⟨(x5_1), (wrap64 (x6_1 + 1)), q_i, H', ⟨by have := HK1.out; omega⟩, ⟨q_r (HO_5.out)⟩, ⟨q_b BK330.out⟩, ⟨bq⟩⟩
    ·rw [if_neg c7] at H
     exact absurd H (by simp)
   ·rw [if_neg c6] at H
    have c6b0 := decide_eq_false c6
    clear c6
    obtain rfl := Option.some.inj H
    obtain ⟨hcz13_0, hcz13_1, hfz13_0, hfz13_1⟩ := q_2 BK330.out
    go_wp2
    go_ret
    exact ⟨_, q_e, q_r (HO_5.out), bq⟩

/-! ### spec_l2Settle: function 63 -/
def spec_l2Settle.l0 : Nat → Int → List (List (S104)) → Int → List (S86) → List (List (S104)) → Option ((List (List (S104))))
  | 0, _, _, _, _, _ => none
  | k + 1, x6, x340000, x341000, x341001, x343000 => if x6 < (x340000.length : Int) then (if 0 ≤ x6 then ((spec_l1Legs.f k x341000 x341001 x6).bind fun t344 => ((spec_l2Add.f k (rd_L2 x340000 x6) t344).bind fun t347 => (if x343000.length < 5864062014805 then (spec_l2Settle.l0 k (wrap64 (x6 + 1)) x340000 x341000 x341001 (x343000 ++ [t347])) else (none)))) else (none)) else (some x343000)
def spec_l2Settle.f (k : Nat) (l0_0 : List (List (S104))) (a1_0 : Int) (l1_1 : List (S86)) : Option ((List (List (S104)))) := spec_l2Settle.l0 k 0 l0_0 a1_0 l1_1 ([] : List (List (S104)))
def spec_l2Settle.T5 : Bool × List (List Nat × List Nat) := (true, [([], []), ([0], [0]), ([], []), ([2], [2]), ([], []), ([3, 4], [3, 4]), ([5], [5]), ([], []), ([], []), ([7, 8], [7, 8]), ([6, 9, 9], [6, 9]), ([10], [10]), ([1, 11, 10], [1, 11]), ([0, 1, 2, 3, 4, 5, 6, 7, 8, 9, 10, 11, 12], []), ([13, 12, 12, 0, 1, 2, 3, 4, 5, 6, 7, 8, 9, 10, 11, 12], [12, 13])])
def spec_l2Settle.B5 : List Nat := [0, 1, 0, 4, 0, 28, 60, 0, 0, 384, 1020, 2044, 4095, 8191, 16383]
theorem spec_l2Settle.tab5 : rtab .any (opsOf Try.f63 5) = spec_l2Settle.T5 := by kernel_rfl
theorem spec_l2Settle.bits5 : waitsOk spec_l2Settle.T5.2 spec_l2Settle.B5 = true := by kernel_rfl
set_option maxHeartbeats 8000000 in
set_option maxRecDepth 100000 in
theorem spec_l2Settle.calls (k : Nat) (A0_0 : Option Addr) (c0_0 : Nat) (l0_0 : List (List (S104))) (a1_0 : Int) (A1_1 : Option Addr) (c1_1 : Nat) (l1_1 : List (S86)) (r : List (List (S104))) (w : World) (hr0_0 : Kd.C (Kd.slice 104 k104) w A0_0 l0_0.length l0_0) (hc0_0 : l0_0.length ≤ c0_0) (hr1_1 : Kd.C k86 w A1_1 l1_1.length l1_1) (hc1_1 : l1_1.length ≤ c1_1) (h : spec_l2Settle.f k l0_0 a1_0 l1_1 = some r) :
  Calls Try.prog 63 #[.agg #[.slice A0_0 l0_0.length c0_0], .agg #[.int .i64 a1_0, .slice A1_1 l1_1.length c1_1]] w fun e w' => ∃ v0_ : Value, e = .returned (.agg #[v0_]) ∧ Kd.S (Kd.slice 104 k104) 64 w' w.heap.size (fun _ => True) v0_ r ∧ Below w.heap.size w w' := by
 have hu26 := Try.underlying26
 have hu40 := Try.underlying40
 have HR0_0 := Aside0.mk hr0_0
 have HC0_0 := Aside0.mk hc0_0
 clear hr0_0 hc0_0
 have HR1_1 := Aside0.mk hr1_1
 have HC1_1 := Aside0.mk hc1_1
 clear hr1_1 hc1_1
 have HB := Aside0.mk (Below.refl w.heap.size w)
 have H : (spec_l2Settle.l0 k 0 l0_0 a1_0 l1_1 ([] : List (List (S104)))) = some r := h
 clear h
 have H' := Aside0.mk H
 clear H
 go_enter Try.func63, Try.ntmps63
 go_wp2_with (first | ((with_reducible refine gate_dst (N := 2) rfl ?_); refine q_box (N := 2) (cs := #[.slice A0_0 l0_0.length c0_0]) (t := 26) ?_; intro gb339 hg w3 hbox hb; have n0_ := Aside0.mk (below_step bq hb); have n1_ := Aside0.mk (hbox); have n2_ := Aside0.mk ((q_g hg bq : w.heap.size ≤ gb339)); have n3_ := Aside0.mk ((q_g hg bq : w.heap.size ≤ gb339)); revert n0_ n1_ n2_ n3_; clear HB; intro HB BK339 GW339 GE339; clear hb hbox hg) | ((with_reducible refine gate_dst (N := 3) rfl ?_); refine q_box (N := 3) (cs := #[.int .i64 a1_0, .slice A1_1 l1_1.length c1_1]) (t := 40) ?_; intro gb340 hg w4 hbox hb; have n0_ := Aside0.mk (blk_below (q_b BK339.out) hb); have n1_ := Aside0.mk (below_step bq hb); have n2_ := Aside0.mk (hbox); have n3_ := Aside0.mk ((q_g hg bq : w.heap.size ≤ gb340)); have n4_ := Aside0.mk ((q_g hg bq : w.heap.size ≤ gb340)); have n5_ := Aside0.mk ((q_n hg (q_b BK339.out) : gb339 ≠ gb340)); have n6_ := Aside0.mk ((q_m hg (q_b BK339.out) : gb340 ≠ gb339)); revert n0_ n1_ n2_ n3_ n4_ n5_ n6_; clear BK339 HB; intro BK339 HB BK340 GW340 GE340 NB339_340 NB340_339; clear hb hbox hg) | ((with_reducible refine gate_dst (N := 4) rfl ?_); refine q_box (N := 4) (cs := #[.slice none 0 0]) (t := 26) ?_; intro gb341 hg w5 hbox hb; have n0_ := Aside0.mk (blk_below (q_b BK339.out) hb); have n1_ := Aside0.mk (blk_below (q_b BK340.out) hb); have n2_ := Aside0.mk (below_step bq hb); have n3_ := Aside0.mk (hbox); have n4_ := Aside0.mk ((q_g hg bq : w.heap.size ≤ gb341)); have n5_ := Aside0.mk ((q_g hg bq : w.heap.size ≤ gb341)); have n6_ := Aside0.mk ((q_n hg (q_b BK339.out) : gb339 ≠ gb341)); have n7_ := Aside0.mk ((q_m hg (q_b BK339.out) : gb341 ≠ gb339)); have n8_ := Aside0.mk ((q_n hg (q_b BK340.out) : gb340 ≠ gb341)); have n9_ := Aside0.mk ((q_m hg (q_b BK340.out) : gb341 ≠ gb340)); revert n0_ n1_ n2_ n3_ n4_ n5_ n6_ n7_ n8_ n9_; clear BK339 BK340 HB; intro BK339 BK340 HB BK341 GW341 GE341 NB339_341 NB341_339 NB340_341 NB341_340; clear hb hbox hg) | ((with_reducible refine gate_dst (N := 5) rfl ?_); refine q_box (N := 5) (cs := #[.slice none 0 0]) (t := 26) ?_; intro gb342 hg w6 hbox hb; have n0_ := Aside0.mk (blk_below (q_b BK339.out) hb); have n1_ := Aside0.mk (blk_below (q_b BK340.out) hb); have n2_ := Aside0.mk (blk_below (q_b BK341.out) hb); have n3_ := Aside0.mk (below_step bq hb); have n4_ := Aside0.mk (hbox); have n5_ := Aside0.mk ((q_g hg bq : w.heap.size ≤ gb342)); have n6_ := Aside0.mk ((q_g hg bq : w.heap.size ≤ gb342)); have n7_ := Aside0.mk ((q_n hg (q_b BK339.out) : gb339 ≠ gb342)); have n8_ := Aside0.mk ((q_m hg (q_b BK339.out) : gb342 ≠ gb339)); have n9_ := Aside0.mk ((q_n hg (q_b BK340.out) : gb340 ≠ gb342)); have n10_ := Aside0.mk ((q_m hg (q_b BK340.out) : gb342 ≠ gb340)); have n11_ := Aside0.mk ((q_n hg (q_b BK341.out) : gb341 ≠ gb342)); have n12_ := Aside0.mk ((q_m hg (q_b BK341.out) : gb342 ≠ gb341)); revert n0_ n1_ n2_ n3_ n4_ n5_ n6_ n7_ n8_ n9_ n10_ n11_ n12_; clear BK339 BK340 BK341 HB; intro BK339 BK340 BK341 HB BK342 GW342 GE342 NB339_342 NB342_339 NB340_342 NB342_340 NB341_342 NB342_341; clear hb hbox hg; have hnb7 := NB342_339.out; have hnc7 := NB339_342.out; have hnb8 := NB342_340.out; have hnc8 := NB340_342.out; have hnb9 := NB342_341.out; have hnc9 := NB341_342.out; obtain ⟨hcz10_0, hfz10_0⟩ := q_1 BK342.out))
 go_loopg [6] k (fun kq v6 w' => ∃ (x6_1 : Int) (x343000_1 : List (List (S104))) (u343000 : Value), v6 = .int .i64 x6_1 ∧ Aside0 (spec_l2Settle.l0 kq x6_1 l0_0 a1_0 l1_1 x343000_1 = some r) ∧ Aside0 (kq ≤ k) ∧ Aside0 (Kd.S (Kd.slice 104 k104) 64 w' w.heap.size (fun _ => True) u343000 x343000_1) ∧ Aside0 (w'.heap[gb339]? = some (.cells #[(.slice A0_0 l0_0.length c0_0)] 26 (0, 0))) ∧ Aside0 (w'.heap[gb340]? = some (.cells #[.int .i64 a1_0, (.slice A1_1 l1_1.length c1_1)] 40 (0, 0))) ∧ Aside0 (w'.heap[gb341]? = some (.cells #[(.slice none 0 0)] 26 (0, 0))) ∧ Aside0 (w'.heap[gb342]? = some (.cells #[u343000] 26 (0, 0))) ∧ Aside0 (Below w.heap.size w w'))
 case atStart => exact ⟨(0), (([] : List (List (S104)))), (.slice none 0 0), q_i, H', ⟨Nat.le_refl _⟩, ⟨by first | exact Kd.S_nil _ _ _ _ _ | exact Kd.N_nil _ _ _ _ _ | exact Kd.V_nil _ _ _ _ _ | exact Kd.Q_nil _ _ _ _ _ | exact Kd.R_nil _ _ _ _ _⟩, ⟨by (with_reducible repeat (first | refine blk_drewN ?_ _ | refine blk_drew ?_ | refine blk_alloc ?_ _)); refine blk_far ?_ NB339_342.out _; (with_reducible repeat (first | refine blk_drewN ?_ _ | refine blk_drew ?_ | refine blk_alloc ?_ _)); exact BK339.out⟩, ⟨by (with_reducible repeat (first | refine blk_drewN ?_ _ | refine blk_drew ?_ | refine blk_alloc ?_ _)); refine blk_far ?_ NB340_342.out _; (with_reducible repeat (first | refine blk_drewN ?_ _ | refine blk_drew ?_ | refine blk_alloc ?_ _)); exact BK340.out⟩, ⟨by (with_reducible repeat (first | refine blk_drewN ?_ _ | refine blk_drew ?_ | refine blk_alloc ?_ _)); refine blk_far ?_ NB341_342.out _; (with_reducible repeat (first | refine blk_drewN ?_ _ | refine blk_drew ?_ | refine blk_alloc ?_ _)); exact BK341.out⟩, ⟨by (with_reducible repeat (first | refine blk_drewN ?_ _ | refine blk_drew ?_ | refine blk_alloc ?_ _)); refine blk_put (cs := #[.slice none 0 0]) ?_ 0 _ rfl; (with_reducible repeat (first | refine blk_drewN ?_ _ | refine blk_drew ?_ | refine blk_alloc ?_ _)); exact BK342.out⟩, ⟨bq⟩⟩
 case round =>
  clear H'
  (try clear c1); (try clear p2); (try clear c6); (try clear c7); (try clear c8); (try clear c9); (try clear hcz10_0); (try clear hfz10_0)
  obtain ⟨x6_1, x343000_1, u343000, rfl, HA, HK1, HO_343000, BK339, BK340, BK341, BK342, HB⟩ := hrel
  cases gk with
  | zero => exact absurd HA.out (by simp [spec_l2Settle.l0])
  | succ k1 =>
   have H := HA.out
   clear HA
   simp only [spec_l2Settle.l0] at H
   by_cases c11 : x6_1 < (l0_0.length : Int)
   ·rw [if_pos c11] at H
    have c11b0 := decide_eq_true c11
    clear c11
    by_cases c12 : 0 ≤ x6_1
    ·rw [if_pos c12] at H
     have c12b0 := decide_eq_true c12
     clear c12
     replace H := Option.bind_eq_some_iff.mp H
     obtain ⟨t344, A130, H⟩ := H
     replace H : ((spec_l2Add.f k1 (rd_L2 l0_0 x6_1) t344).bind fun t347 => (if x343000_1.length < 5864062014805 then (spec_l2Settle.l0 k1 (wrap64 (x6_1 + 1)) l0_0 a1_0 l1_1 (x343000_1 ++ [t347])) else (none))) = some r := H
     have A13 := Aside0.mk A130
     clear A130
     replace H := Option.bind_eq_some_iff.mp H
     obtain ⟨t347, A140, H⟩ := H
     replace H : (if x343000_1.length < 5864062014805 then (spec_l2Settle.l0 k1 (wrap64 (x6_1 + 1)) l0_0 a1_0 l1_1 (x343000_1 ++ [t347])) else (none)) = some r := H
     have A14 := Aside0.mk A140
     clear A140
     by_cases c15 : x343000_1.length < 5864062014805
     ·rw [if_pos c15] at H
      have LMc15 := Aside0.mk c15
      clear c15
      obtain ⟨y350, hy350⟩ : ∃ y_ : List (List (S104)), y_ = (x343000_1 ++ [t347]) := ⟨_, rfl⟩
      replace H : (spec_l2Settle.l0 k1 (wrap64 (x6_1 + 1)) l0_0 a1_0 l1_1 y350) = some r := q_h hy350 H
      have Ny350 := Aside0.mk hy350
      clear hy350
      have H' := Aside0.mk H
      clear H
      have hnb16 := NB339_340.out
      have hnc16 := NB340_339.out
      have hnb17 := NB339_341.out
      have hnc17 := NB341_339.out
      have hnb18 := NB339_342.out
      have hnc18 := NB342_339.out
      obtain ⟨hcz19_0, hfz19_0⟩ := q_1 BK339.out
      try go_wp2
      have n0_ := Aside0.mk (Kd.S_drew HO_343000.out)
      have n1_ := Aside0.mk (blk_drew BK339.out)
      have n2_ := Aside0.mk (blk_drew BK340.out)
      have n3_ := Aside0.mk (blk_drew BK341.out)
      have n4_ := Aside0.mk (blk_drew BK342.out)
      have n5_ := Aside0.mk (below_drew1 HB.out)
      clear HO_343000
      clear BK339
      clear BK340
      clear BK341
      clear BK342
      clear HB
      have HO_343000 := n0_
      have BK339 := n1_
      have BK340 := n2_
      have BK341 := n3_
      have BK342 := n4_
      have HB := n5_
      clear n0_ n1_ n2_ n3_ n4_ n5_
      have p343 : 0 ≤ (x6_1 : Int) := q_d
      have q343 : x6_1 < (l0_0.length : Int) := q_d
      obtain ⟨ad343, A343_0, c343_0, e343, hx343_0, hl343_0, hi343_0⟩ := at_L2 HR0_0.out x6_1 p343 q343
      have hw343_0 := hx343_0
      cases e343
      replace hx343_0 := q_x HB.out hx343_0
      have HR343_0 := Aside0.mk hi343_0
      have HC343_0 := Aside0.mk hl343_0
      clear hi343_0 hl343_0
      replace p343 := eq_true p343
      replace q343 := eq_true q343
      refine start_ (n := 15) (S := fun w' => w'.cell? ⟨gb342, 0, none⟩ = some (u343000) ∧ w'.cell? ⟨gb339, 0, none⟩ = some (.slice (some ad343) l0_0.length c0_0) ∧ w'.cell? ⟨gb340, 0, none⟩ = some (.int .i64 a1_0) ∧ w'.cell? ⟨gb340, 1, none⟩ = some (.slice A1_1 l1_1.length c1_1) ∧ w'.cell? (ad343.add (x6_1).toNat) = some (.slice A343_0 (rd_L2 l0_0 x6_1).length c343_0)) (ds := [14]) #[false, false, false, false, false, false, false, false, false, false, false, false, false, false, false] (by kernel_rfl) rfl rfl ⟨q_z BK342.out 0, q_z BK339.out 0, q_z BK340.out 0, q_z BK340.out 1, ((HB.out.cell (World.block_lt_of_cell? w _ hw343_0)).trans hw343_0)⟩ (fun hHeld => ?_); refine with_tabW spec_l2Settle.tab5 spec_l2Settle.bits5 (fun HT_ HW_ => ?_)
      generalize wr.drew = w20 at HO_343000 BK339 BK340 BK341 BK342 HB HR343_0 hx343_0 hHeld ⊢
      refine q_p 0 (some 15) #[true, false, false, false, false, false, false, false, false, false, false, false, false, false, false] HT_.out ?_
      refine q_p 2 (some 17) #[true, false, true, false, false, false, false, false, false, false, false, false, false, false, false] HT_.out ?_
      refine q_p 4 (some 19) #[true, false, true, false, true, false, false, false, false, false, false, false, false, false, false] HT_.out ?_
      refine q_p 8 (some 23) #[true, false, true, false, true, false, false, false, true, false, false, false, false, false, false] HT_.out ?_
      refine q_t 1 (some 16) #[true, true, true, false, true, false, false, false, true, false, false, false, false, false, false] HT_.out HW_.out hHeld ?_
      refine q_t 3 (some 18) #[true, true, true, true, true, false, false, false, true, false, false, false, false, false, false] HT_.out HW_.out hHeld ?_
      refine q_p 5 (some 20) #[true, true, true, true, true, true, false, false, true, false, false, false, false, false, false] HT_.out ?_
      refine q_t 6 (some 21) #[true, true, true, true, true, true, true, false, true, false, false, false, false, false, false] HT_.out HW_.out hHeld ?_
      refine q_t 7 (some 22) #[true, true, true, true, true, true, true, true, true, false, false, false, false, false, false] HT_.out HW_.out hHeld ?_
      refine one_ (i := 9) (N := some 24) #[true, true, true, true, true, true, true, true, true, true, false, false, false, false, false] rfl rfl (one_of HT_.out (by kernel_rfl)) (by decide) (fun K hK => ?_)
      refine goes_ Try.func104 (by kernel_rfl) rfl #[.agg #[.int .i64 a1_0, .slice A1_1 l1_1.length c1_1], .int .i64 x6_1] (by rfl) rfl rfl (by (try simp only [List.map_toArray, List.map_cons, List.map_nil]); first | done | rfl | (simp only [List.length_drop, List.length_take]; rfl)) ?_
      with_reducible refine (spec_l1Legs.calls k1 a1_0 _ _ l1_1 x6_1 t344 _ ?side1 ?side2 A13.out).mono ?_
      (case side1 => exact q_c ((Kd.C_below HR1_1.out HB.out)))
      (case side2 => exact HC1_1.out)
      rintro e w21 ⟨v345, rfl, ho0, hb⟩
      refine ⟨_, rfl, ?_⟩
      have n0_ := Aside0.mk (Kd.S_below (q_s (HO_343000.out)) hb)
      have n1_ := Aside0.mk (Kd.R_lower ho0 (below_size bq))
      have n2_ := Aside0.mk (blk_below (q_b BK339.out) hb)
      have n3_ := Aside0.mk (blk_below (q_b BK340.out) hb)
      have n4_ := Aside0.mk (blk_below (q_b BK341.out) hb)
      have n5_ := Aside0.mk (blk_below (q_b BK342.out) hb)
      have n6_ := Aside0.mk (below_step bq hb)
      clear HO_343000
      clear BK339
      clear BK340
      clear BK341
      clear BK342
      clear HB
      have HO_343000 := n0_
      have HO346 := n1_
      have BK339 := n2_
      have BK340 := n3_
      have BK341 := n4_
      have BK342 := n5_
      have HB := n6_
      clear n0_ n1_ n2_ n3_ n4_ n5_ n6_
      (try clear hb)
      (try clear hb2)
      (try clear hk)
      (try clear hi)
      (try clear ho0)
      obtain ⟨Ao22, co22, eo22⟩ := Kd.R_slice HO346.out
      (first | subst eo22 | (injection eo22 with f1_ f2_ f3_; have f4_ := f1_.symm; have f5_ := f3_.symm; clear f1_ f2_ f3_; subst f4_; subst f5_))
      refine hK.out _ _ ⟨q_z BK342.out 0, q_z BK339.out 0, q_z BK340.out 0, q_z BK340.out 1, ((HB.out.cell (World.block_lt_of_cell? w _ hw343_0)).trans hw343_0)⟩ (fun hHeld => ?_)
      clear hK K
      refine norm_ (a' := ?_) ?_ ?_
      rotate_left
      ·show Act.put _ (some 24) _ = _
       simp only [Act.put, List.setIfInBounds_toArray, List.set_cons_zero, List.set_cons_succ, i64_w, i32_w]
       rfl
      refine one_ (i := 10) (N := some 25) #[true, true, true, true, true, true, true, true, true, true, true, false, false, false, false] rfl rfl (one_of HT_.out (by kernel_rfl)) (by decide) (fun K hK => ?_)
      refine goes_ Try.func103 (by kernel_rfl) rfl #[.slice A343_0 (rd_L2 l0_0 x6_1).length c343_0, .slice Ao22 t344.length co22] (by rfl) rfl rfl (by (try simp only [List.map_toArray, List.map_cons, List.map_nil]); first | done | rfl | (simp only [List.length_drop, List.length_take]; rfl)) ?_
      with_reducible refine (spec_l2Add.calls k1 _ _ (rd_L2 l0_0 x6_1) _ _ t344 t347 _ ?side1 ?side2 ?side3 ?side4 A14.out).mono ?_
      (case side1 => exact q_c ((Kd.C_below HR343_0.out HB.out)))
      (case side2 => exact HC343_0.out)
      (case side3 => exact q_c ((Kd.R_reads' HO346.out).2.2))
      (case side4 => exact (Kd.R_reads' HO346.out).2.1)
      rintro e w23 ⟨v348, rfl, ho0, hb⟩
      refine ⟨_, rfl, ?_⟩
      have n0_ := Aside0.mk (Kd.S_elder' (q_s (HO_343000.out)) (Kd.R_base ho0) hb)
      have n1_ := Aside0.mk (Kd.R_below (q_r (HO346.out)) hb)
      have n2_ := Aside0.mk (Kd.R_lower ho0 (below_size bq))
      have n3_ := Aside0.mk (blk_below (q_b BK339.out) hb)
      have n4_ := Aside0.mk (blk_below (q_b BK340.out) hb)
      have n5_ := Aside0.mk (blk_below (q_b BK341.out) hb)
      have n6_ := Aside0.mk (blk_below (q_b BK342.out) hb)
      have n7_ := Aside0.mk (below_step bq hb)
      clear HO_343000
      clear HO346
      clear BK339
      clear BK340
      clear BK341
      clear BK342
      clear HB
      have HO_343000 := n0_
      have HO346 := n1_
      have HO349 := n2_
      have BK339 := n3_
      have BK340 := n4_
      have BK341 := n5_
      have BK342 := n6_
      have HB := n7_
      clear n0_ n1_ n2_ n3_ n4_ n5_ n6_ n7_
      (try clear hb)
      (try clear hb2)
      (try clear hk)
      (try clear hi)
      (try clear ho0)
      obtain ⟨Ao25, co25, eo25⟩ := Kd.R_slice HO349.out
      (first | subst eo25 | (injection eo25 with f1_ f2_ f3_; have f4_ := f1_.symm; have f5_ := f3_.symm; clear f1_ f2_ f3_; subst f4_; subst f5_))
      refine hK.out _ _ ⟨q_z BK342.out 0, q_z BK339.out 0, q_z BK340.out 0, q_z BK340.out 1, ((HB.out.cell (World.block_lt_of_cell? w _ hw343_0)).trans hw343_0)⟩ (fun hHeld => ?_)
      clear hK K
      refine norm_ (a' := ?_) ?_ ?_
      rotate_left
      ·show Act.put _ (some 25) _ = _
       simp only [Act.put, List.setIfInBounds_toArray, List.set_cons_zero, List.set_cons_succ, i64_w, i32_w]
       rfl
      refine one_ (i := 11) (N := some 26) #[true, true, true, true, true, true, true, true, true, true, true, true, false, false, false] rfl rfl (one_of HT_.out (by kernel_rfl)) (by decide) (fun K hK => ?_)
      refine value_ (w1 := ?_) (v := ?_) (by rfl) rfl ?_ ?_
      rotate_left 2
      ·go_simp
       constructor
       ·rfl
       ·rfl
      refine hK.out _ _ ⟨(blk_cell (blk_alloc BK342.out _) 0).trans rfl, (blk_cell (blk_alloc BK339.out _) 0).trans rfl, (blk_cell (blk_alloc BK340.out _) 0).trans rfl, (blk_cell (blk_alloc BK340.out _) 1).trans rfl, (World.cell?_alloc_lt _ _ _ (World.block_lt_of_cell? _ _ (((HB.out.cell (World.block_lt_of_cell? w _ hw343_0)).trans hw343_0)))).trans (((HB.out.cell (World.block_lt_of_cell? w _ hw343_0)).trans hw343_0))⟩ (fun hHeld => ?_)
      clear hK K
      refine norm_ (a' := ?_) ?_ ?_
      rotate_left
      ·show Act.put _ (some 26) _ = _
       simp only [Act.put, List.setIfInBounds_toArray, List.set_cons_zero, List.set_cons_succ, i64_w, i32_w]
       rfl
      refine one_ (i := 12) (N := some 27) #[true, true, true, true, true, true, true, true, true, true, true, true, true, false, false] rfl rfl (one_of HT_.out (by kernel_rfl)) (by decide) (fun K hK => ?_)
      refine Kd.S_append_step (Kd.slice 104 k104) (w0 := w) w.heap.size (by rfl) (.tmp 16) (.tmp 26) 24 64 (.slice none 0 0) 24 rfl Try.underlying24 info64 rfl (by decide) (by omega) u343000 x343000_1 t347 [.slice Ao25 t347.length co25] (fun _ => True) (fun k_ => some k_ = (.slice Ao25 t347.length co25 : Value).ownBlock) rfl rfl ?aP (fun k_ hk_ => ((Kd.R_mono (ok' := fun k_ => ((fun _ => True)) k_ ∧ some k_ ≠ (u343000 : Value).ownBlock) (Kd.R_apart' (HO349.out) (Kd.S_typed HO_343000.out) (by decide)) (fun k_ hk => ⟨trivial, hk.2⟩))).1 k_ hk_.symm) ?aF ?aO ?aB ?aS ?aL ?_
      (case aP => exact Kd.M_row (Kd.R_mono (Kd.R_tight rfl (Kd.R_mono (ok' := fun k_ => ((fun _ => True)) k_ ∧ some k_ ≠ (u343000 : Value).ownBlock) (Kd.R_apart' (HO349.out) (Kd.S_typed HO_343000.out) (by decide)) (fun k_ hk => ⟨trivial, hk.2⟩))) (fun _ h_ => h_)))
      (case aB => exact bq)
      (case aF => exact (fun _ _ => trivial))
      (case aO => exact (by (with_reducible repeat (first | apply Kd.S_alloc | apply Kd.S_drewN | apply Kd.S_drew)); exact Kd.S_mono HO_343000.out (fun k_ hk => ⟨trivial, fun e_ => hk.2 e_⟩)))
      (case aS => exact (below_size bq))
      (case aL => have := LMc15.out; omega)
      intro v351 w24 ho hb hg hat
      rw [← Ny350.out] at ho
      have n0_ := Aside0.mk (blk_grown (q_b BK339.out) hg (Kd.S_ne HO_343000.out BK339.out (by decide)))
      have n1_ := Aside0.mk (blk_grown (q_b BK340.out) hg (Kd.S_ne HO_343000.out BK340.out (by decide)))
      have n2_ := Aside0.mk (blk_grown (q_b BK341.out) hg (Kd.S_ne HO_343000.out BK341.out (by decide)))
      have n3_ := Aside0.mk (blk_grown (q_b BK342.out) hg (Kd.S_ne HO_343000.out BK342.out (by decide)))
      have n4_ := Aside0.mk (Kd.R_over' (q_r (HO346.out)) (Kd.S_typed (q_s (HO_343000.out))) (by decide) hg)
      have n5_ := Aside0.mk (hb)
      have n6_ := Aside0.mk (ho)
      clear BK339
      clear BK340
      clear BK341
      clear BK342
      clear HO346
      clear HB
      clear HO_343000
      clear HO349
      have BK339 := n0_
      have BK340 := n1_
      have BK341 := n2_
      have BK342 := n3_
      have HO346 := n4_
      have HB := n5_
      have HO352 := n6_
      clear n0_ n1_ n2_ n3_ n4_ n5_ n6_
      clear ho hb hg hat
      obtain ⟨Ao26, co26, eo26⟩ := Kd.S_slice HO352.out
      (first | subst eo26 | (injection eo26 with f1_ f2_ f3_; have f4_ := f1_.symm; have f5_ := f3_.symm; clear f1_ f2_ f3_; subst f4_; subst f5_))
      refine hK.out _ _ ⟨q_z BK342.out 0, q_z BK339.out 0, q_z BK340.out 0, q_z BK340.out 1, ((HB.out.cell (World.block_lt_of_cell? w _ hw343_0)).trans hw343_0)⟩ (fun hHeld => ?_)
      clear hK K
      refine norm_ (a' := ?_) ?_ ?_
      rotate_left
      ·show Act.put _ (some 27) _ = _
       simp only [Act.put, List.setIfInBounds_toArray, List.set_cons_zero, List.set_cons_succ, i64_w, i32_w]
       rfl
      refine q_p 13 (some 28) #[true, true, true, true, true, true, true, true, true, true, true, true, true, true, false] HT_.out ?_
      refine last_ (i := 14) (N := none) #[true, true, true, true, true, true, true, true, true, true, true, true, true, true, true] rfl rfl (one_of HT_.out (by kernel_rfl)) (by decide) (fun K hK => ?_)
      have hs27 : w24.cell? ⟨gb342, 0, none⟩ = some (u343000) := (blk_cell BK342.out 0).trans rfl
      have hfs27 := blk_frozen BK342.out 0
      have hns27_0 := NB339_342.out
      have hns27_1 := NB340_342.out
      have hns27_2 := NB341_342.out
      have hms27_0 := NB342_339.out
      have hms27_1 := NB342_340.out
      have hms27_2 := NB342_341.out
      refine skip_ (w1 := ?_) (by rfl) rfl ?_ ?_
      rotate_left
      ·go_simp
       rfl
      refine hK.out _ _ ?_
      clear hK K
      refine done_ (done_of HT_.out (by kernel_rfl)) ?_
      try go_wp2
      go_roundg k1
      case measure => have := HK1.out; omega
      case rel => exact ⟨(wrap64 (x6_1 + 1)), (y350), (.slice Ao26 y350.length co26), q_i, H', ⟨by have := HK1.out; omega⟩, ⟨by (with_reducible repeat (first | apply Kd.S_alloc | apply Kd.S_drewN | apply Kd.S_drew)); exact Kd.S_mono (Kd.S_far (p := ⟨gb342, 0, none⟩) (Kd.S_types HO352.out BK342.out (by decide)) (fun _ hk => hk.2) (.slice Ao26 y350.length co26)) (fun _ hk => trivial)⟩, ⟨by (with_reducible repeat (first | refine blk_drewN ?_ _ | refine blk_drew ?_ | refine blk_alloc ?_ _)); refine blk_far ?_ NB339_342.out _; (with_reducible repeat (first | refine blk_drewN ?_ _ | refine blk_drew ?_ | refine blk_alloc ?_ _)); exact BK339.out⟩, ⟨by (with_reducible repeat (first | refine blk_drewN ?_ _ | refine blk_drew ?_ | refine blk_alloc ?_ _)); refine blk_far ?_ NB340_342.out _; (with_reducible repeat (first | refine blk_drewN ?_ _ | refine blk_drew ?_ | refine blk_alloc ?_ _)); exact BK340.out⟩, ⟨by (with_reducible repeat (first | refine blk_drewN ?_ _ | refine blk_drew ?_ | refine blk_alloc ?_ _)); refine blk_far ?_ NB341_342.out _; (with_reducible repeat (first | refine blk_drewN ?_ _ | refine blk_drew ?_ | refine blk_alloc ?_ _)); exact BK341.out⟩, ⟨by (with_reducible repeat (first | refine blk_drewN ?_ _ | refine blk_drew ?_ | refine blk_alloc ?_ _)); refine blk_put (cs := #[u343000]) ?_ 0 _ rfl; (with_reducible repeat (first | refine blk_drewN ?_ _ | refine blk_drew ?_ | refine blk_alloc ?_ _)); exact BK342.out⟩, ⟨bq⟩⟩
     ·rw [if_neg c15] at H
      exact absurd H (by simp)
    ·rw [if_neg c12] at H
     exact absurd H (by simp)
   ·rw [if_neg c11] at H
    have c11b0 := decide_eq_false c11
    clear c11
    obtain rfl := Option.some.inj H
    have hnb28 := NB339_340.out
    have hnc28 := NB340_339.out
    have hnb29 := NB339_341.out
    have hnc29 := NB341_339.out
    have hnb30 := NB339_342.out
    have hnc30 := NB342_339.out
    obtain ⟨hcz31_0, hfz31_0⟩ := q_1 BK339.out
    have hnb32 := NB342_340.out
    have hnc32 := NB340_342.out
    have hnb33 := NB342_341.out
    have hnc33 := NB341_342.out
    obtain ⟨hcz34_0, hfz34_0⟩ := q_1 BK342.out
    obtain ⟨Ao35, co35, eo35⟩ := Kd.S_slice HO_343000.out
    subst eo35
    have hnb36 := NB341_340.out
    have hnc36 := NB340_341.out
    obtain ⟨hcz37_0, hfz37_0⟩ := q_1 BK341.out
    go_wp2
    refine bodyPost_ret (results_cell_row rfl _ _ gb341 26 #[.slice Ao35 x343000_1.length co35] (0, 0) _ rfl (by (with_reducible repeat (first | refine blk_drewN ?_ _ | refine blk_drew ?_ | refine blk_alloc ?_ _)); refine blk_put (cs := #[.slice none 0 0]) ?_ 0 _ rfl; (with_reducible repeat (first | refine blk_drewN ?_ _ | refine blk_drew ?_ | refine blk_alloc ?_ _)); exact BK341.out) Try.underlying26 rfl (by kernel_rfl)) rfl ?_
    exact ⟨_, q_e, by (with_reducible repeat (first | apply Kd.S_alloc | apply Kd.S_drewN | apply Kd.S_drew)); exact Kd.S_mono (Kd.S_far (p := ⟨gb341, 0, none⟩) (Kd.S_types HO_343000.out BK341.out (by decide)) (fun _ hk => hk.2) (.slice Ao35 x343000_1.length co35)) (fun _ hk => trivial), bq⟩

/-! ### spec_SettleOne: function 23 -/
def spec_SettleOne.f (k : Nat) (l0_0 : List (List (S104))) (a1_0 : Int) (l1_1 : List (S86)) : Option (Int × (List (List (S104)))) := (spec_CanSettle.f k l0_0 a1_0 l1_1).bind fun t356 => (if t356 = 0 then ((spec_l2Settle.f k l0_0 a1_0 l1_1).bind fun t357 => (some (0, t357))) else (some (t356, ([] : List (List (S104))))))
set_option maxHeartbeats 8000000 in
set_option maxRecDepth 100000 in
theorem spec_SettleOne.calls (k : Nat) (A0_0 : Option Addr) (c0_0 : Nat) (l0_0 : List (List (S104))) (a1_0 : Int) (A1_1 : Option Addr) (c1_1 : Nat) (l1_1 : List (S86)) (r1 : Int) (r2 : List (List (S104))) (w : World) (hr0_0 : Kd.C (Kd.slice 104 k104) w A0_0 l0_0.length l0_0) (hc0_0 : l0_0.length ≤ c0_0) (hr1_1 : Kd.C k86 w A1_1 l1_1.length l1_1) (hc1_1 : l1_1.length ≤ c1_1) (h : spec_SettleOne.f k l0_0 a1_0 l1_1 = some (r1, r2)) :
  Calls Try.prog 23 #[.agg #[.slice A0_0 l0_0.length c0_0], .agg #[.int .i64 a1_0, .slice A1_1 l1_1.length c1_1]] w fun e w' => ∃ v1_ : Value, e = .returned (.agg #[.int .i64 r1, v1_]) ∧ Kd.S (Kd.slice 104 k104) 64 w' w.heap.size (fun _ => True) v1_ r2 ∧ Below w.heap.size w w' := by
 have hu26 := Try.underlying26
 have hu40 := Try.underlying40
 have hu36 := Try.underlying36
 have HR0_0 := Aside0.mk hr0_0
 have HC0_0 := Aside0.mk hc0_0
 clear hr0_0 hc0_0
 have HR1_1 := Aside0.mk hr1_1
 have HC1_1 := Aside0.mk hc1_1
 clear hr1_1 hc1_1
 have HB := Aside0.mk (Below.refl w.heap.size w)
 have H : ((spec_CanSettle.f k l0_0 a1_0 l1_1).bind fun t356 => (if t356 = 0 then ((spec_l2Settle.f k l0_0 a1_0 l1_1).bind fun t357 => (some (0, t357))) else (some (t356, ([] : List (List (S104))))))) = some (r1, r2) := h
 clear h
 replace H := Option.bind_eq_some_iff.mp H
 obtain ⟨t356, A30, H⟩ := H
 replace H : (if t356 = 0 then ((spec_l2Settle.f k l0_0 a1_0 l1_1).bind fun t357 => (some (0, t357))) else (some (t356, ([] : List (List (S104)))))) = some (r1, r2) := H
 have A3 := Aside0.mk A30
 clear A30
 by_cases c4 : t356 = 0
 ·rw [if_pos c4] at H
  have c4b0 : (t356 == 0) = true := beq_iff_eq.mpr c4
  have c4b1 : (t356 != 0) = false := bne_eq_false_iff_eq.mpr c4
  clear c4
  replace H := Option.bind_eq_some_iff.mp H
  obtain ⟨t357, A50, H⟩ := H
  replace H : (some (0, t357)) = some (r1, r2) := H
  have A5 := Aside0.mk A50
  clear A50
  simp only [Option.some.injEq, Prod.mk.injEq] at H
  obtain ⟨rfl, rfl⟩ := H
  go_enter Try.func23, Try.ntmps23
  go_wp2_with (first | ((with_reducible refine gate_dst (N := 2) rfl ?_); refine q_box (N := 2) (cs := #[.slice A0_0 l0_0.length c0_0]) (t := 26) ?_; intro gb353 hg w6 hbox hb; have n0_ := Aside0.mk (below_step bq hb); have n1_ := Aside0.mk (hbox); have n2_ := Aside0.mk ((q_g hg bq : w.heap.size ≤ gb353)); have n3_ := Aside0.mk ((q_g hg bq : w.heap.size ≤ gb353)); revert n0_ n1_ n2_ n3_; clear HB; intro HB BK353 GW353 GE353; clear hb hbox hg) | ((with_reducible refine gate_dst (N := 3) rfl ?_); refine q_box (N := 3) (cs := #[.int .i64 a1_0, .slice A1_1 l1_1.length c1_1]) (t := 40) ?_; intro gb354 hg w7 hbox hb; have n0_ := Aside0.mk (blk_below (q_b BK353.out) hb); have n1_ := Aside0.mk (below_step bq hb); have n2_ := Aside0.mk (hbox); have n3_ := Aside0.mk ((q_g hg bq : w.heap.size ≤ gb354)); have n4_ := Aside0.mk ((q_g hg bq : w.heap.size ≤ gb354)); have n5_ := Aside0.mk ((q_n hg (q_b BK353.out) : gb353 ≠ gb354)); have n6_ := Aside0.mk ((q_m hg (q_b BK353.out) : gb354 ≠ gb353)); revert n0_ n1_ n2_ n3_ n4_ n5_ n6_; clear BK353 HB; intro BK353 HB BK354 GW354 GE354 NB353_354 NB354_353; clear hb hbox hg) | ((with_reducible refine gate_dst (N := 4) rfl ?_); refine q_box (N := 4) (cs := #[.int .i64 0, .slice none 0 0]) (t := 36) ?_; intro gb355 hg w8 hbox hb; have n0_ := Aside0.mk (blk_below (q_b BK353.out) hb); have n1_ := Aside0.mk (blk_below (q_b BK354.out) hb); have n2_ := Aside0.mk (below_step bq hb); have n3_ := Aside0.mk (hbox); have n4_ := Aside0.mk ((q_g hg bq : w.heap.size ≤ gb355)); have n5_ := Aside0.mk ((q_g hg bq : w.heap.size ≤ gb355)); have n6_ := Aside0.mk ((q_n hg (q_b BK353.out) : gb353 ≠ gb355)); have n7_ := Aside0.mk ((q_m hg (q_b BK353.out) : gb355 ≠ gb353)); have n8_ := Aside0.mk ((q_n hg (q_b BK354.out) : gb354 ≠ gb355)); have n9_ := Aside0.mk ((q_m hg (q_b BK354.out) : gb355 ≠ gb354)); revert n0_ n1_ n2_ n3_ n4_ n5_ n6_ n7_ n8_ n9_; clear BK353 BK354 HB; intro BK353 BK354 HB BK355 GW355 GE355 NB353_355 NB355_353 NB354_355 NB355_354; clear hb hbox hg; have hnb9 := NB353_354.out; have hnc9 := NB354_353.out; have hnb10 := NB353_355.out; have hnc10 := NB355_353.out; obtain ⟨hcz11_0, hfz11_0⟩ := q_1 BK353.out; have hnb12 := NB354_355.out; have hnc12 := NB355_354.out; obtain ⟨hcz13_0, hcz13_1, hfz13_0, hfz13_1⟩ := q_2 BK354.out) | ((with_reducible refine gate_callee (f := 51) rfl ?_); refine goesLq (some 8) rfl rfl Try.func51 (by kernel_rfl) rfl #[.agg #[.slice A0_0 l0_0.length c0_0], .agg #[.int .i64 a1_0, .slice A1_1 l1_1.length c1_1]] rfl ?_; (with_reducible refine (spec_CanSettle.calls k _ _ l0_0 a1_0 _ _ l1_1 t356 _ ?side1 ?side2 ?side3 ?side4 A3.out).mono ?_); (case side1 => exact q_c ((Kd.C_below HR0_0.out HB.out))); (case side2 => exact HC0_0.out); (case side3 => exact q_c ((Kd.C_below HR1_1.out HB.out))); (case side4 => exact HC1_1.out); rintro e w14 ⟨rfl, hb⟩; refine ⟨_, rfl, ?_⟩; have n0_ := Aside0.mk (blk_below (q_b BK353.out) hb); have n1_ := Aside0.mk (blk_below (q_b BK354.out) hb); have n2_ := Aside0.mk (blk_below (q_b BK355.out) hb); have n3_ := Aside0.mk (below_step bq hb); revert n0_ n1_ n2_ n3_; clear BK353 BK354 BK355 HB; intro BK353 BK354 BK355 HB; (try clear hb); (try clear hb2); (try clear hk); (try clear hi); obtain ⟨hcz15_0, hfz15_0⟩ := q_1 BK353.out; obtain ⟨hcz16_0, hcz16_1, hfz16_0, hfz16_1⟩ := q_2 BK354.out) | ((with_reducible refine gate_callee (f := 63) rfl ?_); refine goesLq (some 15) rfl rfl Try.func63 (by kernel_rfl) rfl #[.agg #[.slice A0_0 l0_0.length c0_0], .agg #[.int .i64 a1_0, .slice A1_1 l1_1.length c1_1]] rfl ?_; (with_reducible refine (spec_l2Settle.calls k _ _ l0_0 a1_0 _ _ l1_1 t357 _ ?side1 ?side2 ?side3 ?side4 A5.out).mono ?_); (case side1 => exact q_c ((Kd.C_below HR0_0.out HB.out))); (case side2 => exact HC0_0.out); (case side3 => exact q_c ((Kd.C_below HR1_1.out HB.out))); (case side4 => exact HC1_1.out); rintro e w17 ⟨v358, rfl, ho0, hb⟩; refine ⟨_, rfl, ?_⟩; have n0_ := Aside0.mk (Kd.S_lower ho0 (below_size bq)); have n1_ := Aside0.mk (blk_below (q_b BK353.out) hb); have n2_ := Aside0.mk (blk_below (q_b BK354.out) hb); have n3_ := Aside0.mk (blk_below (q_b BK355.out) hb); have n4_ := Aside0.mk (below_step bq hb); revert n0_ n1_ n2_ n3_ n4_; clear BK353 BK354 BK355 HB; intro HO359 BK353 BK354 BK355 HB; (try clear hb); (try clear hb2); (try clear hk); (try clear hi); (try clear ho0); obtain ⟨Ao18, co18, eo18⟩ := Kd.S_slice HO359.out; subst eo18; obtain ⟨hcz19_0, hcz19_1, hfz19_0, hfz19_1⟩ := q_2 BK355.out))
  refine bodyPost_ret (results_cell_row rfl _ _ gb355 36 #[.int .i64 0, .slice Ao18 t357.length co18] (0, 0) _ rfl (by (with_reducible repeat (first | refine blk_drewN ?_ _ | refine blk_drew ?_ | refine blk_alloc ?_ _)); refine blk_put (cs := #[.int .i64 0, .slice none 0 0]) ?_ 1 _ rfl; (with_reducible repeat (first | refine blk_drewN ?_ _ | refine blk_drew ?_ | refine blk_alloc ?_ _)); refine blk_put (cs := #[.int .i64 0, .slice none 0 0]) ?_ 0 _ rfl; (with_reducible repeat (first | refine blk_drewN ?_ _ | refine blk_drew ?_ | refine blk_alloc ?_ _)); exact BK355.out) Try.underlying36 rfl (by kernel_rfl)) rfl ?_
  exact ⟨_, q_e, by (with_reducible repeat (first | apply Kd.S_alloc | apply Kd.S_drewN | apply Kd.S_drew)); exact Kd.S_mono (Kd.S_far (p := ⟨gb355, 1, none⟩) (Kd.S_far (p := ⟨gb355, 0, none⟩) (Kd.S_types HO359.out BK355.out (by decide)) (fun _ hk => hk.2) (.int .i64 0)) (fun _ hk => hk.2) (.slice Ao18 t357.length co18)) (fun _ hk => trivial), bq⟩
 ·rw [if_neg c4] at H
  have c4b0 : (t356 == 0) = false := beq_eq_false_iff_ne.mpr c4
  have c4b1 : (t356 != 0) = true := bne_iff_ne.mpr c4
  simp only [Option.some.injEq, Prod.mk.injEq] at H
  obtain ⟨rfl, rfl⟩ := H
  go_enter Try.func23, Try.ntmps23
  go_wp2_with (first | ((with_reducible refine gate_dst (N := 2) rfl ?_); refine q_box (N := 2) (cs := #[.slice A0_0 l0_0.length c0_0]) (t := 26) ?_; intro gb353 hg w20 hbox hb; have n0_ := Aside0.mk (below_step bq hb); have n1_ := Aside0.mk (hbox); have n2_ := Aside0.mk ((q_g hg bq : w.heap.size ≤ gb353)); have n3_ := Aside0.mk ((q_g hg bq : w.heap.size ≤ gb353)); revert n0_ n1_ n2_ n3_; clear HB; intro HB BK353 GW353 GE353; clear hb hbox hg) | ((with_reducible refine gate_dst (N := 3) rfl ?_); refine q_box (N := 3) (cs := #[.int .i64 a1_0, .slice A1_1 l1_1.length c1_1]) (t := 40) ?_; intro gb354 hg w21 hbox hb; have n0_ := Aside0.mk (blk_below (q_b BK353.out) hb); have n1_ := Aside0.mk (below_step bq hb); have n2_ := Aside0.mk (hbox); have n3_ := Aside0.mk ((q_g hg bq : w.heap.size ≤ gb354)); have n4_ := Aside0.mk ((q_g hg bq : w.heap.size ≤ gb354)); have n5_ := Aside0.mk ((q_n hg (q_b BK353.out) : gb353 ≠ gb354)); have n6_ := Aside0.mk ((q_m hg (q_b BK353.out) : gb354 ≠ gb353)); revert n0_ n1_ n2_ n3_ n4_ n5_ n6_; clear BK353 HB; intro BK353 HB BK354 GW354 GE354 NB353_354 NB354_353; clear hb hbox hg) | ((with_reducible refine gate_dst (N := 4) rfl ?_); refine q_box (N := 4) (cs := #[.int .i64 0, .slice none 0 0]) (t := 36) ?_; intro gb355 hg w22 hbox hb; have n0_ := Aside0.mk (blk_below (q_b BK353.out) hb); have n1_ := Aside0.mk (blk_below (q_b BK354.out) hb); have n2_ := Aside0.mk (below_step bq hb); have n3_ := Aside0.mk (hbox); have n4_ := Aside0.mk ((q_g hg bq : w.heap.size ≤ gb355)); have n5_ := Aside0.mk ((q_g hg bq : w.heap.size ≤ gb355)); have n6_ := Aside0.mk ((q_n hg (q_b BK353.out) : gb353 ≠ gb355)); have n7_ := Aside0.mk ((q_m hg (q_b BK353.out) : gb355 ≠ gb353)); have n8_ := Aside0.mk ((q_n hg (q_b BK354.out) : gb354 ≠ gb355)); have n9_ := Aside0.mk ((q_m hg (q_b BK354.out) : gb355 ≠ gb354)); revert n0_ n1_ n2_ n3_ n4_ n5_ n6_ n7_ n8_ n9_; clear BK353 BK354 HB; intro BK353 BK354 HB BK355 GW355 GE355 NB353_355 NB355_353 NB354_355 NB355_354; clear hb hbox hg; have hnb23 := NB353_354.out; have hnc23 := NB354_353.out; have hnb24 := NB353_355.out; have hnc24 := NB355_353.out; obtain ⟨hcz25_0, hfz25_0⟩ := q_1 BK353.out; have hnb26 := NB354_355.out; have hnc26 := NB355_354.out; obtain ⟨hcz27_0, hcz27_1, hfz27_0, hfz27_1⟩ := q_2 BK354.out) | ((with_reducible refine gate_callee (f := 51) rfl ?_); refine goesLq (some 8) rfl rfl Try.func51 (by kernel_rfl) rfl #[.agg #[.slice A0_0 l0_0.length c0_0], .agg #[.int .i64 a1_0, .slice A1_1 l1_1.length c1_1]] rfl ?_; (with_reducible refine (spec_CanSettle.calls k _ _ l0_0 a1_0 _ _ l1_1 t356 _ ?side1 ?side2 ?side3 ?side4 A3.out).mono ?_); (case side1 => exact q_c ((Kd.C_below HR0_0.out HB.out))); (case side2 => exact HC0_0.out); (case side3 => exact q_c ((Kd.C_below HR1_1.out HB.out))); (case side4 => exact HC1_1.out); rintro e w28 ⟨rfl, hb⟩; refine ⟨_, rfl, ?_⟩; have n0_ := Aside0.mk (blk_below (q_b BK353.out) hb); have n1_ := Aside0.mk (blk_below (q_b BK354.out) hb); have n2_ := Aside0.mk (blk_below (q_b BK355.out) hb); have n3_ := Aside0.mk (below_step bq hb); revert n0_ n1_ n2_ n3_; clear BK353 BK354 BK355 HB; intro BK353 BK354 BK355 HB; (try clear hb); (try clear hb2); (try clear hk); (try clear hi); obtain ⟨hcz29_0, hcz29_1, hfz29_0, hfz29_1⟩ := q_2 BK355.out))
  refine bodyPost_ret (results_cell_row rfl _ _ gb355 36 #[.int .i64 t356, .slice none 0 0] (0, 0) _ rfl (by (with_reducible repeat (first | refine blk_drewN ?_ _ | refine blk_drew ?_ | refine blk_alloc ?_ _)); refine blk_put (cs := #[.int .i64 t356, .slice none 0 0]) ?_ 1 _ rfl; (with_reducible repeat (first | refine blk_drewN ?_ _ | refine blk_drew ?_ | refine blk_alloc ?_ _)); refine blk_put (cs := #[.int .i64 0, .slice none 0 0]) ?_ 0 _ rfl; (with_reducible repeat (first | refine blk_drewN ?_ _ | refine blk_drew ?_ | refine blk_alloc ?_ _)); exact BK355.out) Try.underlying36 rfl (by kernel_rfl)) rfl ?_
  exact ⟨_, q_e, by first | exact Kd.S_nil _ _ _ _ _ | exact Kd.N_nil _ _ _ _ _ | exact Kd.V_nil _ _ _ _ _ | exact Kd.Q_nil _ _ _ _ _ | exact Kd.R_nil _ _ _ _ _, bq⟩

/-! ### laws_toBalance: function 82 -/
def laws_toBalance.f (a0_0 : Int) (a0_1 : Int) (a0_2 : Int) : Option (Int × Int × Int) := some (a0_0, a0_1, a0_2)
set_option maxHeartbeats 8000000 in
set_option maxRecDepth 100000 in
theorem laws_toBalance.calls (a0_0 : Int) (a0_1 : Int) (a0_2 : Int) (r1 : Int) (r2 : Int) (r3 : Int) (w : World) (h : laws_toBalance.f a0_0 a0_1 a0_2 = some (r1, r2, r3)) :
  Calls Try.prog 82 #[.agg #[.int .i64 a0_0, .int .i64 a0_1, .int .i64 a0_2]] w fun e w' => e = .returned (.agg #[.int .i64 r1, .int .i64 r2, .int .i64 r3]) ∧ Below w.heap.size w w' := by
 have hu115 := Try.underlying115
 have hu104 := Try.underlying104
 have HB := Aside0.mk (Below.refl w.heap.size w)
 have H : (some (a0_0, a0_1, a0_2)) = some (r1, r2, r3) := h
 clear h
 simp only [Option.some.injEq, Prod.mk.injEq] at H
 obtain ⟨rfl, rfl, rfl⟩ := H
 go_enter Try.func82, Try.ntmps82
 go_wp2_with (first | ((with_reducible refine gate_dst (N := 1) rfl ?_); refine q_box (N := 1) (cs := #[.int .i64 a0_0, .int .i64 a0_1, .int .i64 a0_2]) (t := 115) ?_; intro gb360 hg w2 hbox hb; have n0_ := Aside0.mk (below_step bq hb); have n1_ := Aside0.mk (hbox); have n2_ := Aside0.mk ((q_g hg bq : w.heap.size ≤ gb360)); have n3_ := Aside0.mk ((q_g hg bq : w.heap.size ≤ gb360)); revert n0_ n1_ n2_ n3_; clear HB; intro HB BK360 GW360 GE360; clear hb hbox hg) | ((with_reducible refine gate_dst (N := 2) rfl ?_); refine q_box (N := 2) (cs := #[.int .i64 0, .int .i64 0, .int .i64 0]) (t := 104) ?_; intro gb361 hg w3 hbox hb; have n0_ := Aside0.mk (blk_below (q_b BK360.out) hb); have n1_ := Aside0.mk (below_step bq hb); have n2_ := Aside0.mk (hbox); have n3_ := Aside0.mk ((q_g hg bq : w.heap.size ≤ gb361)); have n4_ := Aside0.mk ((q_g hg bq : w.heap.size ≤ gb361)); have n5_ := Aside0.mk ((q_n hg (q_b BK360.out) : gb360 ≠ gb361)); have n6_ := Aside0.mk ((q_m hg (q_b BK360.out) : gb361 ≠ gb360)); revert n0_ n1_ n2_ n3_ n4_ n5_ n6_; clear BK360 HB; intro BK360 HB BK361 GW361 GE361 NB360_361 NB361_360; clear hb hbox hg) | ((with_reducible refine gate_dst (N := 3) rfl ?_); refine q_box (N := 3) (cs := #[.int .i64 0, .int .i64 0, .int .i64 0]) (t := 104) ?_; intro gb362 hg w4 hbox hb; have n0_ := Aside0.mk (blk_below (q_b BK360.out) hb); have n1_ := Aside0.mk (blk_below (q_b BK361.out) hb); have n2_ := Aside0.mk (below_step bq hb); have n3_ := Aside0.mk (hbox); have n4_ := Aside0.mk ((q_g hg bq : w.heap.size ≤ gb362)); have n5_ := Aside0.mk ((q_g hg bq : w.heap.size ≤ gb362)); have n6_ := Aside0.mk ((q_n hg (q_b BK360.out) : gb360 ≠ gb362)); have n7_ := Aside0.mk ((q_m hg (q_b BK360.out) : gb362 ≠ gb360)); have n8_ := Aside0.mk ((q_n hg (q_b BK361.out) : gb361 ≠ gb362)); have n9_ := Aside0.mk ((q_m hg (q_b BK361.out) : gb362 ≠ gb361)); revert n0_ n1_ n2_ n3_ n4_ n5_ n6_ n7_ n8_ n9_; clear BK360 BK361 HB; intro BK360 BK361 HB BK362 GW362 GE362 NB360_362 NB362_360 NB361_362 NB362_361; clear hb hbox hg; have hnb5 := NB360_361.out; have hnc5 := NB361_360.out; have hnb6 := NB360_362.out; have hnc6 := NB362_360.out; obtain ⟨hcz7_0, hcz7_1, hcz7_2, hfz7_0, hfz7_1, hfz7_2⟩ := q_3 BK360.out; have hnb8 := NB362_361.out; have hnc8 := NB361_362.out; obtain ⟨hcz9_0, hcz9_1, hcz9_2, hfz9_0, hfz9_1, hfz9_2⟩ := q_3 BK362.out; obtain ⟨hcz10_0, hcz10_1, hcz10_2, hfz10_0, hfz10_1, hfz10_2⟩ := q_3 BK361.out))
 refine bodyPost_ret (results_cell_row rfl _ _ gb361 104 #[.int .i64 a0_0, .int .i64 a0_1, .int .i64 a0_2] (0, 0) _ rfl (by (with_reducible repeat (first | refine blk_drewN ?_ _ | refine blk_drew ?_ | refine blk_alloc ?_ _)); refine blk_put (cs := #[.int .i64 a0_0, .int .i64 a0_1, .int .i64 0]) ?_ 2 _ rfl; (with_reducible repeat (first | refine blk_drewN ?_ _ | refine blk_drew ?_ | refine blk_alloc ?_ _)); refine blk_put (cs := #[.int .i64 a0_0, .int .i64 0, .int .i64 0]) ?_ 1 _ rfl; (with_reducible repeat (first | refine blk_drewN ?_ _ | refine blk_drew ?_ | refine blk_alloc ?_ _)); refine blk_put (cs := #[.int .i64 0, .int .i64 0, .int .i64 0]) ?_ 0 _ rfl; (with_reducible repeat (first | refine blk_drewN ?_ _ | refine blk_drew ?_ | refine blk_alloc ?_ _)); refine blk_far ?_ NB361_362.out _; (with_reducible repeat (first | refine blk_drewN ?_ _ | refine blk_drew ?_ | refine blk_alloc ?_ _)); refine blk_far ?_ NB361_362.out _; (with_reducible repeat (first | refine blk_drewN ?_ _ | refine blk_drew ?_ | refine blk_alloc ?_ _)); refine blk_far ?_ NB361_362.out _; (with_reducible repeat (first | refine blk_drewN ?_ _ | refine blk_drew ?_ | refine blk_alloc ?_ _)); exact BK361.out) Try.underlying104 rfl (by kernel_rfl)) rfl ?_
 exact ⟨q_e, bq⟩

/-! ### laws_toBalanceS: function 35 -/
def laws_toBalanceS.l0 : Nat → List (S115) → List (S104) → Int → Option ((List (S104)))
  | 0, _, _, _ => none
  | k + 1, x0, x3, x4 => if x4 < (x0.length : Int) then (if 0 ≤ x4 then ((laws_toBalance.f ((rd_T115 x0 x4).f0) ((rd_T115 x0 x4).f1) ((rd_T115 x0 x4).f2)).bind fun bt367 => (if x4 < (x3.length : Int) then (laws_toBalanceS.l0 k x0 (x3.set (x4 : Int).toNat (⟨bt367.1, bt367.2.1, bt367.2.2⟩ : S104)) (wrap64 (x4 + 1))) else (none))) else (none)) else (some x3)
def laws_toBalanceS.f (k : Nat) (l0 : List (S115)) : Option ((List (S104))) := if 0 ≤ (l0.length : Int) then (if ((l0.length : Int) : Int).toNat ≤ 11728124029610 then (laws_toBalanceS.l0 k l0 (List.replicate ((l0.length : Int) : Int).toNat z104) 0) else (none)) else (none)
set_option maxHeartbeats 8000000 in
set_option maxRecDepth 100000 in
theorem laws_toBalanceS.calls (k : Nat) (A0 : Option Addr) (c0 : Nat) (l0 : List (S115)) (r : List (S104)) (w : World) (hr0 : Kd.C k115 w A0 l0.length l0) (hc0 : l0.length ≤ c0) (h : laws_toBalanceS.f k l0 = some r) :
  Calls Try.prog 35 #[.slice A0 l0.length c0] w fun e w' => ∃ v0_ : Value, e = .returned (v0_) ∧ Kd.R k104 104 w' w.heap.size (fun _ => True) v0_ r ∧ Below w.heap.size w w' := by
 have hu115 := Try.underlying115
 have hu104 := Try.underlying104
 have HR0 := Aside0.mk hr0
 have HC0 := Aside0.mk hc0
 clear hr0 hc0
 have HB := Aside0.mk (Below.refl w.heap.size w)
 have H : (if 0 ≤ (l0.length : Int) then (if ((l0.length : Int) : Int).toNat ≤ 11728124029610 then (laws_toBalanceS.l0 k l0 (List.replicate ((l0.length : Int) : Int).toNat z104) 0) else (none)) else (none)) = some r := h
 clear h
 by_cases c2 : 0 ≤ (l0.length : Int)
 ·rw [if_pos c2] at H
  have c2b0 := eq_true c2
  have c2b1 := decide_eq_true c2
  clear c2
  by_cases c3 : ((l0.length : Int) : Int).toNat ≤ 11728124029610
  ·rw [if_pos c3] at H
   have c3b0 := eq_true c3
   have c3b1 := decide_eq_true c3
   clear c3
   obtain ⟨y363, hy363⟩ : ∃ y_ : List (S104), y_ = (List.replicate ((l0.length : Int) : Int).toNat z104) := ⟨_, rfl⟩
   replace H : (laws_toBalanceS.l0 k l0 y363 0) = some r := q_h hy363 H
   have Ny363 := Aside0.mk hy363
   clear hy363
   have H' := Aside0.mk H
   clear H
   go_enter Try.func35, Try.ntmps35
   go_wp2_with (first | ((with_reducible refine gate_dst (N := 7) rfl ?_); refine Kd.R_make k104 _ 104 rfl (N := 7) rfl 64 _ _ rfl (l0.length : Int) rfl rfl Try.underlying64 (.agg #[(.int .i64 0), (.int .i64 0), (.int .i64 0)]) 24 info104 rfl (by decide) (by omega) z104 (ok := fun _ => True) (okp := fun _ => True) (k104_mkM _ _ _ z104 ) (fun _ hk => hk) trivial q_d (Nat.le_trans (Nat.mul_le_mul_right _ (q_d : (l0.length : Int).toNat ≤ 11728124029610)) (by omega)) (Below.refl _ _) (Nat.le_refl _) ?_; intro v364 w4 ho5 hb hg_ hnew_; clear hg_ hnew_; (first | rw [← Ny363.out] at ho5 | (simp only [Int.reduceToNat] at ho5; rw [← Ny363.out] at ho5)); have n0_ := Aside0.mk (Kd.R_lower ho5 (below_size bq)); have n1_ := Aside0.mk (below_step bq hb); revert n0_ n1_; clear HB; intro HO365 HB; clear hb ho5))
   go_loopg [4] k (fun kq v4 w' => ∃ (x3_1 : List (S104)) (x4_1 : Int), v4 = .int .i64 x4_1 ∧ Aside0 (laws_toBalanceS.l0 kq l0 x3_1 x4_1 = some r) ∧ Aside0 (kq ≤ k) ∧ Aside0 (Kd.R k104 104 w' w.heap.size (fun _ => True) v364 x3_1) ∧ Aside0 (Below w.heap.size w w'))
   case atStart => exact ⟨(y363), (0), q_i, H', ⟨Nat.le_refl _⟩, ⟨q_r (HO365.out)⟩, ⟨bq⟩⟩
   case round =>
    clear H'
    (try clear c2); (try clear c2b0); (try clear c2b1); (try clear p2); (try clear c3); (try clear c3b0); (try clear c3b1)
    obtain ⟨x3_1, x4_1, rfl, HA, HK1, HO_3, HB⟩ := hrel
    cases gk with
    | zero => exact absurd HA.out (by simp [laws_toBalanceS.l0])
    | succ k1 =>
     have H := HA.out
     clear HA
     simp only [laws_toBalanceS.l0] at H
     by_cases c6 : x4_1 < (l0.length : Int)
     ·rw [if_pos c6] at H
      have c6b0 := decide_eq_true c6
      clear c6
      by_cases c7 : 0 ≤ x4_1
      ·rw [if_pos c7] at H
       have c7b0 := decide_eq_true c7
       clear c7
       replace H := Option.bind_eq_some_iff.mp H
       obtain ⟨⟨t367, t368, t369⟩, A80, H⟩ := H
       replace H : (if x4_1 < (x3_1.length : Int) then (laws_toBalanceS.l0 k1 l0 (x3_1.set (x4_1 : Int).toNat (⟨t367, t368, t369⟩ : S104)) (wrap64 (x4_1 + 1))) else (none)) = some r := H
       have A8 := Aside0.mk A80
       clear A80
       by_cases c9 : x4_1 < (x3_1.length : Int)
       ·rw [if_pos c9] at H
        have c9b0 := decide_eq_true c9
        clear c9
        obtain ⟨y370, hy370⟩ : ∃ y_ : List (S104), y_ = (x3_1.set (x4_1 : Int).toNat (⟨t367, t368, t369⟩ : S104)) := ⟨_, rfl⟩
        replace H : (laws_toBalanceS.l0 k1 l0 y370 (wrap64 (x4_1 + 1))) = some r := q_h hy370 H
        have Ny370 := Aside0.mk hy370
        clear hy370
        have H' := Aside0.mk H
        clear H
        have p366 : 0 ≤ (x4_1 : Int) := q_d
        have q366 : x4_1 < (l0.length : Int) := q_d
        obtain ⟨ad366, e366, hx366_0, hx366_1, hx366_2⟩ := at_T115 HR0.out x4_1 p366 q366
        cases e366
        replace hx366_0 := q_x HB.out hx366_0
        replace hx366_1 := q_x HB.out hx366_1
        replace hx366_2 := q_x HB.out hx366_2
        replace p366 := eq_true p366
        replace q366 := eq_true q366
        go_wp2_with (first | ((with_reducible refine gate_callee (f := 82) rfl ?_); refine goesLq (some 20) rfl rfl Try.func82 (by kernel_rfl) rfl #[.agg #[.int .i64 ((rd_T115 l0 x4_1).f0), .int .i64 ((rd_T115 l0 x4_1).f1), .int .i64 ((rd_T115 l0 x4_1).f2)]] rfl ?_; (with_reducible refine (laws_toBalance.calls ((rd_T115 l0 x4_1).f0) ((rd_T115 l0 x4_1).f1) ((rd_T115 l0 x4_1).f2) t367 t368 t369 _ A8.out).mono ?_); rintro e w11 ⟨rfl, hb⟩; refine ⟨_, rfl, ?_⟩; have n0_ := Aside0.mk (Kd.R_below (q_r (HO_3.out)) hb); have n1_ := Aside0.mk (below_step bq hb); revert n0_ n1_; clear HO_3 HB; intro HO_3 HB; (try clear hb); (try clear hb2); (try clear hk); (try clear hi); have p10 : 0 ≤ (x4_1 : Int) := q_d; have q10 : (x4_1 : Int) < ((x3_1.length : Int) : Int) := q_d; obtain ⟨go10, co10, eo10, gb10, gl10, cl10, HG10⟩ := Kd.R_form HO_3.out (by omega); (first | cases eo10 | (injection eo10 with ea_ en_ ec_; (first | subst ea_ | (injection ea_ with ea_; subst ea_)); subst ec_; clear en_)); have GB10 := Aside0.mk gb10; have GG10 := Aside0.mk HG10; clear gb10 gl10 HG10; obtain ⟨ce10, hcl10, hM10, hcc10, hfr10⟩ := Kd.R_elem HO_3.out z104 (x4_1 : Int) p10 q10; obtain rfl := k104_openM hM10; have hx10_0 : w11.cell? ⟨go10, (x4_1 : Int).toNat * 3, none⟩ = some (.int .i64 ((rd_T104 x3_1 x4_1).f0)) := hcc10 0 _ rfl; have hx10_1 : w11.cell? ⟨go10, (x4_1 : Int).toNat * 3 + 1, none⟩ = some (.int .i64 ((rd_T104 x3_1 x4_1).f1)) := hcc10 1 _ rfl; have hx10_2 : w11.cell? ⟨go10, (x4_1 : Int).toNat * 3 + 2, none⟩ = some (.int .i64 ((rd_T104 x3_1 x4_1).f2)) := hcc10 2 _ rfl; have hf10_0 : w11.frozen? ⟨go10, (x4_1 : Int).toNat * 3, none⟩ = false := hfr10 0; have hf10_1 : w11.frozen? ⟨go10, (x4_1 : Int).toNat * 3 + 1, none⟩ = false := hfr10 1; have hf10_2 : w11.frozen? ⟨go10, (x4_1 : Int).toNat * 3 + 2, none⟩ = false := hfr10 2; clear hcl10 hcc10 hfr10; (try clear hM10); replace p10 := eq_true p10; replace q10 := eq_true q10; have HX12 := Aside0.mk (show Kd.R k104 104 w11 w.heap.size (fun _ => True) (.slice (some ⟨go10, 0, none⟩) x3_1.length co10) x3_1 from (q_r (HO_3.out))); obtain ⟨ce12, hcl12, hM12, hcc12, hfr12⟩ := Kd.R_elem HX12.out z104 (x4_1 : Int) q_d (by have h_ : (x4_1 : Int) < ((x3_1.length : Int) : Int) := q_d; first | exact h_ | (have e_ := (Kd.R_reads' HO_3.out).1; omega) | simpa using h_); obtain rfl := k104_openM hM12; have HP12 := Kd.R_seg HX12.out (x4_1 : Int) q_d (by have h_ : (x4_1 : Int) < ((x3_1.length : Int) : Int) := q_d; first | exact h_ | (have e_ := (Kd.R_reads' HO_3.out).1; omega) | simpa using h_) (seg := [.int .i64 t367, .int .i64 t368, .int .i64 t369]) (j := 0) hcl12 hcc12 (show 3 ≤ 3 from by decide) (x' := (⟨t367, t368, t369⟩ : S104)) (k104_mkM _ _ _ (⟨t367, t368, t369⟩ : S104) ) (fun _ hk => hk); have hx12_0 := hcc12 0 _ rfl; (try simp only [show (k104).sz = 3 from rfl, Nat.mul_one, Nat.add_zero] at hx12_0); have hf12_0 := hfr12 0; (try simp only [show (k104).sz = 3 from rfl, Nat.mul_one, Nat.add_zero] at hf12_0); have hx12_1 := hcc12 1 _ rfl; (try simp only [show (k104).sz = 3 from rfl, Nat.mul_one, Nat.add_zero] at hx12_1); have hf12_1 := hfr12 1; (try simp only [show (k104).sz = 3 from rfl, Nat.mul_one, Nat.add_zero] at hf12_1); have hx12_2 := hcc12 2 _ rfl; (try simp only [show (k104).sz = 3 from rfl, Nat.mul_one, Nat.add_zero] at hx12_2); have hf12_2 := hfr12 2; (try simp only [show (k104).sz = 3 from rfl, Nat.mul_one, Nat.add_zero] at hf12_2); clear hcl12 hcc12 hfr12; (try clear hM12)) | ((with_reducible refine gate_store (t := 104) (p := 21) rfl ?_); refine store_event (t := 104) (p := 21) (v := ?vo_w13) (w1 := (((w11.setCell ⟨go10, (x4_1 : Int).toNat * 3, none⟩ (.int .i64 t367)).setCell ⟨go10, (x4_1 : Int).toNat * 3 + 1, none⟩ (.int .i64 t368)).setCell ⟨go10, (x4_1 : Int).toNat * 3 + 2, none⟩ (.int .i64 t369))) ?hg ?ho ?hn ?hr ?_; (case ho => rfl); (case hg => rfl); (case hn => rfl); (case hr => first | (go_simp; done) | (go_simp; rfl)); intro w13 hw; have hg : w11.grownBy w13 (some go10) := (by rw [hw]; exact HP12.2); have hp_ : Kd.R k104 104 w13 w.heap.size (fun _ => True) (.slice (some ⟨go10, 0, none⟩) x3_1.length co10) y370 := (by rw [hw, Ny370.out]; exact HP12.1); clear HP12; have n0_ := Aside0.mk (hp_); have n1_ := Aside0.mk ((by rw [hw]; exact below_set (below_set (below_set (HB.out) GB10.out) GB10.out) GB10.out : Below w.heap.size w w13)); revert n0_ n1_; clear HO_3 HB; intro HO_3 HB; clear hg hw hp_))
        go_roundg k1
        case measure => have := HK1.out; omega
        case rel => exact ⟨(y370), (wrap64 (x4_1 + 1)), q_i, H', ⟨by have := HK1.out; omega⟩, ⟨q_r (HO_3.out)⟩, ⟨bq⟩⟩
       ·rw [if_neg c9] at H
        exact absurd H (by simp)
      ·rw [if_neg c7] at H
       exact absurd H (by simp)
     ·rw [if_neg c6] at H
      have c6b0 := decide_eq_false c6
      clear c6
      obtain rfl := Option.some.inj H
      go_wp2
      go_ret
      exact ⟨_, q_e, q_r (HO_3.out), bq⟩
  ·rw [if_neg c3] at H
   exact absurd H (by simp)
 ·rw [if_neg c2] at H
  exact absurd H (by simp)

end Go.Proofs.Ytanegggacfmkcaa.PFnExactSettleOne
