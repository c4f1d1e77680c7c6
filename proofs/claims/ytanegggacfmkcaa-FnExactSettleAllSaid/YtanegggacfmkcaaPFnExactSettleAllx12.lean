/- Functions that a law reaches, as plain Lean functions, with the proof that the machine comes to their answers. No conditions. -/
import Derived.Test.YtanegggacfmkcaaPFnExactSettleAllx0
import Derived.Test.YtanegggacfmkcaaPFnExactSettleAllx9
import Derived.Test.YtanegggacfmkcaaPFnExactSettleAllx11
namespace Go.Proofs.Ytanegggacfmkcaa.PFnExactSettleAll
open Go.RowKit Go.Proofs.YtanegggacfmkcaaW.PrintWords Go.Proofs.YtanegggacfmkcaaW.PrintLast Go.Proofs.YtanegggacfmkcaaW.PrintMore
attribute [local go_sem] max2_int min2_int max_two min_two max_three min_three max_four min_four   -- for this text's walks alone
set_option linter.unusedVariables false
set_option linter.unusedSimpArgs false
set_option maxHeartbeats 8000000
set_option maxRecDepth 100000

/-! ### spec_l1Legs: function 104 -/
def spec_l1Legs.l0 : Nat → Int → List (S86) → Int → Int → List (S86) → Option ((List (S86)))
  | 0, _, _, _, _, _ => none
  | k + 1, x1, x5, x6, x290000, x290001 => if x6 < (x290001.length : Int) then (if 0 ≤ x6 then (if ((rd_T86 x290001 x6).f0) = x1 then (if x5.length < 4398046511104 then (spec_l1Legs.l0 k x1 (x5 ++ [(⟨(rd_T86 x290001 x6).f0, (rd_T86 x290001 x6).f1, (rd_T86 x290001 x6).f2, (rd_T86 x290001 x6).f3⟩ : S86)]) (wrap64 (x6 + 1)) x290000 x290001) else (none)) else (spec_l1Legs.l0 k x1 x5 (wrap64 (x6 + 1)) x290000 x290001)) else (none)) else (some x5)
def spec_l1Legs.f (k : Nat) (a0_0 : Int) (l0_1 : List (S86)) (a1 : Int) : Option ((List (S86))) := spec_l1Legs.l0 k a1 (([] : List (S86))) 0 a0_0 l0_1
theorem spec_l1Legs.calls (k : Nat) (a0_0 : Int) (A0_1 : Option Addr) (c0_1 : Nat) (l0_1 : List (S86)) (a1 : Int) (r : List (S86)) (w : World) (hr0_1 : Kd.C k86 w A0_1 l0_1.length l0_1) (hc0_1 : l0_1.length ≤ c0_1) (h : spec_l1Legs.f k a0_0 l0_1 a1 = some r) :
  Calls Try.prog 104 #[.agg #[.int .i64 a0_0, .slice A0_1 l0_1.length c0_1], .int .i64 a1] w fun e w' => ∃ v0_ : Value, e = .returned (v0_) ∧ Kd.R k86 86 w' w.heap.size (fun _ => True) v0_ r ∧ Below w.heap.size w w' := by
 have hu40 := Try.underlying40
 have hu86 := Try.underlying86
 have HR0_1 := am hr0_1
 have HC0_1 := am hc0_1
 clear hr0_1 hc0_1
 have HB := am (Below.refl w.heap.size w)
 have H : (spec_l1Legs.l0 k a1 (([] : List (S86))) 0 a0_0 l0_1) = some r := h
 clear h
 obtain ⟨y290, hy290⟩ : ∃ y_ : List (S86), y_ = (([] : List (S86))) := ⟨_, rfl⟩
 replace H : (spec_l1Legs.l0 k a1 y290 0 a0_0 l0_1) = some r := q_h hy290 H
 have Ny290 := am hy290
 clear hy290
 have H' := am H
 clear H
 go_enter Try.func104, Try.ntmps104
 go_wp2_with (first | ((with_reducible refine gate_dst (N := 2) rfl ?_); refine q_box (N := 2) (cs := #[.int .i64 a0_0, .slice A0_1 l0_1.length c0_1]) (t := 40) ?_; intro gb289 hg w3 hbox hb; have n0_ := am (below_step bq hb); have n1_ := am (hbox); have n2_ := am ((q_g hg bq : w.heap.size ≤ gb289)); have n3_ := n2_; revert n0_ n1_ n2_ n3_; clear HB; intro HB BK289 GW289 GE289; clear hb hbox hg) | ((with_reducible refine gate_dst (N := 7) rfl ?_); refine Kd.R_lit k86 _ 86 ?hg (N := 7) ?hd (xs := ([] : List (S86))) (inner := []) (ok := fun _ => True) (okp := fun _ => True) ?hr ?hp (fun _ hk => hk) trivial (Below.refl _ _) (Nat.le_refl _) (by simp) ?_; (case hd => rfl); (case hg => rfl); (case hr => first | (go_simp; done) | (go_simp; rfl)); (case hp => exact (Reps.none _ _)); intro v291 w4 ho5 hb hg_ hnew_; clear hg_ hnew_; (first | rw [← Ny290.out] at ho5 | (simp only [Int.reduceToNat] at ho5; rw [← Ny290.out] at ho5)); have n0_ := am (Kd.R_lower ho5 (below_size bq)); have n1_ := am (blk_below (q_b BK289.out) hb); have n2_ := am (below_step bq hb); revert n0_ n1_ n2_; clear BK289 HB; intro HO292 BK289 HB; clear hb ho5))
 go_loopg [5, 6] k (fun kq v5 v6 w' => ∃ (x5_1 : List (S86)) (x6_1 : Int), v6 = .int .i64 x6_1 ∧ Aside0 (spec_l1Legs.l0 kq a1 x5_1 x6_1 a0_0 l0_1 = some r) ∧ Aside0 (kq ≤ k) ∧ Aside0 (Kd.R k86 86 w' w.heap.size (fun _ => True) v5 x5_1) ∧ Aside0 (w'.heap[gb289]? = some (.cells #[.int .i64 a0_0, (.slice A0_1 l0_1.length c0_1)] 40 (0, 0))) ∧ Aside0 (Below w.heap.size w w'))
 case atStart => exact ⟨(y290), (0), q_i, H', ⟨Nat.le_refl _⟩, ⟨q_r (HO292.out)⟩, ⟨q_b BK289.out⟩, ⟨bq⟩⟩
 case round =>
  clear H'
  (try clear c1); (try clear p2)
  obtain ⟨x5_1, x6_1, rfl, HA, HK1, HO_5, BK289, HB⟩ := hrel
  cases gk with
  | zero => exact absurd HA.out (by simp [spec_l1Legs.l0])
  | succ k1 =>
   have H := HA.out
   clear HA
   simp only [spec_l1Legs.l0] at H
   by_cases c6 : x6_1 < (l0_1.length : Int)
   ·rw [if_pos c6] at H
    have c6b0 := decide_eq_true c6
    clear c6
    by_cases c7 : 0 ≤ x6_1
    ·rw [if_pos c7] at H
     have c7b0 := decide_eq_true c7
     clear c7
     by_cases c8 : ((rd_T86 l0_1 x6_1).f0) = a1
     ·rw [if_pos c8] at H
      have c8b0 : (((rd_T86 l0_1 x6_1).f0) == a1) = true := beq_iff_eq.mpr c8
      have c8b1 : (((rd_T86 l0_1 x6_1).f0) != a1) = false := bne_eq_false_iff_eq.mpr c8
      clear c8
      by_cases c9 : x5_1.length < 4398046511104
      ·rw [if_pos c9] at H
       have LMc9 := am c9
       clear c9
       obtain ⟨y295, hy295⟩ : ∃ y_ : List (S86), y_ = (x5_1 ++ [(⟨(rd_T86 l0_1 x6_1).f0, (rd_T86 l0_1 x6_1).f1, (rd_T86 l0_1 x6_1).f2, (rd_T86 l0_1 x6_1).f3⟩ : S86)]) := ⟨_, rfl⟩
       replace H : (spec_l1Legs.l0 k1 a1 y295 (wrap64 (x6_1 + 1)) a0_0 l0_1) = some r := q_h hy295 H
       have Ny295 := am hy295
       clear hy295
       have H' := am H
       clear H
       obtain ⟨hcz10_0, hcz10_1, hfz10_0, hfz10_1⟩ := q_2 BK289.out
       have p293 : 0 ≤ (x6_1 : Int) := q_d
       have q293 : x6_1 < (l0_1.length : Int) := q_d
       obtain ⟨ad293, e293, hx293_0, hx293_1, hx293_2, hx293_3⟩ := at_T86 HR0_1.out x6_1 p293 q293
       cases e293
       replace hx293_0 := q_x HB.out hx293_0
       replace hx293_1 := q_x HB.out hx293_1
       replace hx293_2 := q_x HB.out hx293_2
       replace hx293_3 := q_x HB.out hx293_3
       replace p293 := eq_true p293
       replace q293 := eq_true q293
       have p294 : 0 ≤ (x6_1 : Int) := q_d
       have q294 : x6_1 < (l0_1.length : Int) := q_d
       obtain ⟨ad294, e294, hx294_0, hx294_1, hx294_2, hx294_3⟩ := at_T86 HR0_1.out x6_1 p294 q294
       obtain rfl : ad293 = ad294 := (by injection e294)
       replace hx294_0 := q_x HB.out hx294_0
       replace hx294_1 := q_x HB.out hx294_1
       replace hx294_2 := q_x HB.out hx294_2
       replace hx294_3 := q_x HB.out hx294_3
       replace p294 := eq_true p294
       replace q294 := eq_true q294
       go_wp2_with (first | ((with_reducible refine gate_builtin (b := .append) (xs := #[.tmp 23, .tmp 29]) rfl ?_); at_builtin; refine Kd.R_append k86 (w0 := w) w.heap.size rfl (.tmp 23) (.tmp 29) 38 86 (.agg #[(.int .i64 0), (.int .i64 0), (.int .i64 0), (.int .i64 0)]) 32 rfl Try.underlying38 info86 rfl (by decide) (by omega) u5 x5_1 (⟨(rd_T86 l0_1 x6_1).f0, (rd_T86 l0_1 x6_1).f1, (rd_T86 l0_1 x6_1).f2, (rd_T86 l0_1 x6_1).f3⟩ : S86) [.int .i64 ((rd_T86 l0_1 x6_1).f0), .int .i64 ((rd_T86 l0_1 x6_1).f1), .int .i64 ((rd_T86 l0_1 x6_1).f2), .int .i64 ((rd_T86 l0_1 x6_1).f3)] (fun _ => True) (fun _ => False) rfl rfl ?aP (fun _ hk => hk.elim) ?aF ?aO ?aB ?aS ?aL ?_; (case aP => exact k86_mkM _ _ _ (⟨(rd_T86 l0_1 x6_1).f0, (rd_T86 l0_1 x6_1).f1, (rd_T86 l0_1 x6_1).f2, (rd_T86 l0_1 x6_1).f3⟩ : S86)); (case aB => exact bq); (case aF => exact (fun _ _ => trivial)); (case aO => exact (q_r (HO_5.out))); (case aS => exact (below_size bq)); (case aL => have := LMc9.out; omega); intro v296 w11 ho hb hg hat; rw [← Ny295.out] at ho; have n0_ := am (blk_grown (q_b BK289.out) hg (Kd.R_ne HO_5.out BK289.out (by decide))); have n1_ := am (hb); have n2_ := am (ho); revert n0_ n1_ n2_; clear BK289 HB HO_5; intro BK289 HB HO297; clear ho hb hg hat))
       go_roundg k1
       case measure => have := HK1.out; omega
       case rel => exact ⟨(y295), (wrap64 (x6_1 + 1)), q_i, H', ⟨by have := HK1.out; omega⟩, ⟨q_r (HO297.out)⟩, ⟨q_b BK289.out⟩, ⟨bq⟩⟩
      ·rw [if_neg c9] at H
       exact absurd H (by simp)
     ·rw [if_neg c8] at H
      have c8b0 : (((rd_T86 l0_1 x6_1).f0) == a1) = false := beq_eq_false_iff_ne.mpr c8
      have c8b1 : (((rd_T86 l0_1 x6_1).f0) != a1) = true := bne_iff_ne.mpr c8
      have H' := am H
      clear H
      obtain ⟨hcz12_0, hcz12_1, hfz12_0, hfz12_1⟩ := q_2 BK289.out
      have p293 : 0 ≤ (x6_1 : Int) := q_d
      have q293 : x6_1 < (l0_1.length : Int) := q_d
      obtain ⟨ad293, e293, hx293_0, hx293_1, hx293_2, hx293_3⟩ := at_T86 HR0_1.out x6_1 p293 q293
      cases e293
      replace hx293_0 := q_x HB.out hx293_0
      replace hx293_1 := q_x HB.out hx293_1
      replace hx293_2 := q_x HB.out hx293_2
      replace hx293_3 := q_x HB.out hx293_3
      replace p293 := eq_true p293
      replace q293 := eq_true q293
      go_wp2
      go_roundg k1
      case measure => have := HK1.out; omega
      case rel => exact ⟨(x5_1), (wrap64 (x6_1 + 1)), q_i, H', ⟨by have := HK1.out; omega⟩, ⟨q_r (HO_5.out)⟩, ⟨q_b BK289.out⟩, ⟨bq⟩⟩
    ·rw [if_neg c7] at H
     exact absurd H (by simp)
   ·rw [if_neg c6] at H
    have c6b0 := decide_eq_false c6
    clear c6
    obtain rfl := Option.some.inj H
    obtain ⟨hcz13_0, hcz13_1, hfz13_0, hfz13_1⟩ := q_2 BK289.out
    go_wp2
    go_ret
    exact ⟨_, q_e, q_r (HO_5.out), bq⟩

/-! ### spec_l2Settle: function 63 -/
def spec_l2Settle.l0 : Nat → Int → List (List (S104)) → Int → List (S86) → List (List (S104)) → Option ((List (List (S104))))
  | 0, _, _, _, _, _ => none
  | k + 1, x6, x299000, x300000, x300001, x302000 => if x6 < (x299000.length : Int) then (if 0 ≤ x6 then ((spec_l1Legs.f k x300000 x300001 x6).bind fun t303 => ((spec_l2Add.f k (rd_L2 x299000 x6) t303).bind fun t306 => (if x302000.length < 5864062014805 then (spec_l2Settle.l0 k (wrap64 (x6 + 1)) x299000 x300000 x300001 (x302000 ++ [t306])) else (none)))) else (none)) else (some x302000)
def spec_l2Settle.f (k : Nat) (l0_0 : List (List (S104))) (a1_0 : Int) (l1_1 : List (S86)) : Option ((List (List (S104)))) := spec_l2Settle.l0 k 0 l0_0 a1_0 l1_1 ([] : List (List (S104)))
def spec_l2Settle.T5 : Bool × List (List Nat × List Nat) := (true, [([], []), ([0], [0]), ([], []), ([2], [2]), ([], []), ([3, 4], [3, 4]), ([5], [5]), ([], []), ([], []), ([7, 8], [7, 8]), ([6, 9, 9], [6, 9]), ([10], [10]), ([1, 11, 10], [1, 11]), ([0, 1, 2, 3, 4, 5, 6, 7, 8, 9, 10, 11, 12], []), ([13, 12, 12, 0, 1, 2, 3, 4, 5, 6, 7, 8, 9, 10, 11, 12], [12, 13])])
def spec_l2Settle.B5 : List Nat := [0, 1, 0, 4, 0, 28, 60, 0, 0, 384, 1020, 2044, 4095, 8191, 16383]
theorem spec_l2Settle.tab5 : rtab .any (opsOf Try.f63 5) = spec_l2Settle.T5 := by kernel_rfl
theorem spec_l2Settle.bits5 : waitsOk spec_l2Settle.T5.2 spec_l2Settle.B5 = true := by kernel_rfl
theorem spec_l2Settle.calls (k : Nat) (A0_0 : Option Addr) (c0_0 : Nat) (l0_0 : List (List (S104))) (a1_0 : Int) (A1_1 : Option Addr) (c1_1 : Nat) (l1_1 : List (S86)) (r : List (List (S104))) (w : World) (hr0_0 : Kd.C (Kd.slice 104 k104) w A0_0 l0_0.length l0_0) (hc0_0 : l0_0.length ≤ c0_0) (hr1_1 : Kd.C k86 w A1_1 l1_1.length l1_1) (hc1_1 : l1_1.length ≤ c1_1) (h : spec_l2Settle.f k l0_0 a1_0 l1_1 = some r) :
  Calls Try.prog 63 #[.agg #[.slice A0_0 l0_0.length c0_0], .agg #[.int .i64 a1_0, .slice A1_1 l1_1.length c1_1]] w fun e w' => ∃ v0_ : Value, e = .returned (.agg #[v0_]) ∧ Kd.S (Kd.slice 104 k104) 64 w' w.heap.size (fun _ => True) v0_ r ∧ Below w.heap.size w w' := by
 have hu26 := Try.underlying26
 have hu40 := Try.underlying40
 have HR0_0 := am hr0_0
 have HC0_0 := am hc0_0
 clear hr0_0 hc0_0
 have HR1_1 := am hr1_1
 have HC1_1 := am hc1_1
 clear hr1_1 hc1_1
 have HB := am (Below.refl w.heap.size w)
 have H : (spec_l2Settle.l0 k 0 l0_0 a1_0 l1_1 ([] : List (List (S104)))) = some r := h
 clear h
 have H' := am H
 clear H
 go_enter Try.func63, Try.ntmps63
 go_wp2_with (first | ((with_reducible refine gate_dst (N := 2) rfl ?_); refine q_box (N := 2) (cs := #[.slice A0_0 l0_0.length c0_0]) (t := 26) ?_; intro gb298 hg w3 hbox hb; have n0_ := am (below_step bq hb); have n1_ := am (hbox); have n2_ := am ((q_g hg bq : w.heap.size ≤ gb298)); have n3_ := n2_; revert n0_ n1_ n2_ n3_; clear HB; intro HB BK298 GW298 GE298; clear hb hbox hg) | ((with_reducible refine gate_dst (N := 3) rfl ?_); refine q_box (N := 3) (cs := #[.int .i64 a1_0, .slice A1_1 l1_1.length c1_1]) (t := 40) ?_; intro gb299 hg w4 hbox hb; have n0_ := am (blk_below (q_b BK298.out) hb); have n1_ := am (below_step bq hb); have n2_ := am (hbox); have n3_ := am ((q_g hg bq : w.heap.size ≤ gb299)); have n4_ := n3_; have n5_ := am ((q_n hg (q_b BK298.out) : gb298 ≠ gb299)); have n6_ := am n5_.out.symm; revert n0_ n1_ n2_ n3_ n4_ n5_ n6_; clear BK298 HB; intro BK298 HB BK299 GW299 GE299 NB298_299 NB299_298; clear hb hbox hg) | ((with_reducible refine gate_dst (N := 4) rfl ?_); refine q_box (N := 4) (cs := #[.slice none 0 0]) (t := 26) ?_; intro gb300 hg w5 hbox hb; have n0_ := am (blk_below (q_b BK298.out) hb); have n1_ := am (blk_below (q_b BK299.out) hb); have n2_ := am (below_step bq hb); have n3_ := am (hbox); have n4_ := am ((q_g hg bq : w.heap.size ≤ gb300)); have n5_ := n4_; have n6_ := am ((q_n hg (q_b BK298.out) : gb298 ≠ gb300)); have n7_ := am n6_.out.symm; have n8_ := am ((q_n hg (q_b BK299.out) : gb299 ≠ gb300)); have n9_ := am n8_.out.symm; revert n0_ n1_ n2_ n3_ n4_ n5_ n6_ n7_ n8_ n9_; clear BK298 BK299 HB; intro BK298 BK299 HB BK300 GW300 GE300 NB298_300 NB300_298 NB299_300 NB300_299; clear hb hbox hg) | ((with_reducible refine gate_dst (N := 5) rfl ?_); refine q_box (N := 5) (cs := #[.slice none 0 0]) (t := 26) ?_; intro gb301 hg w6 hbox hb; have n0_ := am (blk_below (q_b BK298.out) hb); have n1_ := am (blk_below (q_b BK299.out) hb); have n2_ := am (blk_below (q_b BK300.out) hb); have n3_ := am (below_step bq hb); have n4_ := am (hbox); have n5_ := am ((q_g hg bq : w.heap.size ≤ gb301)); have n6_ := n5_; have n7_ := am ((q_n hg (q_b BK298.out) : gb298 ≠ gb301)); have n8_ := am n7_.out.symm; have n9_ := am ((q_n hg (q_b BK299.out) : gb299 ≠ gb301)); have n10_ := am n9_.out.symm; have n11_ := am ((q_n hg (q_b BK300.out) : gb300 ≠ gb301)); have n12_ := am n11_.out.symm; revert n0_ n1_ n2_ n3_ n4_ n5_ n6_ n7_ n8_ n9_ n10_ n11_ n12_; clear BK298 BK299 BK300 HB; intro BK298 BK299 BK300 HB BK301 GW301 GE301 NB298_301 NB301_298 NB299_301 NB301_299 NB300_301 NB301_300; clear hb hbox hg; have hnb7 := NB301_298.out; have hnc7 := NB298_301.out; have hnb8 := NB301_299.out; have hnc8 := NB299_301.out; have hnb9 := NB301_300.out; have hnc9 := NB300_301.out; obtain ⟨hcz10_0, hfz10_0⟩ := q_1 BK301.out))
 go_loopg [6] k (fun kq v6 w' => ∃ (x6_1 : Int) (x302000_1 : List (List (S104))) (u302000 : Value), v6 = .int .i64 x6_1 ∧ Aside0 (spec_l2Settle.l0 kq x6_1 l0_0 a1_0 l1_1 x302000_1 = some r) ∧ Aside0 (kq ≤ k) ∧ Aside0 (Kd.S (Kd.slice 104 k104) 64 w' w.heap.size (fun _ => True) u302000 x302000_1) ∧ Aside0 (w'.heap[gb298]? = some (.cells #[(.slice A0_0 l0_0.length c0_0)] 26 (0, 0))) ∧ Aside0 (w'.heap[gb299]? = some (.cells #[.int .i64 a1_0, (.slice A1_1 l1_1.length c1_1)] 40 (0, 0))) ∧ Aside0 (w'.heap[gb300]? = some (.cells #[(.slice none 0 0)] 26 (0, 0))) ∧ Aside0 (w'.heap[gb301]? = some (.cells #[u302000] 26 (0, 0))) ∧ Aside0 (Below w.heap.size w w'))
 case atStart => exact ⟨(0), (([] : List (List (S104)))), (.slice none 0 0), q_i, H', ⟨Nat.le_refl _⟩, ⟨by first | exact Kd.S_nil _ _ _ _ _ | exact Kd.N_nil _ _ _ _ _ | exact Kd.V_nil _ _ _ _ _ | exact Kd.Q_nil _ _ _ _ _ | exact Kd.R_nil _ _ _ _ _⟩, ⟨by (with_reducible repeat (first | refine blk_drewN ?_ _ | refine blk_drew ?_ | refine blk_alloc ?_ _)); refine blk_far ?_ NB298_301.out _; (with_reducible repeat (first | refine blk_drewN ?_ _ | refine blk_drew ?_ | refine blk_alloc ?_ _)); exact BK298.out⟩, ⟨by (with_reducible repeat (first | refine blk_drewN ?_ _ | refine blk_drew ?_ | refine blk_alloc ?_ _)); refine blk_far ?_ NB299_301.out _; (with_reducible repeat (first | refine blk_drewN ?_ _ | refine blk_drew ?_ | refine blk_alloc ?_ _)); exact BK299.out⟩, ⟨by (with_reducible repeat (first | refine blk_drewN ?_ _ | refine blk_drew ?_ | refine blk_alloc ?_ _)); refine blk_far ?_ NB300_301.out _; (with_reducible repeat (first | refine blk_drewN ?_ _ | refine blk_drew ?_ | refine blk_alloc ?_ _)); exact BK300.out⟩, ⟨by (with_reducible repeat (first | refine blk_drewN ?_ _ | refine blk_drew ?_ | refine blk_alloc ?_ _)); refine blk_put (cs := #[.slice none 0 0]) ?_ 0 _ rfl; (with_reducible repeat (first | refine blk_drewN ?_ _ | refine blk_drew ?_ | refine blk_alloc ?_ _)); exact BK301.out⟩, ⟨bq⟩⟩
 case round =>
  clear H'
  (try clear c1); (try clear p2); (try clear c6); (try clear c7); (try clear c8); (try clear c9); (try clear hcz10_0); (try clear hfz10_0)
  obtain ⟨x6_1, x302000_1, u302000, rfl, HA, HK1, HO_302000, BK298, BK299, BK300, BK301, HB⟩ := hrel
  cases gk with
  | zero => exact absurd HA.out (by simp [spec_l2Settle.l0])
  | succ k1 =>
   have H := HA.out
   clear HA
   simp only [spec_l2Settle.l0] at H
   by_cases c11 : x6_1 < (l0_0.length : Int)
   ·rw [if_pos c11] at H
    have c11b0 := decide_eq_true c11
    clear c11
    by_cases c12 : 0 ≤ x6_1
    ·rw [if_pos c12] at H
     have c12b0 := decide_eq_true c12
     clear c12
     replace H := ob H
     obtain ⟨t303, A130, H⟩ := H
     replace H : ((spec_l2Add.f k1 (rd_L2 l0_0 x6_1) t303).bind fun t306 => (if x302000_1.length < 5864062014805 then (spec_l2Settle.l0 k1 (wrap64 (x6_1 + 1)) l0_0 a1_0 l1_1 (x302000_1 ++ [t306])) else (none))) = some r := H
     have A13 := am A130
     clear A130
     replace H := ob H
     obtain ⟨t306, A140, H⟩ := H
     replace H : (if x302000_1.length < 5864062014805 then (spec_l2Settle.l0 k1 (wrap64 (x6_1 + 1)) l0_0 a1_0 l1_1 (x302000_1 ++ [t306])) else (none)) = some r := H
     have A14 := am A140
     clear A140
     by_cases c15 : x302000_1.length < 5864062014805
     ·rw [if_pos c15] at H
      have LMc15 := am c15
      clear c15
      obtain ⟨y309, hy309⟩ : ∃ y_ : List (List (S104)), y_ = (x302000_1 ++ [t306]) := ⟨_, rfl⟩
      replace H : (spec_l2Settle.l0 k1 (wrap64 (x6_1 + 1)) l0_0 a1_0 l1_1 y309) = some r := q_h hy309 H
      have Ny309 := am hy309
      clear hy309
      have H' := am H
      clear H
      have hnb16 := NB298_299.out
      have hnc16 := NB299_298.out
      have hnb17 := NB298_300.out
      have hnc17 := NB300_298.out
      have hnb18 := NB298_301.out
      have hnc18 := NB301_298.out
      obtain ⟨hcz19_0, hfz19_0⟩ := q_1 BK298.out
      try go_wp2
      have n0_ := am (Kd.S_drew HO_302000.out)
      have n1_ := am (blk_drew BK298.out)
      have n2_ := am (blk_drew BK299.out)
      have n3_ := am (blk_drew BK300.out)
      have n4_ := am (blk_drew BK301.out)
      have n5_ := am (below_drew1 HB.out)
      clear HO_302000
      clear BK298
      clear BK299
      clear BK300
      clear BK301
      clear HB
      have HO_302000 := n0_
      have BK298 := n1_
      have BK299 := n2_
      have BK300 := n3_
      have BK301 := n4_
      have HB := n5_
      clear n0_ n1_ n2_ n3_ n4_ n5_
      have p302 : 0 ≤ (x6_1 : Int) := q_d
      have q302 : x6_1 < (l0_0.length : Int) := q_d
      obtain ⟨ad302, A302_0, c302_0, e302, hx302_0, hl302_0, hi302_0⟩ := at_L2 HR0_0.out x6_1 p302 q302
      have hw302_0 := hx302_0
      cases e302
      replace hx302_0 := q_x HB.out hx302_0
      have HR302_0 := am hi302_0
      have HC302_0 := am hl302_0
      clear hi302_0 hl302_0
      replace p302 := eq_true p302
      replace q302 := eq_true q302
      refine start_ (n := 15) (S := fun w' => w'.cell? ⟨gb301, 0, none⟩ = some (u302000) ∧ w'.cell? ⟨gb298, 0, none⟩ = some (.slice (some ad302) l0_0.length c0_0) ∧ w'.cell? ⟨gb299, 0, none⟩ = some (.int .i64 a1_0) ∧ w'.cell? ⟨gb299, 1, none⟩ = some (.slice A1_1 l1_1.length c1_1) ∧ w'.cell? (ad302.add (x6_1).toNat) = some (.slice A302_0 (rd_L2 l0_0 x6_1).length c302_0)) (ds := [14]) #[false, false, false, false, false, false, false, false, false, false, false, false, false, false, false] (by kernel_rfl) rfl rfl ⟨q_z BK301.out 0, q_z BK298.out 0, q_z BK299.out 0, q_z BK299.out 1, ((HB.out.cell (wb hw302_0)).trans hw302_0)⟩ (fun hHeld => ?_); refine with_tabW spec_l2Settle.tab5 spec_l2Settle.bits5 (fun HT_ HW_ => ?_)
      generalize wr.drew = w20 at HO_302000 BK298 BK299 BK300 BK301 HB HR302_0 hx302_0 hHeld ⊢
      refine q_p 0 (some 15) #[true, false, false, false, false, false, false, false, false, false, false, false, false, false, false] HT_.out ?_
      refine q_p 2 (some 17) #[true, false, true, false, false, false, false, false, false, false, false, false, false, false, false] HT_.out ?_
      refine q_p 4 (some 19) #[true, false, true, false, true, false, false, false, false, false, false, false, false, false, false] HT_.out ?_
      refine q_p 8 (some 23) #[true, false, true, false, true, false, false, false, true, false, false, false, false, false, false] HT_.out ?_
      refine q_t 1 (some 16) #[true, true, true, false, true, false, false, false, true, false, false, false, false, false, false] HT_.out HW_.out hHeld ?_
      refine q_t 3 (some 18) #[true, true, true, true, true, false, false, false, true, false, false, false, false, false, false] HT_.out HW_.out hHeld ?_
      refine q_p 5 (some 20) #[true, true, true, true, true, true, false, false, true, false, false, false, false, false, false] HT_.out ?_
      refine q_t 6 (some 21) #[true, true, true, true, true, true, true, false, true, false, false, false, false, false, false] HT_.out HW_.out hHeld ?_
      refine q_t 7 (some 22) #[true, true, true, true, true, true, true, true, true, false, false, false, false, false, false] HT_.out HW_.out hHeld ?_
      refine one_ (i := 9) (N := some 24) #[true, true, true, true, true, true, true, true, true, true, false, false, false, false, false] rfl rfl (one_of HT_.out (by kernel_rfl)) (by decide) (fun K hK => ?_)
      refine goes_ Try.func104 (by kernel_rfl) rfl #[.agg #[.int .i64 a1_0, .slice A1_1 l1_1.length c1_1], .int .i64 x6_1] (by rfl) rfl rfl (by (try simp only [List.map_toArray, List.map_cons, List.map_nil]); first | done | rfl | (simp only [List.length_drop, List.length_take]; rfl)) ?_
      with_reducible refine (spec_l1Legs.calls k1 a1_0 _ _ l1_1 x6_1 t303 _ ?side1 ?side2 A13.out).mono ?_
      (case side1 => exact q_c ((Kd.C_below HR1_1.out HB.out)))
      (case side2 => exact HC1_1.out)
      rintro e w21 ⟨v304, rfl, ho0, hb⟩
      refine ⟨_, rfl, ?_⟩
      have n0_ := am (Kd.S_below (q_s (HO_302000.out)) hb)
      have n1_ := am (Kd.R_lower ho0 (below_size bq))
      have n2_ := am (blk_below (q_b BK298.out) hb)
      have n3_ := am (blk_below (q_b BK299.out) hb)
      have n4_ := am (blk_below (q_b BK300.out) hb)
      have n5_ := am (blk_below (q_b BK301.out) hb)
      have n6_ := am (below_step bq hb)
      clear HO_302000
      clear BK298
      clear BK299
      clear BK300
      clear BK301
      clear HB
      have HO_302000 := n0_
      have HO305 := n1_
      have BK298 := n2_
      have BK299 := n3_
      have BK300 := n4_
      have BK301 := n5_
      have HB := n6_
      clear n0_ n1_ n2_ n3_ n4_ n5_ n6_
      (try clear hb)
      (try clear hb2)
      (try clear hk)
      (try clear hi)
      (try clear ho0)
      obtain ⟨Ao22, co22, eo22⟩ := Kd.R_slice HO305.out
      (first | subst eo22 | (injection eo22 with f1_ f2_ f3_; have f4_ := f1_.symm; have f5_ := f3_.symm; clear f1_ f2_ f3_; subst f4_; subst f5_))
      refine hK.out _ _ ⟨q_z BK301.out 0, q_z BK298.out 0, q_z BK299.out 0, q_z BK299.out 1, ((HB.out.cell (wb hw302_0)).trans hw302_0)⟩ (fun hHeld => ?_)
      clear hK K
      refine norm_ (a' := ?_) ?_ ?_
      rotate_left
      ·show Act.put _ (some 24) _ = _
       simp only [Act.put, List.setIfInBounds_toArray, List.set_cons_zero, List.set_cons_succ, i64_w, i32_w]
       rfl
      refine one_ (i := 10) (N := some 25) #[true, true, true, true, true, true, true, true, true, true, true, false, false, false, false] rfl rfl (one_of HT_.out (by kernel_rfl)) (by decide) (fun K hK => ?_)
      refine goes_ Try.func103 (by kernel_rfl) rfl #[.slice A302_0 (rd_L2 l0_0 x6_1).length c302_0, .slice Ao22 t303.length co22] (by rfl) rfl rfl (by (try simp only [List.map_toArray, List.map_cons, List.map_nil]); first | done | rfl | (simp only [List.length_drop, List.length_take]; rfl)) ?_
      with_reducible refine (spec_l2Add.calls k1 _ _ (rd_L2 l0_0 x6_1) _ _ t303 t306 _ ?side1 ?side2 ?side3 ?side4 A14.out).mono ?_
      (case side1 => exact q_c ((Kd.C_below HR302_0.out HB.out)))
      (case side2 => exact HC302_0.out)
      (case side3 => exact q_c ((Kd.R_reads' HO305.out).2.2))
      (case side4 => exact (Kd.R_reads' HO305.out).2.1)
      rintro e w23 ⟨v307, rfl, ho0, hb⟩
      refine ⟨_, rfl, ?_⟩
      have n0_ := am (Kd.S_elder' (q_s (HO_302000.out)) (Kd.R_base ho0) hb)
      have n1_ := am (Kd.R_below (q_r (HO305.out)) hb)
      have n2_ := am (Kd.R_lower ho0 (below_size bq))
      have n3_ := am (blk_below (q_b BK298.out) hb)
      have n4_ := am (blk_below (q_b BK299.out) hb)
      have n5_ := am (blk_below (q_b BK300.out) hb)
      have n6_ := am (blk_below (q_b BK301.out) hb)
      have n7_ := am (below_step bq hb)
      clear HO_302000
      clear HO305
      clear BK298
      clear BK299
      clear BK300
      clear BK301
      clear HB
      have HO_302000 := n0_
      have HO305 := n1_
      have HO308 := n2_
      have BK298 := n3_
      have BK299 := n4_
      have BK300 := n5_
      have BK301 := n6_
      have HB := n7_
      clear n0_ n1_ n2_ n3_ n4_ n5_ n6_ n7_
      (try clear hb)
      (try clear hb2)
      (try clear hk)
      (try clear hi)
      (try clear ho0)
      obtain ⟨Ao25, co25, eo25⟩ := Kd.R_slice HO308.out
      (first | subst eo25 | (injection eo25 with f1_ f2_ f3_; have f4_ := f1_.symm; have f5_ := f3_.symm; clear f1_ f2_ f3_; subst f4_; subst f5_))
      refine hK.out _ _ ⟨q_z BK301.out 0, q_z BK298.out 0, q_z BK299.out 0, q_z BK299.out 1, ((HB.out.cell (wb hw302_0)).trans hw302_0)⟩ (fun hHeld => ?_)
      clear hK K
      refine norm_ (a' := ?_) ?_ ?_
      rotate_left
      ·show Act.put _ (some 25) _ = _
       simp only [Act.put, List.setIfInBounds_toArray, List.set_cons_zero, List.set_cons_succ, i64_w, i32_w]
       rfl
      refine one_ (i := 11) (N := some 26) #[true, true, true, true, true, true, true, true, true, true, true, true, false, false, false] rfl rfl (one_of HT_.out (by kernel_rfl)) (by decide) (fun K hK => ?_)
      refine value_ (w1 := ?_) (v := ?_) (by rfl) rfl ?_ ?_
      rotate_left 2
      ·go_simp
       constructor
       ·rfl
       ·rfl
      refine hK.out _ _ ⟨(blk_cell (blk_alloc BK301.out _) 0).trans rfl, (blk_cell (blk_alloc BK298.out _) 0).trans rfl, (blk_cell (blk_alloc BK299.out _) 0).trans rfl, (blk_cell (blk_alloc BK299.out _) 1).trans rfl, (World.cell?_alloc_lt _ _ _ (wb (((HB.out.cell (wb hw302_0)).trans hw302_0)))).trans (((HB.out.cell (wb hw302_0)).trans hw302_0))⟩ (fun hHeld => ?_)
      clear hK K
      refine norm_ (a' := ?_) ?_ ?_
      rotate_left
      ·show Act.put _ (some 26) _ = _
       simp only [Act.put, List.setIfInBounds_toArray, List.set_cons_zero, List.set_cons_succ, i64_w, i32_w]
       rfl
      refine one_ (i := 12) (N := some 27) #[true, true, true, true, true, true, true, true, true, true, true, true, true, false, false] rfl rfl (one_of HT_.out (by kernel_rfl)) (by decide) (fun K hK => ?_)
      refine Kd.S_append_step (Kd.slice 104 k104) (w0 := w) w.heap.size (by rfl) (.tmp 16) (.tmp 26) 24 64 (.slice none 0 0) 24 rfl Try.underlying24 info64 rfl (by decide) (by omega) u302000 x302000_1 t306 [.slice Ao25 t306.length co25] (fun _ => True) (fun k_ => some k_ = (.slice Ao25 t306.length co25 : Value).ownBlock) rfl rfl ?aP (fun k_ hk_ => ((Kd.R_mono (ok' := fun k_ => ((fun _ => True)) k_ ∧ some k_ ≠ (u302000 : Value).ownBlock) (Kd.R_apart' (HO308.out) (Kd.S_typed HO_302000.out) (by decide)) (fun k_ hk => ⟨trivial, hk.2⟩))).1 k_ hk_.symm) ?aF ?aO ?aB ?aS ?aL ?_
      (case aP => exact Kd.M_row (Kd.R_mono (Kd.R_tight rfl (Kd.R_mono (ok' := fun k_ => ((fun _ => True)) k_ ∧ some k_ ≠ (u302000 : Value).ownBlock) (Kd.R_apart' (HO308.out) (Kd.S_typed HO_302000.out) (by decide)) (fun k_ hk => ⟨trivial, hk.2⟩))) (fun _ h_ => h_)))
      (case aB => exact bq)
      (case aF => exact (fun _ _ => trivial))
      (case aO => exact (by (with_reducible repeat (first | apply Kd.S_alloc | apply Kd.S_drewN | apply Kd.S_drew)); exact Kd.S_mono HO_302000.out (fun k_ hk => ⟨trivial, fun e_ => hk.2 e_⟩)))
      (case aS => exact (below_size bq))
      (case aL => have := LMc15.out; omega)
      intro v310 w24 ho hb hg hat
      rw [← Ny309.out] at ho
      have n0_ := am (blk_grown (q_b BK298.out) hg (Kd.S_ne HO_302000.out BK298.out (by decide)))
      have n1_ := am (blk_grown (q_b BK299.out) hg (Kd.S_ne HO_302000.out BK299.out (by decide)))
      have n2_ := am (blk_grown (q_b BK300.out) hg (Kd.S_ne HO_302000.out BK300.out (by decide)))
      have n3_ := am (blk_grown (q_b BK301.out) hg (Kd.S_ne HO_302000.out BK301.out (by decide)))
      have n4_ := am (Kd.R_over' (q_r (HO305.out)) (Kd.S_typed (q_s (HO_302000.out))) (by decide) hg)
      have n5_ := am (hb)
      have n6_ := am (ho)
      clear BK298
      clear BK299
      clear BK300
      clear BK301
      clear HO305
      clear HB
      clear HO_302000
      clear HO308
      have BK298 := n0_
      have BK299 := n1_
      have BK300 := n2_
      have BK301 := n3_
      have HO305 := n4_
      have HB := n5_
      have HO311 := n6_
      clear n0_ n1_ n2_ n3_ n4_ n5_ n6_
      clear ho hb hg hat
      obtain ⟨Ao26, co26, eo26⟩ := Kd.S_slice HO311.out
      (first | subst eo26 | (injection eo26 with f1_ f2_ f3_; have f4_ := f1_.symm; have f5_ := f3_.symm; clear f1_ f2_ f3_; subst f4_; subst f5_))
      refine hK.out _ _ ⟨q_z BK301.out 0, q_z BK298.out 0, q_z BK299.out 0, q_z BK299.out 1, ((HB.out.cell (wb hw302_0)).trans hw302_0)⟩ (fun hHeld => ?_)
      clear hK K
      refine norm_ (a' := ?_) ?_ ?_
      rotate_left
      ·show Act.put _ (some 27) _ = _
       simp only [Act.put, List.setIfInBounds_toArray, List.set_cons_zero, List.set_cons_succ, i64_w, i32_w]
       rfl
      refine q_p 13 (some 28) #[true, true, true, true, true, true, true, true, true, true, true, true, true, true, false] HT_.out ?_
      refine last_ (i := 14) (N := none) #[true, true, true, true, true, true, true, true, true, true, true, true, true, true, true] rfl rfl (one_of HT_.out (by kernel_rfl)) (by decide) (fun K hK => ?_)
      have hs27 : w24.cell? ⟨gb301, 0, none⟩ = some (u302000) := (blk_cell BK301.out 0).trans rfl
      have hfs27 := blk_frozen BK301.out 0
      have hns27_0 := NB298_301.out
      have hns27_1 := NB299_301.out
      have hns27_2 := NB300_301.out
      have hms27_0 := NB301_298.out
      have hms27_1 := NB301_299.out
      have hms27_2 := NB301_300.out
      refine skip_ (w1 := ?_) (by rfl) rfl ?_ ?_
      rotate_left
      ·go_simp
       rfl
      refine hK.out _ _ ?_
      clear hK K
      refine done_ (done_of HT_.out (by kernel_rfl)) ?_
      try go_wp2
      go_roundg k1
      case measure => have := HK1.out; omega
      case rel => exact ⟨(wrap64 (x6_1 + 1)), (y309), (.slice Ao26 y309.length co26), q_i, H', ⟨by have := HK1.out; omega⟩, ⟨by (with_reducible repeat (first | apply Kd.S_alloc | apply Kd.S_drewN | apply Kd.S_drew)); exact Kd.S_mono (Kd.S_far (p := ⟨gb301, 0, none⟩) (Kd.S_types HO311.out BK301.out (by decide)) (fun _ hk => hk.2) (.slice Ao26 y309.length co26)) (fun _ hk => trivial)⟩, ⟨by (with_reducible repeat (first | refine blk_drewN ?_ _ | refine blk_drew ?_ | refine blk_alloc ?_ _)); refine blk_far ?_ NB298_301.out _; (with_reducible repeat (first | refine blk_drewN ?_ _ | refine blk_drew ?_ | refine blk_alloc ?_ _)); exact BK298.out⟩, ⟨by (with_reducible repeat (first | refine blk_drewN ?_ _ | refine blk_drew ?_ | refine blk_alloc ?_ _)); refine blk_far ?_ NB299_301.out _; (with_reducible repeat (first | refine blk_drewN ?_ _ | refine blk_drew ?_ | refine blk_alloc ?_ _)); exact BK299.out⟩, ⟨by (with_reducible repeat (first | refine blk_drewN ?_ _ | refine blk_drew ?_ | refine blk_alloc ?_ _)); refine blk_far ?_ NB300_301.out _; (with_reducible repeat (first | refine blk_drewN ?_ _ | refine blk_drew ?_ | refine blk_alloc ?_ _)); exact BK300.out⟩, ⟨by (with_reducible repeat (first | refine blk_drewN ?_ _ | refine blk_drew ?_ | refine blk_alloc ?_ _)); refine blk_put (cs := #[u302000]) ?_ 0 _ rfl; (with_reducible repeat (first | refine blk_drewN ?_ _ | refine blk_drew ?_ | refine blk_alloc ?_ _)); exact BK301.out⟩, ⟨bq⟩⟩
     ·rw [if_neg c15] at H
      exact absurd H (by simp)
    ·rw [if_neg c12] at H
     exact absurd H (by simp)
   ·rw [if_neg c11] at H
    have c11b0 := decide_eq_false c11
    clear c11
    obtain rfl := Option.some.inj H
    have hnb28 := NB298_299.out
    have hnc28 := NB299_298.out
    have hnb29 := NB298_300.out
    have hnc29 := NB300_298.out
    have hnb30 := NB298_301.out
    have hnc30 := NB301_298.out
    obtain ⟨hcz31_0, hfz31_0⟩ := q_1 BK298.out
    have hnb32 := NB301_299.out
    have hnc32 := NB299_301.out
    have hnb33 := NB301_300.out
    have hnc33 := NB300_301.out
    obtain ⟨hcz34_0, hfz34_0⟩ := q_1 BK301.out
    obtain ⟨Ao35, co35, eo35⟩ := Kd.S_slice HO_302000.out
    subst eo35
    have hnb36 := NB300_299.out
    have hnc36 := NB299_300.out
    obtain ⟨hcz37_0, hfz37_0⟩ := q_1 BK300.out
    go_wp2
    refine bodyPost_ret (results_cell_row rfl _ _ gb300 26 #[.slice Ao35 x302000_1.length co35] (0, 0) _ rfl (by (with_reducible repeat (first | refine blk_drewN ?_ _ | refine blk_drew ?_ | refine blk_alloc ?_ _)); refine blk_put (cs := #[.slice none 0 0]) ?_ 0 _ rfl; (with_reducible repeat (first | refine blk_drewN ?_ _ | refine blk_drew ?_ | refine blk_alloc ?_ _)); exact BK300.out) Try.underlying26 rfl (by kernel_rfl)) rfl ?_
    exact ⟨_, q_e, by (with_reducible repeat (first | apply Kd.S_alloc | apply Kd.S_drewN | apply Kd.S_drew)); exact Kd.S_mono (Kd.S_far (p := ⟨gb300, 0, none⟩) (Kd.S_types HO_302000.out BK300.out (by decide)) (fun _ hk => hk.2) (.slice Ao35 x302000_1.length co35)) (fun _ hk => trivial), bq⟩

/-! ### spec_l1Id: function 123 -/
def spec_l1Id.f (a0 : Int) : Option (Bool) := (spec_l1In.f a0 1 1000000000).bind fun t312 => (some t312)
theorem spec_l1Id.calls (a0 : Int) (r : Bool) (w : World) (h : spec_l1Id.f a0 = some r) :
  Calls Try.prog 123 #[.int .i64 a0] w fun e w' => e = .returned (.bool r) ∧ Drawn0 w w' := by
 have H : ((spec_l1In.f a0 1 1000000000).bind fun t312 => (some t312)) = some r := h
 clear h
 replace H := ob H
 obtain ⟨t312, A20, H⟩ := H
 replace H : (some t312) = some r := H
 have A2 := am A20
 clear A20
 obtain rfl := Option.some.inj H
 go_enter Try.func123, Try.ntmps123
 go_wp2_with (first | ((with_reducible refine gate_callee (f := 81) rfl ?_); refine goesLq (some 4) rfl rfl Try.func81 (by kernel_rfl) rfl #[.int .i64 a0, .int .i64 1, .int .i64 1000000000] rfl ?_; (with_reducible refine (spec_l1In.calls a0 1 1000000000 t312 _ A2.out).mono ?_); rintro e w' ⟨rfl, ⟨nd, rfl⟩⟩; refine ⟨_, rfl, ?_⟩))
 go_ret
 exact ⟨by first | rfl | (simp; done) | (simp [*]; done), q_0⟩

/-! ### spec_LegFault: function 124 -/
def spec_LegFault.j0 : Nat → Bool → Int → Int → Int → Int → Option (Int)
  | 0, _, _, _, _, _ => none
  | k + 1, x24, x314000, x314001, x314002, x314003 => if x24 = true then (some 3) else (if x314003 = 0 then (some 1) else (some 0))
def spec_LegFault.f (k : Nat) (a0_0 : Int) (a0_1 : Int) (a0_2 : Int) (a0_3 : Int) : Option (Int) := (spec_l1In.f a0_0 0 2).bind fun t314 => (if t314 = true then ((spec_l1In.f a0_1 0 5).bind fun t315 => (if t315 = true then ((spec_l1In.f a0_2 0 2).bind fun t316 => (if t316 = true then ((spec_l1In.f a0_3 (-1000000000000) 1000000000000).bind fun t317 => (spec_LegFault.j0 k (!t317) a0_0 a0_1 a0_2 a0_3)) else (spec_LegFault.j0 k true a0_0 a0_1 a0_2 a0_3))) else (spec_LegFault.j0 k true a0_0 a0_1 a0_2 a0_3))) else (spec_LegFault.j0 k true a0_0 a0_1 a0_2 a0_3))
theorem spec_LegFault.calls (k : Nat) (a0_0 : Int) (a0_1 : Int) (a0_2 : Int) (a0_3 : Int) (r : Int) (w : World) (h : spec_LegFault.f k a0_0 a0_1 a0_2 a0_3 = some r) :
  Calls Try.prog 124 #[.agg #[.int .i64 a0_0, .int .i64 a0_1, .int .i64 a0_2, .int .i64 a0_3]] w fun e w' => e = .returned (.int .i64 r) ∧ Below w.heap.size w w' := by
 have hu86 := Try.underlying86
 have HB := am (Below.refl w.heap.size w)
 have H : ((spec_l1In.f a0_0 0 2).bind fun t314 => (if t314 = true then ((spec_l1In.f a0_1 0 5).bind fun t315 => (if t315 = true then ((spec_l1In.f a0_2 0 2).bind fun t316 => (if t316 = true then ((spec_l1In.f a0_3 (-1000000000000) 1000000000000).bind fun t317 => (spec_LegFault.j0 k (!t317) a0_0 a0_1 a0_2 a0_3)) else (spec_LegFault.j0 k true a0_0 a0_1 a0_2 a0_3))) else (spec_LegFault.j0 k true a0_0 a0_1 a0_2 a0_3))) else (spec_LegFault.j0 k true a0_0 a0_1 a0_2 a0_3))) = some r := h
 clear h
 have HC2 := am H
 clear H
 go_enter Try.func124, Try.ntmps124
 go_upto_region 1 with (first | ((with_reducible refine gate_dst (N := 1) rfl ?_); refine q_box (N := 1) (cs := #[.int .i64 a0_0, .int .i64 a0_1, .int .i64 a0_2, .int .i64 a0_3]) (t := 86) ?_; intro gb313 hg w3 hbox hb; have n0_ := am (below_step bq hb); have n1_ := am (hbox); have n2_ := am ((q_g hg bq : w.heap.size ≤ gb313)); have n3_ := n2_; revert n0_ n1_ n2_ n3_; clear HB; intro HB BK313 GW313 GE313; clear hb hbox hg))
 (try simp only [Act.put, List.setIfInBounds_toArray, List.set_cons_zero, List.set_cons_succ])
 go_cut [24] (fun v24 wc => ∃ (kq : Nat) (x24_1 : Bool), v24 = .bool x24_1 ∧ Aside0 (spec_LegFault.j0 kq x24_1 a0_0 a0_1 a0_2 a0_3 = some r) ∧ Aside0 (kq ≤ k) ∧ Aside0 (wc.heap[gb313]? = some (.cells #[.int .i64 a0_0, .int .i64 a0_1, .int .i64 a0_2, .int .i64 a0_3] 86 (0, 0))) ∧ Aside0 (Below w.heap.size w wc))
 case first =>
  have H := HC2.out
  clear HC2
  replace H := ob H
  obtain ⟨t314, A40, H⟩ := H
  replace H : (if t314 = true then ((spec_l1In.f a0_1 0 5).bind fun t315 => (if t315 = true then ((spec_l1In.f a0_2 0 2).bind fun t316 => (if t316 = true then ((spec_l1In.f a0_3 (-1000000000000) 1000000000000).bind fun t317 => (spec_LegFault.j0 k (!t317) a0_0 a0_1 a0_2 a0_3)) else (spec_LegFault.j0 k true a0_0 a0_1 a0_2 a0_3))) else (spec_LegFault.j0 k true a0_0 a0_1 a0_2 a0_3))) else (spec_LegFault.j0 k true a0_0 a0_1 a0_2 a0_3)) = some r := H
  have A4 := am A40
  clear A40
  by_cases c5 : t314 = true
  ·subst c5
   have H1 : ((spec_l1In.f a0_1 0 5).bind fun t315 => (if t315 = true then ((spec_l1In.f a0_2 0 2).bind fun t316 => (if t316 = true then ((spec_l1In.f a0_3 (-1000000000000) 1000000000000).bind fun t317 => (spec_LegFault.j0 k (!t317) a0_0 a0_1 a0_2 a0_3)) else (spec_LegFault.j0 k true a0_0 a0_1 a0_2 a0_3))) else (spec_LegFault.j0 k true a0_0 a0_1 a0_2 a0_3))) = some r := by rw [if_pos rfl] at H; exact H
   clear H
   have H := H1
   clear H1
   replace H := ob H
   obtain ⟨t315, A60, H⟩ := H
   replace H : (if t315 = true then ((spec_l1In.f a0_2 0 2).bind fun t316 => (if t316 = true then ((spec_l1In.f a0_3 (-1000000000000) 1000000000000).bind fun t317 => (spec_LegFault.j0 k (!t317) a0_0 a0_1 a0_2 a0_3)) else (spec_LegFault.j0 k true a0_0 a0_1 a0_2 a0_3))) else (spec_LegFault.j0 k true a0_0 a0_1 a0_2 a0_3)) = some r := H
   have A6 := am A60
   clear A60
   by_cases c7 : t315 = true
   ·subst c7
    have H1 : ((spec_l1In.f a0_2 0 2).bind fun t316 => (if t316 = true then ((spec_l1In.f a0_3 (-1000000000000) 1000000000000).bind fun t317 => (spec_LegFault.j0 k (!t317) a0_0 a0_1 a0_2 a0_3)) else (spec_LegFault.j0 k true a0_0 a0_1 a0_2 a0_3))) = some r := by rw [if_pos rfl] at H; exact H
    clear H
    have H := H1
    clear H1
    replace H := ob H
    obtain ⟨t316, A80, H⟩ := H
    replace H : (if t316 = true then ((spec_l1In.f a0_3 (-1000000000000) 1000000000000).bind fun t317 => (spec_LegFault.j0 k (!t317) a0_0 a0_1 a0_2 a0_3)) else (spec_LegFault.j0 k true a0_0 a0_1 a0_2 a0_3)) = some r := H
    have A8 := am A80
    clear A80
    by_cases c9 : t316 = true
    ·subst c9
     have H1 : ((spec_l1In.f a0_3 (-1000000000000) 1000000000000).bind fun t317 => (spec_LegFault.j0 k (!t317) a0_0 a0_1 a0_2 a0_3)) = some r := by rw [if_pos rfl] at H; exact H
     clear H
     have H := H1
     clear H1
     replace H := ob H
     obtain ⟨t317, A100, H⟩ := H
     replace H : (spec_LegFault.j0 k (!t317) a0_0 a0_1 a0_2 a0_3) = some r := H
     have A10 := am A100
     clear A100
     have H' := am H
     clear H
     obtain ⟨hcz11_0, hcz11_1, hcz11_2, hcz11_3, hfz11_0, hfz11_1, hfz11_2, hfz11_3⟩ := q_4 BK313.out
     go_wp2_with (first | ((with_reducible refine gate_callee (f := 81) rfl ?_); refine goesLq (some 5) rfl rfl Try.func81 (by kernel_rfl) rfl #[.int .i64 a0_0, .int .i64 0, .int .i64 2] rfl ?_; (with_reducible refine (spec_l1In.calls a0_0 0 2 true _ A4.out).mono ?_); rintro e w' ⟨rfl, ⟨nd, rfl⟩⟩; refine ⟨_, rfl, ?_⟩) | (go_at_call 81; (with_reducible refine (spec_l1In.calls a0_1 0 5 true _ A6.out).mono ?_); rintro e w' ⟨rfl, ⟨nd, rfl⟩⟩) | (go_at_call 81; (with_reducible refine (spec_l1In.calls a0_2 0 2 true _ A8.out).mono ?_); rintro e w' ⟨rfl, ⟨nd, rfl⟩⟩) | (go_at_call 81; (with_reducible refine (spec_l1In.calls a0_3 (-1000000000000) 1000000000000 t317 _ A10.out).mono ?_); rintro e w' ⟨rfl, ⟨nd, rfl⟩⟩))
     go_meet
     case rel => exact ⟨_, (!t317), q_i, H', ⟨by first | omega | exact Nat.le_refl _⟩, ⟨q_b BK313.out⟩, ⟨bq⟩⟩
    ·replace c9 := Bool.eq_false_iff.mpr c9
     subst c9
     have H1 : (spec_LegFault.j0 k true a0_0 a0_1 a0_2 a0_3) = some r := by rw [if_neg (show ¬ (false = true) by decide)] at H; exact H
     clear H
     have H := H1
     clear H1
     have H' := am H
     clear H
     obtain ⟨hcz12_0, hcz12_1, hcz12_2, hcz12_3, hfz12_0, hfz12_1, hfz12_2, hfz12_3⟩ := q_4 BK313.out
     go_wp2_with (first | ((with_reducible refine gate_callee (f := 81) rfl ?_); refine goesLq (some 5) rfl rfl Try.func81 (by kernel_rfl) rfl #[.int .i64 a0_0, .int .i64 0, .int .i64 2] rfl ?_; (with_reducible refine (spec_l1In.calls a0_0 0 2 true _ A4.out).mono ?_); rintro e w' ⟨rfl, ⟨nd, rfl⟩⟩; refine ⟨_, rfl, ?_⟩) | (go_at_call 81; (with_reducible refine (spec_l1In.calls a0_1 0 5 true _ A6.out).mono ?_); rintro e w' ⟨rfl, ⟨nd, rfl⟩⟩) | (go_at_call 81; (with_reducible refine (spec_l1In.calls a0_2 0 2 false _ A8.out).mono ?_); rintro e w' ⟨rfl, ⟨nd, rfl⟩⟩))
     go_meet
     case rel => exact ⟨_, (true), q_i, H', ⟨by first | omega | exact Nat.le_refl _⟩, ⟨q_b BK313.out⟩, ⟨bq⟩⟩
   ·replace c7 := Bool.eq_false_iff.mpr c7
    subst c7
    have H1 : (spec_LegFault.j0 k true a0_0 a0_1 a0_2 a0_3) = some r := by rw [if_neg (show ¬ (false = true) by decide)] at H; exact H
    clear H
    have H := H1
    clear H1
    have H' := am H
    clear H
    obtain ⟨hcz13_0, hcz13_1, hcz13_2, hcz13_3, hfz13_0, hfz13_1, hfz13_2, hfz13_3⟩ := q_4 BK313.out
    go_wp2_with (first | ((with_reducible refine gate_callee (f := 81) rfl ?_); refine goesLq (some 5) rfl rfl Try.func81 (by kernel_rfl) rfl #[.int .i64 a0_0, .int .i64 0, .int .i64 2] rfl ?_; (with_reducible refine (spec_l1In.calls a0_0 0 2 true _ A4.out).mono ?_); rintro e w' ⟨rfl, ⟨nd, rfl⟩⟩; refine ⟨_, rfl, ?_⟩) | (go_at_call 81; (with_reducible refine (spec_l1In.calls a0_1 0 5 false _ A6.out).mono ?_); rintro e w' ⟨rfl, ⟨nd, rfl⟩⟩))
    go_meet
    case rel => exact ⟨_, (true), q_i, H', ⟨by first | omega | exact Nat.le_refl _⟩, ⟨q_b BK313.out⟩, ⟨bq⟩⟩
  ·replace c5 := Bool.eq_false_iff.mpr c5
   subst c5
   have H1 : (spec_LegFault.j0 k true a0_0 a0_1 a0_2 a0_3) = some r := by rw [if_neg (show ¬ (false = true) by decide)] at H; exact H
   clear H
   have H := H1
   clear H1
   have H' := am H
   clear H
   obtain ⟨hcz14_0, hcz14_1, hcz14_2, hcz14_3, hfz14_0, hfz14_1, hfz14_2, hfz14_3⟩ := q_4 BK313.out
   go_wp2_with (first | ((with_reducible refine gate_callee (f := 81) rfl ?_); refine goesLq (some 5) rfl rfl Try.func81 (by kernel_rfl) rfl #[.int .i64 a0_0, .int .i64 0, .int .i64 2] rfl ?_; (with_reducible refine (spec_l1In.calls a0_0 0 2 false _ A4.out).mono ?_); rintro e w' ⟨rfl, ⟨nd, rfl⟩⟩; refine ⟨_, rfl, ?_⟩))
   go_meet
   case rel => exact ⟨_, (true), q_i, H', ⟨by first | omega | exact Nat.le_refl _⟩, ⟨q_b BK313.out⟩, ⟨bq⟩⟩
 case rest =>
  clear HC2
  (try clear c1); (try clear p2); (try clear c5); (try clear c7); (try clear c8); (try clear c9); (try clear c12); (try clear hcz11_0); (try clear hcz11_1); (try clear hcz11_2); (try clear hcz11_3); (try clear hcz12_0)
  (try clear hcz12_1); (try clear hcz12_2); (try clear hcz12_3); (try clear hcz13_0); (try clear hcz13_1); (try clear hcz13_2); (try clear hcz13_3); (try clear hcz14_0); (try clear hcz14_1); (try clear hcz14_2)
  (try clear hcz14_3); (try clear hfz11_0); (try clear hfz11_1); (try clear hfz11_2); (try clear hfz11_3); (try clear hfz12_0); (try clear hfz12_1); (try clear hfz12_2); (try clear hfz12_3); (try clear hfz13_0)
  (try clear hfz13_1); (try clear hfz13_2); (try clear hfz13_3); (try clear hfz14_0); (try clear hfz14_1); (try clear hfz14_2); (try clear hfz14_3)
  obtain ⟨kq, x24_1, rfl, HA, HJ1, BK313, HB⟩ := hcut
  cases kq with
  | zero => exact absurd HA.out (by simp [spec_LegFault.j0])
  | succ kj1 =>
   have H := HA.out
   clear HA
   simp only [spec_LegFault.j0] at H
   by_cases c15 : x24_1 = true
   ·subst c15
    have H1 : (some 3) = some r := by rw [if_pos rfl] at H; exact H
    clear H
    have H := H1
    clear H1
    obtain rfl := Option.some.inj H
    go_wp2
    go_ret
    exact ⟨q_e, bq⟩
   ·replace c15 := Bool.eq_false_iff.mpr c15
    subst c15
    have H1 : (if a0_3 = 0 then (some 1) else (some 0)) = some r := by rw [if_neg (show ¬ (false = true) by decide)] at H; exact H
    clear H
    have H := H1
    clear H1
    by_cases c16 : a0_3 = 0
    ·rw [if_pos c16] at H
     have c16b0 : (a0_3 == 0) = true := beq_iff_eq.mpr c16
     have c16b1 : (a0_3 != 0) = false := bne_eq_false_iff_eq.mpr c16
     clear c16
     obtain rfl := Option.some.inj H
     obtain ⟨hcz17_0, hcz17_1, hcz17_2, hcz17_3, hfz17_0, hfz17_1, hfz17_2, hfz17_3⟩ := q_4 BK313.out
     go_wp2
     go_ret
     exact ⟨q_e, bq⟩
    ·rw [if_neg c16] at H
     have c16b0 : (a0_3 == 0) = false := beq_eq_false_iff_ne.mpr c16
     have c16b1 : (a0_3 != 0) = true := bne_iff_ne.mpr c16
     obtain rfl := Option.some.inj H
     obtain ⟨hcz18_0, hcz18_1, hcz18_2, hcz18_3, hfz18_0, hfz18_1, hfz18_2, hfz18_3⟩ := q_4 BK313.out
     go_wp2
     go_ret
     exact ⟨q_e, bq⟩

end Go.Proofs.Ytanegggacfmkcaa.PFnExactSettleAll
