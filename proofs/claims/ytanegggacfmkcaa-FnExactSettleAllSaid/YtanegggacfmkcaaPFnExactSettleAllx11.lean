/- Functions that a law reaches, as plain Lean functions, with the proof that the machine comes to their answers. No conditions. -/
import Derived.Test.YtanegggacfmkcaaPFnExactSettleAllx0
import Derived.Test.YtanegggacfmkcaaPFnExactSettleAllx10
namespace Go.Proofs.Ytanegggacfmkcaa.PFnExactSettleAll
open Go.RowKit Go.Proofs.YtanegggacfmkcaaW.PrintWords Go.Proofs.YtanegggacfmkcaaW.PrintLast Go.Proofs.YtanegggacfmkcaaW.PrintMore
attribute [local go_sem] max2_int min2_int max_two min_two max_three min_three max_four min_four   -- for this text's walks alone
set_option linter.unusedVariables false
set_option linter.unusedSimpArgs false
set_option maxHeartbeats 8000000
set_option maxRecDepth 100000

/-! ### spec_l2Set: function 114 -/
mutual
def spec_l2Set.l0 : Nat → List (S104) → Int → Int → Int → List (S104) → Bool → Int → Option ((List (S104)))
  | 0, _, _, _, _, _, _, _ => none
  | k + 1, x0, x1, x2, x3, x9, x10, x11 => if x11 < (x0.length : Int) then (if 0 ≤ x11 then (if ((rd_T104 x0 x11).f0) = x1 then (spec_l2Set.j1 k x0 x1 x2 x3 x9 x10 x11 (((rd_T104 x0 x11).f1) == x2) ((rd_T104 x0 x11).f0) ((rd_T104 x0 x11).f1) ((rd_T104 x0 x11).f2)) else (spec_l2Set.j1 k x0 x1 x2 x3 x9 x10 x11 false ((rd_T104 x0 x11).f0) ((rd_T104 x0 x11).f1) ((rd_T104 x0 x11).f2))) else (none)) else (if x10 = true then (some x9) else (if x9.length < 5864062014805 then (some (x9 ++ [(⟨x1, x2, x3⟩ : S104)])) else (none)))
def spec_l2Set.j1 : Nat → List (S104) → Int → Int → Int → List (S104) → Bool → Int → Bool → Int → Int → Int → Option ((List (S104)))
  | 0, _, _, _, _, _, _, _, _, _, _, _ => none
  | k + 1, x0, x1, x2, x3, x9, x10, x11, x35, x262000, x262001, x262002 => if x35 = true then (spec_l2Set.l0 k x0 x1 x2 x3 x9 x10 (wrap64 (x11 + 1))) else (if x10 = true then (if x9.length < 5864062014805 then (spec_l2Set.l0 k x0 x1 x2 x3 (x9 ++ [(⟨x262000, x262001, x262002⟩ : S104)]) x10 (wrap64 (x11 + 1))) else (none)) else (if (wrap64 ((wrap64 (x262000 * 3)) + x262001)) > (wrap64 ((wrap64 (x1 * 3)) + x2)) then (if x9.length < 5864062014805 then ((some (x9 ++ [(⟨x1, x2, x3⟩ : S104)] : List (S104))).bind fun y265 => (if y265.length < 5864062014805 then (spec_l2Set.l0 k x0 x1 x2 x3 (y265 ++ [(⟨x262000, x262001, x262002⟩ : S104)]) true (wrap64 (x11 + 1))) else (none))) else (none)) else (if x9.length < 5864062014805 then (spec_l2Set.l0 k x0 x1 x2 x3 (x9 ++ [(⟨x262000, x262001, x262002⟩ : S104)]) x10 (wrap64 (x11 + 1))) else (none))))
end
def spec_l2Set.f (k : Nat) (l0 : List (S104)) (a1 : Int) (a2 : Int) (a3 : Int) : Option ((List (S104))) := spec_l2Set.l0 k l0 a1 a2 a3 (([] : List (S104))) (a3 == 0) 0
theorem spec_l2Set.calls (k : Nat) (A0 : Option Addr) (c0 : Nat) (l0 : List (S104)) (a1 : Int) (a2 : Int) (a3 : Int) (r : List (S104)) (w : World) (hr0 : Kd.C k104 w A0 l0.length l0) (hc0 : l0.length ≤ c0) (h : spec_l2Set.f k l0 a1 a2 a3 = some r) :
  Calls Try.prog 114 #[.slice A0 l0.length c0, .int .i64 a1, .int .i64 a2, .int .i64 a3] w fun e w' => ∃ v0_ : Value, e = .returned (v0_) ∧ Kd.R k104 104 w' w.heap.size (fun _ => True) v0_ r ∧ Below w.heap.size w w' := by
 have hu104 := Try.underlying104
 have HR0 := am hr0
 have HC0 := am hc0
 clear hr0 hc0
 have HB := am (Below.refl w.heap.size w)
 have H : (spec_l2Set.l0 k l0 a1 a2 a3 (([] : List (S104))) (a3 == 0) 0) = some r := h
 clear h
 obtain ⟨y254, hy254⟩ : ∃ y_ : List (S104), y_ = (([] : List (S104))) := ⟨_, rfl⟩
 replace H : (spec_l2Set.l0 k l0 a1 a2 a3 y254 (a3 == 0) 0) = some r := q_h hy254 H
 have Ny254 := am hy254
 clear hy254
 have H' := am H
 clear H
 go_enter Try.func114, Try.ntmps114
 go_wp2_with (first | ((with_reducible refine gate_dst (N := 13) rfl ?_); refine Kd.R_lit k104 _ 104 ?hg (N := 13) ?hd (xs := ([] : List (S104))) (inner := []) (ok := fun _ => True) (okp := fun _ => True) ?hr ?hp (fun _ hk => hk) trivial (Below.refl _ _) (Nat.le_refl _) (by simp) ?_; (case hd => rfl); (case hg => rfl); (case hr => first | (go_simp; done) | (go_simp; rfl)); (case hp => exact (Reps.none _ _)); intro v255 w5 ho6 hb hg_ hnew_; clear hg_ hnew_; (first | rw [← Ny254.out] at ho6 | (simp only [Int.reduceToNat] at ho6; rw [← Ny254.out] at ho6)); have n0_ := am (Kd.R_lower ho6 (below_size bq)); have n1_ := am (below_step bq hb); revert n0_ n1_; clear HB; intro HO256 HB; clear hb ho6))
 go_loopg [9, 10, 11] k (fun kq v9 v10 v11 w' => ∃ (x9_1 : List (S104)) (x10_1 : Bool) (x11_1 : Int), v10 = .bool x10_1 ∧ v11 = .int .i64 x11_1 ∧ Aside0 (spec_l2Set.l0 kq l0 a1 a2 a3 x9_1 x10_1 x11_1 = some r) ∧ Aside0 (kq ≤ k) ∧ Aside0 (Kd.R k104 104 w' w.heap.size (fun _ => True) v9 x9_1) ∧ Aside0 (Below w.heap.size w w'))
 case atStart => exact ⟨(y254), ((a3 == 0)), (0), q_i, q_i, H', ⟨Nat.le_refl _⟩, ⟨q_r (HO256.out)⟩, ⟨bq⟩⟩
 case round =>
  clear H'
  (try clear c1); (try clear p2)
  obtain ⟨x9_1, x10_1, x11_1, rfl, rfl, HA, HK1, HO_9, HB⟩ := hrel
  cases gk with
  | zero => exact absurd HA.out (by simp [spec_l2Set.l0])
  | succ k1 =>
   have H := HA.out
   clear HA
   simp only [spec_l2Set.l0] at H
   by_cases c7 : x11_1 < (l0.length : Int)
   ·rw [if_pos c7] at H
    have c7b0 := decide_eq_true c7
    clear c7
    by_cases c8 : 0 ≤ x11_1
    ·rw [if_pos c8] at H
     have c8b0 := decide_eq_true c8
     clear c8
     have HC9 := am H
     clear H
     have p260 : 0 ≤ (x11_1 : Int) := q_d
     have q260 : x11_1 < (l0.length : Int) := q_d
     obtain ⟨ad260, e260, hx260_0, hx260_1, hx260_2⟩ := at_T104 HR0.out x11_1 p260 q260
     cases e260
     replace hx260_0 := q_x HB.out hx260_0
     replace hx260_1 := q_x HB.out hx260_1
     replace hx260_2 := q_x HB.out hx260_2
     replace p260 := eq_true p260
     replace q260 := eq_true q260
     go_upto_region 7 with (first | ((with_reducible refine gate_dst (N := 12) rfl ?_); refine q_box (N := 12) (cs := #[.int .i64 0, .int .i64 0, .int .i64 0]) (t := 104) ?_; intro gb261 hg w10 hbox hb; have n0_ := am (Kd.R_below (Kd.R_elderB (q_r (HO_9.out)) gb261 (Nat.le_of_eq hg.symm)) hb); have n1_ := am (below_step bq hb); have n2_ := am (hbox); have n3_ := am ((q_g hg bq : w.heap.size ≤ gb261)); have n4_ := n3_; revert n0_ n1_ n2_ n3_ n4_; clear HO_9 HB; intro HO_9 HB BK261 GW261 GE261; clear hb hbox hg; obtain ⟨hcz11_0, hcz11_1, hcz11_2, hfz11_0, hfz11_1, hfz11_2⟩ := q_3 BK261.out))
     (try simp only [Act.put, List.setIfInBounds_toArray, List.set_cons_zero, List.set_cons_succ])
     go_cut [35] (fun v35 wc => ∃ (kq : Nat) (x35_8 : Bool), v35 = .bool x35_8 ∧ Aside0 (spec_l2Set.j1 kq l0 a1 a2 a3 x9_1 x10_1 x11_1 x35_8 ((rd_T104 l0 x11_1).f0) ((rd_T104 l0 x11_1).f1) ((rd_T104 l0 x11_1).f2) = some r) ∧ Aside0 (kq ≤ k1) ∧ Aside0 (Kd.R k104 104 wc w.heap.size (fun k_ => k_ ≠ gb261) u9 x9_1) ∧ Aside0 (wc.heap[gb261]? = some (.cells #[.int .i64 ((rd_T104 l0 x11_1).f0), .int .i64 ((rd_T104 l0 x11_1).f1), .int .i64 ((rd_T104 l0 x11_1).f2)] 104 (0, 0))) ∧ Aside0 (Below w.heap.size w wc))
     case first =>
      have H := HC9.out
      clear HC9
      by_cases c12 : ((rd_T104 l0 x11_1).f0) = a1
      ·rw [if_pos c12] at H
       have c12b0 : (((rd_T104 l0 x11_1).f0) == a1) = true := beq_iff_eq.mpr c12
       have c12b1 : (((rd_T104 l0 x11_1).f0) != a1) = false := bne_eq_false_iff_eq.mpr c12
       clear c12
       (first | rw [c12b0] | (simp only [i64_w, i32_w]; rw [c12b0]) | skip)
       have H' := am H
       clear H
       obtain ⟨hcz13_0, hcz13_1, hcz13_2, hfz13_0, hfz13_1, hfz13_2⟩ := q_3 BK261.out
       go_wp2
       go_meet
       case rel => exact ⟨_, ((((rd_T104 l0 x11_1).f1) == a2)), q_i, H', ⟨by have := HK1.out; first | omega | exact Nat.le_refl _⟩, ⟨by (with_reducible repeat (first | apply Kd.R_alloc | apply Kd.R_drewN | apply Kd.R_drew)); exact Kd.R_mono (Kd.R_far (p := ⟨gb261, 2, none⟩) (Kd.R_far (p := ⟨gb261, 1, none⟩) (Kd.R_far (p := ⟨gb261, 0, none⟩) (Kd.R_mono HO_9.out (fun k_ hk => (⟨hk, hk.2⟩ : _ ∧ k_ ≠ gb261))) (fun _ hk => hk.2) (.int .i64 ((rd_T104 l0 x11_1).f0))) (fun _ hk => hk.2) (.int .i64 ((rd_T104 l0 x11_1).f1))) (fun _ hk => hk.2) (.int .i64 ((rd_T104 l0 x11_1).f2))) (fun _ hk => hk.1.2)⟩, ⟨by (with_reducible repeat (first | refine blk_drewN ?_ _ | refine blk_drew ?_ | refine blk_alloc ?_ _)); refine blk_put (cs := #[.int .i64 ((rd_T104 l0 x11_1).f0), .int .i64 ((rd_T104 l0 x11_1).f1), .int .i64 0]) ?_ 2 _ rfl; (with_reducible repeat (first | refine blk_drewN ?_ _ | refine blk_drew ?_ | refine blk_alloc ?_ _)); refine blk_put (cs := #[.int .i64 ((rd_T104 l0 x11_1).f0), .int .i64 0, .int .i64 0]) ?_ 1 _ rfl; (with_reducible repeat (first | refine blk_drewN ?_ _ | refine blk_drew ?_ | refine blk_alloc ?_ _)); refine blk_put (cs := #[.int .i64 0, .int .i64 0, .int .i64 0]) ?_ 0 _ rfl; (with_reducible repeat (first | refine blk_drewN ?_ _ | refine blk_drew ?_ | refine blk_alloc ?_ _)); exact BK261.out⟩, ⟨bq⟩⟩
      ·rw [if_neg c12] at H
       have c12b0 : (((rd_T104 l0 x11_1).f0) == a1) = false := beq_eq_false_iff_ne.mpr c12
       have c12b1 : (((rd_T104 l0 x11_1).f0) != a1) = true := bne_iff_ne.mpr c12
       (first | rw [c12b0] | (simp only [i64_w, i32_w]; rw [c12b0]) | skip)
       have H' := am H
       clear H
       obtain ⟨hcz14_0, hcz14_1, hcz14_2, hfz14_0, hfz14_1, hfz14_2⟩ := q_3 BK261.out
       go_wp2
       go_meet
       case rel => exact ⟨_, (false), q_i, H', ⟨by have := HK1.out; first | omega | exact Nat.le_refl _⟩, ⟨by (with_reducible repeat (first | apply Kd.R_alloc | apply Kd.R_drewN | apply Kd.R_drew)); exact Kd.R_mono (Kd.R_far (p := ⟨gb261, 2, none⟩) (Kd.R_far (p := ⟨gb261, 1, none⟩) (Kd.R_far (p := ⟨gb261, 0, none⟩) (Kd.R_mono HO_9.out (fun k_ hk => (⟨hk, hk.2⟩ : _ ∧ k_ ≠ gb261))) (fun _ hk => hk.2) (.int .i64 ((rd_T104 l0 x11_1).f0))) (fun _ hk => hk.2) (.int .i64 ((rd_T104 l0 x11_1).f1))) (fun _ hk => hk.2) (.int .i64 ((rd_T104 l0 x11_1).f2))) (fun _ hk => hk.1.2)⟩, ⟨by (with_reducible repeat (first | refine blk_drewN ?_ _ | refine blk_drew ?_ | refine blk_alloc ?_ _)); refine blk_put (cs := #[.int .i64 ((rd_T104 l0 x11_1).f0), .int .i64 ((rd_T104 l0 x11_1).f1), .int .i64 0]) ?_ 2 _ rfl; (with_reducible repeat (first | refine blk_drewN ?_ _ | refine blk_drew ?_ | refine blk_alloc ?_ _)); refine blk_put (cs := #[.int .i64 ((rd_T104 l0 x11_1).f0), .int .i64 0, .int .i64 0]) ?_ 1 _ rfl; (with_reducible repeat (first | refine blk_drewN ?_ _ | refine blk_drew ?_ | refine blk_alloc ?_ _)); refine blk_put (cs := #[.int .i64 0, .int .i64 0, .int .i64 0]) ?_ 0 _ rfl; (with_reducible repeat (first | refine blk_drewN ?_ _ | refine blk_drew ?_ | refine blk_alloc ?_ _)); exact BK261.out⟩, ⟨bq⟩⟩
     case rest =>
      clear HC9
      (try clear c1); (try clear p2); (try clear q2); (try clear hx2); (try clear c7); (try clear c7b0); (try clear c8); (try clear c8b0); (try clear c11); (try clear c12); (try clear c12b0); (try clear c12b1)
      (try clear hcz11_0); (try clear hcz11_1); (try clear hcz11_2); (try clear hcz13_0); (try clear hcz13_1); (try clear hcz13_2); (try clear hcz14_0); (try clear hcz14_1); (try clear hcz14_2); (try clear hfz11_0)
      (try clear hfz11_1); (try clear hfz11_2); (try clear hfz13_0); (try clear hfz13_1); (try clear hfz13_2); (try clear hfz14_0); (try clear hfz14_1); (try clear hfz14_2); (try clear hx260_0); (try clear hx260_1)
      (try clear hx260_2); (try clear p2); (try clear p260); (try clear q260)
      obtain ⟨kq, x35_8, rfl, HA, HJ8, HO_9, BK261, HB⟩ := hcut
      cases kq with
      | zero => exact absurd HA.out (by simp [spec_l2Set.j1])
      | succ kj8 =>
       have H := HA.out
       clear HA
       simp only [spec_l2Set.j1] at H
       by_cases c15 : x35_8 = true
       ·subst c15
        have H1 : (spec_l2Set.l0 kj8 l0 a1 a2 a3 x9_1 x10_1 (wrap64 (x11_1 + 1))) = some r := by rw [if_pos rfl] at H; exact H
        clear H
        have H := H1
        clear H1
        have H' := am H
        clear H
        go_wp2
        go_roundg kj8
        case measure => have := HK1.out; have := HJ8.out; omega
        case rel => exact ⟨(x9_1), (x10_1), (wrap64 (x11_1 + 1)), q_i, q_i, H', ⟨by have := HK1.out; have := HJ8.out; omega⟩, ⟨q_r (Kd.R_mono HO_9.out (fun _ hk => trivial))⟩, ⟨bq⟩⟩
       ·replace c15 := Bool.eq_false_iff.mpr c15
        subst c15
        have H1 : (if x10_1 = true then (if x9_1.length < 5864062014805 then (spec_l2Set.l0 kj8 l0 a1 a2 a3 (x9_1 ++ [(⟨((rd_T104 l0 x11_1).f0), ((rd_T104 l0 x11_1).f1), ((rd_T104 l0 x11_1).f2)⟩ : S104)]) x10_1 (wrap64 (x11_1 + 1))) else (none)) else (if (wrap64 ((wrap64 (((rd_T104 l0 x11_1).f0) * 3)) + ((rd_T104 l0 x11_1).f1))) > (wrap64 ((wrap64 (a1 * 3)) + a2)) then (if x9_1.length < 5864062014805 then ((some (x9_1 ++ [(⟨a1, a2, a3⟩ : S104)] : List (S104))).bind fun y265 => (if y265.length < 5864062014805 then (spec_l2Set.l0 kj8 l0 a1 a2 a3 (y265 ++ [(⟨((rd_T104 l0 x11_1).f0), ((rd_T104 l0 x11_1).f1), ((rd_T104 l0 x11_1).f2)⟩ : S104)]) true (wrap64 (x11_1 + 1))) else (none))) else (none)) else (if x9_1.length < 5864062014805 then (spec_l2Set.l0 kj8 l0 a1 a2 a3 (x9_1 ++ [(⟨((rd_T104 l0 x11_1).f0), ((rd_T104 l0 x11_1).f1), ((rd_T104 l0 x11_1).f2)⟩ : S104)]) x10_1 (wrap64 (x11_1 + 1))) else (none)))) = some r := by rw [if_neg (show ¬ (false = true) by decide)] at H; exact H
        clear H
        have H := H1
        clear H1
        by_cases c16 : x10_1 = true
        ·subst c16
         have H1 : (if x9_1.length < 5864062014805 then (spec_l2Set.l0 kj8 l0 a1 a2 a3 (x9_1 ++ [(⟨((rd_T104 l0 x11_1).f0), ((rd_T104 l0 x11_1).f1), ((rd_T104 l0 x11_1).f2)⟩ : S104)]) true (wrap64 (x11_1 + 1))) else (none)) = some r := by rw [if_pos rfl] at H; exact H
         clear H
         have H := H1
         clear H1
         by_cases c17 : x9_1.length < 5864062014805
         ·rw [if_pos c17] at H
          have LMc17 := am c17
          clear c17
          obtain ⟨y262, hy262⟩ : ∃ y_ : List (S104), y_ = (x9_1 ++ [(⟨((rd_T104 l0 x11_1).f0), ((rd_T104 l0 x11_1).f1), ((rd_T104 l0 x11_1).f2)⟩ : S104)]) := ⟨_, rfl⟩
          replace H : (spec_l2Set.l0 kj8 l0 a1 a2 a3 y262 true (wrap64 (x11_1 + 1))) = some r := q_h hy262 H
          have Ny262 := am hy262
          clear hy262
          have H' := am H
          clear H
          obtain ⟨hcz18_0, hcz18_1, hcz18_2, hfz18_0, hfz18_1, hfz18_2⟩ := q_3 BK261.out
          go_wp2_with (first | ((with_reducible refine gate_builtin (b := .append) (xs := #[.tmp 58, .tmp 60]) rfl ?_); at_builtin; refine Kd.R_append k104 (w0 := w) w.heap.size rfl (.tmp 58) (.tmp 60) 64 104 (.agg #[(.int .i64 0), (.int .i64 0), (.int .i64 0)]) 24 rfl Try.underlying64 info104 rfl (by decide) (by omega) u9 x9_1 (⟨((rd_T104 l0 x11_1).f0), ((rd_T104 l0 x11_1).f1), ((rd_T104 l0 x11_1).f2)⟩ : S104) [.int .i64 ((rd_T104 l0 x11_1).f0), .int .i64 ((rd_T104 l0 x11_1).f1), .int .i64 ((rd_T104 l0 x11_1).f2)] (fun k_ => k_ ≠ gb261) (fun _ => False) rfl rfl ?aP (fun _ hk => hk.elim) ?aF ?aO ?aB ?aS ?aL ?_; (case aP => exact k104_mkM _ _ _ (⟨((rd_T104 l0 x11_1).f0), ((rd_T104 l0 x11_1).f1), ((rd_T104 l0 x11_1).f2)⟩ : S104)); (case aB => exact bq); (case aF => exact (fun k_ hk => Kd.freshB (q_b BK261.out) k_ hk)); (case aO => exact (q_r (HO_9.out))); (case aS => exact (below_size bq)); (case aL => have := LMc17.out; omega); intro v263 w19 ho hb hg hat; rw [← Ny262.out] at ho; have n0_ := am (blk_grown (q_b BK261.out) hg (Kd.R_away HO_9.out (fun _ hk => hk))); have n1_ := am (hb); have n2_ := am (ho); revert n0_ n1_ n2_; clear BK261 HB HO_9; intro BK261 HB HO264; clear ho hb hg hat))
          go_roundg kj8
          case measure => have := HK1.out; have := HJ8.out; omega
          case rel => exact ⟨(y262), (true), (wrap64 (x11_1 + 1)), q_i, q_i, H', ⟨by have := HK1.out; have := HJ8.out; omega⟩, ⟨q_r (Kd.R_mono HO264.out (fun _ hk => trivial))⟩, ⟨bq⟩⟩
         ·rw [if_neg c17] at H
          exact absurd H (by simp)
        ·replace c16 := Bool.eq_false_iff.mpr c16
         subst c16
         have H1 : (if (wrap64 ((wrap64 (((rd_T104 l0 x11_1).f0) * 3)) + ((rd_T104 l0 x11_1).f1))) > (wrap64 ((wrap64 (a1 * 3)) + a2)) then (if x9_1.length < 5864062014805 then ((some (x9_1 ++ [(⟨a1, a2, a3⟩ : S104)] : List (S104))).bind fun y265 => (if y265.length < 5864062014805 then (spec_l2Set.l0 kj8 l0 a1 a2 a3 (y265 ++ [(⟨((rd_T104 l0 x11_1).f0), ((rd_T104 l0 x11_1).f1), ((rd_T104 l0 x11_1).f2)⟩ : S104)]) true (wrap64 (x11_1 + 1))) else (none))) else (none)) else (if x9_1.length < 5864062014805 then (spec_l2Set.l0 kj8 l0 a1 a2 a3 (x9_1 ++ [(⟨((rd_T104 l0 x11_1).f0), ((rd_T104 l0 x11_1).f1), ((rd_T104 l0 x11_1).f2)⟩ : S104)]) false (wrap64 (x11_1 + 1))) else (none))) = some r := by rw [if_neg (show ¬ (false = true) by decide)] at H; exact H
         clear H
         have H := H1
         clear H1
         by_cases c20 : (wrap64 ((wrap64 (((rd_T104 l0 x11_1).f0) * 3)) + ((rd_T104 l0 x11_1).f1))) > (wrap64 ((wrap64 (a1 * 3)) + a2))
         ·rw [if_pos c20] at H
          have c20b0 := decide_eq_true c20
          clear c20
          by_cases c21 : x9_1.length < 5864062014805
          ·rw [if_pos c21] at H
           have LMc21 := am c21
           clear c21
           obtain ⟨y265, hy265⟩ : ∃ y_ : List (S104), y_ = (x9_1 ++ [(⟨a1, a2, a3⟩ : S104)]) := ⟨_, rfl⟩
           replace H : (if y265.length < 5864062014805 then (spec_l2Set.l0 kj8 l0 a1 a2 a3 (y265 ++ [(⟨((rd_T104 l0 x11_1).f0), ((rd_T104 l0 x11_1).f1), ((rd_T104 l0 x11_1).f2)⟩ : S104)]) true (wrap64 (x11_1 + 1))) else (none)) = some r := q_h hy265 H
           have Ny265 := am hy265
           clear hy265
           by_cases c22 : y265.length < 5864062014805
           ·rw [if_pos c22] at H
            have LMc22 := am c22
            clear c22
            obtain ⟨y268, hy268⟩ : ∃ y_ : List (S104), y_ = (y265 ++ [(⟨((rd_T104 l0 x11_1).f0), ((rd_T104 l0 x11_1).f1), ((rd_T104 l0 x11_1).f2)⟩ : S104)]) := ⟨_, rfl⟩
            replace H : (spec_l2Set.l0 kj8 l0 a1 a2 a3 y268 true (wrap64 (x11_1 + 1))) = some r := q_h hy268 H
            have Ny268 := am hy268
            clear hy268
            have H' := am H
            clear H
            obtain ⟨hcz23_0, hcz23_1, hcz23_2, hfz23_0, hfz23_1, hfz23_2⟩ := q_3 BK261.out
            go_wp2_with (first | ((with_reducible refine gate_builtin (b := .append) (xs := #[.tmp 51, .tmp 56]) rfl ?_); at_builtin; refine Kd.R_append k104 (w0 := w) w.heap.size rfl (.tmp 51) (.tmp 56) 64 104 (.agg #[(.int .i64 0), (.int .i64 0), (.int .i64 0)]) 24 rfl Try.underlying64 info104 rfl (by decide) (by omega) u9 x9_1 (⟨a1, a2, a3⟩ : S104) [.int .i64 a1, .int .i64 a2, .int .i64 a3] (fun k_ => k_ ≠ gb261) (fun _ => False) rfl rfl ?aP (fun _ hk => hk.elim) ?aF ?aO ?aB ?aS ?aL ?_; (case aP => exact k104_mkM _ _ _ (⟨a1, a2, a3⟩ : S104)); (case aB => exact bq); (case aF => exact (fun k_ hk => Kd.freshB (q_b BK261.out) k_ hk)); (case aO => exact (q_r (HO_9.out))); (case aS => exact (below_size bq)); (case aL => have := LMc21.out; omega); intro v266 w24 ho hb hg hat; rw [← Ny265.out] at ho; have n0_ := am (blk_grown (q_b BK261.out) hg (Kd.R_away HO_9.out (fun _ hk => hk))); have n1_ := am (hb); have n2_ := am (ho); revert n0_ n1_ n2_; clear BK261 HB HO_9; intro BK261 HB HO267; clear ho hb hg hat; obtain ⟨hcz25_0, hcz25_1, hcz25_2, hfz25_0, hfz25_1, hfz25_2⟩ := q_3 BK261.out) | ((with_reducible refine gate_builtin (b := .append) (xs := #[.tmp 58, .tmp 60]) rfl ?_); at_builtin; refine Kd.R_append k104 (w0 := w) w.heap.size rfl (.tmp 58) (.tmp 60) 64 104 (.agg #[(.int .i64 0), (.int .i64 0), (.int .i64 0)]) 24 rfl Try.underlying64 info104 rfl (by decide) (by omega) v266 y265 (⟨((rd_T104 l0 x11_1).f0), ((rd_T104 l0 x11_1).f1), ((rd_T104 l0 x11_1).f2)⟩ : S104) [.int .i64 ((rd_T104 l0 x11_1).f0), .int .i64 ((rd_T104 l0 x11_1).f1), .int .i64 ((rd_T104 l0 x11_1).f2)] (fun k_ => k_ ≠ gb261) (fun _ => False) rfl rfl ?aP (fun _ hk => hk.elim) ?aF ?aO ?aB ?aS ?aL ?_; (case aP => exact k104_mkM _ _ _ (⟨((rd_T104 l0 x11_1).f0), ((rd_T104 l0 x11_1).f1), ((rd_T104 l0 x11_1).f2)⟩ : S104)); (case aB => exact bq); (case aF => exact (fun k_ hk => Kd.freshB (q_b BK261.out) k_ hk)); (case aO => exact (q_r (HO267.out))); (case aS => exact (below_size bq)); (case aL => have := LMc22.out; omega); intro v269 w26 ho hb hg hat; rw [← Ny268.out] at ho; have n0_ := am (blk_grown (q_b BK261.out) hg (Kd.R_away HO267.out (fun _ hk => hk))); have n1_ := am (hb); have n2_ := am (ho); revert n0_ n1_ n2_; clear BK261 HB HO267; intro BK261 HB HO270; clear ho hb hg hat))
            go_roundg kj8
            case measure => have := HK1.out; have := HJ8.out; omega
            case rel => exact ⟨(y268), (true), (wrap64 (x11_1 + 1)), q_i, q_i, H', ⟨by have := HK1.out; have := HJ8.out; omega⟩, ⟨q_r (Kd.R_mono HO270.out (fun _ hk => trivial))⟩, ⟨bq⟩⟩
           ·rw [if_neg c22] at H
            exact absurd H (by simp)
          ·rw [if_neg c21] at H
           exact absurd H (by simp)
         ·rw [if_neg c20] at H
          have c20b0 := decide_eq_false c20
          clear c20
          by_cases c27 : x9_1.length < 5864062014805
          ·rw [if_pos c27] at H
           have LMc27 := am c27
           clear c27
           obtain ⟨y271, hy271⟩ : ∃ y_ : List (S104), y_ = (x9_1 ++ [(⟨((rd_T104 l0 x11_1).f0), ((rd_T104 l0 x11_1).f1), ((rd_T104 l0 x11_1).f2)⟩ : S104)]) := ⟨_, rfl⟩
           replace H : (spec_l2Set.l0 kj8 l0 a1 a2 a3 y271 false (wrap64 (x11_1 + 1))) = some r := q_h hy271 H
           have Ny271 := am hy271
           clear hy271
           have H' := am H
           clear H
           obtain ⟨hcz28_0, hcz28_1, hcz28_2, hfz28_0, hfz28_1, hfz28_2⟩ := q_3 BK261.out
           go_wp2_with (first | ((with_reducible refine gate_builtin (b := .append) (xs := #[.tmp 58, .tmp 60]) rfl ?_); at_builtin; refine Kd.R_append k104 (w0 := w) w.heap.size rfl (.tmp 58) (.tmp 60) 64 104 (.agg #[(.int .i64 0), (.int .i64 0), (.int .i64 0)]) 24 rfl Try.underlying64 info104 rfl (by decide) (by omega) u9 x9_1 (⟨((rd_T104 l0 x11_1).f0), ((rd_T104 l0 x11_1).f1), ((rd_T104 l0 x11_1).f2)⟩ : S104) [.int .i64 ((rd_T104 l0 x11_1).f0), .int .i64 ((rd_T104 l0 x11_1).f1), .int .i64 ((rd_T104 l0 x11_1).f2)] (fun k_ => k_ ≠ gb261) (fun _ => False) rfl rfl ?aP (fun _ hk => hk.elim) ?aF ?aO ?aB ?aS ?aL ?_; (case aP => exact k104_mkM _ _ _ (⟨((rd_T104 l0 x11_1).f0), ((rd_T104 l0 x11_1).f1), ((rd_T104 l0 x11_1).f2)⟩ : S104)); (case aB => exact bq); (case aF => exact (fun k_ hk => Kd.freshB (q_b BK261.out) k_ hk)); (case aO => exact (q_r (HO_9.out))); (case aS => exact (below_size bq)); (case aL => have := LMc27.out; omega); intro v272 w29 ho hb hg hat; rw [← Ny271.out] at ho; have n0_ := am (blk_grown (q_b BK261.out) hg (Kd.R_away HO_9.out (fun _ hk => hk))); have n1_ := am (hb); have n2_ := am (ho); revert n0_ n1_ n2_; clear BK261 HB HO_9; intro BK261 HB HO273; clear ho hb hg hat))
           go_roundg kj8
           case measure => have := HK1.out; have := HJ8.out; omega
           case rel => exact ⟨(y271), (false), (wrap64 (x11_1 + 1)), q_i, q_i, H', ⟨by have := HK1.out; have := HJ8.out; omega⟩, ⟨q_r (Kd.R_mono HO273.out (fun _ hk => trivial))⟩, ⟨bq⟩⟩
          ·rw [if_neg c27] at H
           exact absurd H (by simp)
    ·rw [if_neg c8] at H
     exact absurd H (by simp)
   ·rw [if_neg c7] at H
    have c7b0 := decide_eq_false c7
    clear c7
    by_cases c30 : x10_1 = true
    ·subst c30
     have H1 : (some x9_1) = some r := by rw [if_pos rfl] at H; exact H
     clear H
     have H := H1
     clear H1
     obtain rfl := Option.some.inj H
     go_wp2
     go_ret
     exact ⟨_, q_e, q_r (HO_9.out), bq⟩
    ·replace c30 := Bool.eq_false_iff.mpr c30
     subst c30
     have H1 : (if x9_1.length < 5864062014805 then (some (x9_1 ++ [(⟨a1, a2, a3⟩ : S104)])) else (none)) = some r := by rw [if_neg (show ¬ (false = true) by decide)] at H; exact H
     clear H
     have H := H1
     clear H1
     by_cases c31 : x9_1.length < 5864062014805
     ·rw [if_pos c31] at H
      have LMc31 := am c31
      clear c31
      obtain ⟨y257, hy257⟩ : ∃ y_ : List (S104), y_ = (x9_1 ++ [(⟨a1, a2, a3⟩ : S104)]) := ⟨_, rfl⟩
      replace H : (some y257) = some r := q_h hy257 H
      have Ny257 := am hy257
      clear hy257
      obtain rfl := Option.some.inj H
      go_wp2_with (first | ((with_reducible refine gate_builtin (b := .append) (xs := #[.tmp 64, .tmp 69]) rfl ?_); at_builtin; refine Kd.R_append k104 (w0 := w) w.heap.size rfl (.tmp 64) (.tmp 69) 64 104 (.agg #[(.int .i64 0), (.int .i64 0), (.int .i64 0)]) 24 rfl Try.underlying64 info104 rfl (by decide) (by omega) u9 x9_1 (⟨a1, a2, a3⟩ : S104) [.int .i64 a1, .int .i64 a2, .int .i64 a3] (fun _ => True) (fun _ => False) rfl rfl ?aP (fun _ hk => hk.elim) ?aF ?aO ?aB ?aS ?aL ?_; (case aP => exact k104_mkM _ _ _ (⟨a1, a2, a3⟩ : S104)); (case aB => exact bq); (case aF => exact (fun _ _ => trivial)); (case aO => exact (q_r (HO_9.out))); (case aS => exact (below_size bq)); (case aL => have := LMc31.out; omega); intro v258 w32 ho hb hg hat; rw [← Ny257.out] at ho; have n0_ := am (hb); have n1_ := am (ho); revert n0_ n1_; clear HB HO_9; intro HB HO259; clear ho hb hg hat))
      go_ret
      exact ⟨_, q_e, q_r (HO259.out), bq⟩
     ·rw [if_neg c31] at H
      exact absurd H (by simp)

/-! ### spec_l2Add: function 103 -/
def spec_l2Add.l0 : Nat → List (S86) → List (S104) → Int → Option ((List (S104)))
  | 0, _, _, _ => none
  | k + 1, x1, x5, x6 => if x6 < (x1.length : Int) then (if 0 ≤ x6 then ((spec_l2Has.f k x5 ((rd_T86 x1 x6).f1) ((rd_T86 x1 x6).f2)).bind fun t284 => ((spec_l2Set.f k x5 ((rd_T86 x1 x6).f1) ((rd_T86 x1 x6).f2) (wrap64 (t284 + ((rd_T86 x1 x6).f3)))).bind fun t286 => (spec_l2Add.l0 k x1 t286 (wrap64 (x6 + 1))))) else (none)) else (some x5)
def spec_l2Add.f (k : Nat) (l0 : List (S104)) (l1 : List (S86)) : Option ((List (S104))) := (some (([] : List (S104)) : List (S104))).bind fun y274 => (if y274.length + l0.length < 5864062014805 then (spec_l2Add.l0 k l1 (y274 ++ l0) 0) else (none))
def spec_l2Add.T5 : Bool × List (List Nat × List Nat) := (true, [([], []), ([], []), ([], []), ([1, 2], [1, 2]), ([3], [3]), ([4], [4]), ([], []), ([], []), ([6, 7], [6, 7]), ([8], [8]), ([9], [9]), ([], []), ([], []), ([], []), ([12, 13], [12, 13]), ([14], [14]), ([15], [15]), ([], []), ([], []), ([17, 18], [17, 18]), ([19], [19]), ([20], [20]), ([11, 16, 21], [11, 16, 21]), ([], []), ([], []), ([23, 24], [23, 24]), ([25], [25]), ([26], [26]), ([22, 27], [22, 27]), ([0, 5, 10, 28, 22], [0, 5, 10, 28]), ([29, 29, 0, 1, 2, 3, 4, 5, 6, 7, 8, 9, 10, 11, 12, 13, 14, 15, 16, 17, 18, 19, 20, 21, 22, 23, 24, 25, 26, 27, 28, 29], [0, 11, 29])])
def spec_l2Add.B5 : List Nat := [0, 0, 0, 6, 14, 30, 0, 0, 192, 448, 960, 0, 0, 0, 12288, 28672, 61440, 0, 0, 393216, 917504, 1966080, 4192256, 0, 0, 25165824, 58720256, 125829120, 268433408, 536870911, 1073741823]
theorem spec_l2Add.tab5 : rtab .any (opsOf Try.f103 5) = spec_l2Add.T5 := by kernel_rfl
theorem spec_l2Add.bits5 : waitsOk spec_l2Add.T5.2 spec_l2Add.B5 = true := by kernel_rfl
theorem spec_l2Add.calls (k : Nat) (A0 : Option Addr) (c0 : Nat) (l0 : List (S104)) (A1 : Option Addr) (c1 : Nat) (l1 : List (S86)) (r : List (S104)) (w : World) (hr0 : Kd.C k104 w A0 l0.length l0) (hc0 : l0.length ≤ c0) (hr1 : Kd.C k86 w A1 l1.length l1) (hc1 : l1.length ≤ c1) (h : spec_l2Add.f k l0 l1 = some r) :
  Calls Try.prog 103 #[.slice A0 l0.length c0, .slice A1 l1.length c1] w fun e w' => ∃ v0_ : Value, e = .returned (v0_) ∧ Kd.R k104 104 w' w.heap.size (fun _ => True) v0_ r ∧ Below w.heap.size w w' := by
 have HR0 := am hr0
 have HC0 := am hc0
 clear hr0 hc0
 have HR1 := am hr1
 have HC1 := am hc1
 clear hr1 hc1
 have HB := am (Below.refl w.heap.size w)
 have H : ((some (([] : List (S104)) : List (S104))).bind fun y274 => (if y274.length + l0.length < 5864062014805 then (spec_l2Add.l0 k l1 (y274 ++ l0) 0) else (none))) = some r := h
 clear h
 obtain ⟨y274, hy274⟩ : ∃ y_ : List (S104), y_ = (([] : List (S104))) := ⟨_, rfl⟩
 replace H : (if y274.length + l0.length < 5864062014805 then (spec_l2Add.l0 k l1 (y274 ++ l0) 0) else (none)) = some r := q_h hy274 H
 have Ny274 := am hy274
 clear hy274
 by_cases c3 : y274.length + l0.length < 5864062014805
 ·rw [if_pos c3] at H
  have LMc3 := am c3
  clear c3
  obtain ⟨y277, hy277⟩ : ∃ y_ : List (S104), y_ = (y274 ++ l0) := ⟨_, rfl⟩
  replace H : (spec_l2Add.l0 k l1 y277 0) = some r := q_h hy277 H
  have Ny277 := am hy277
  clear hy277
  have H' := am H
  clear H
  go_enter Try.func103, Try.ntmps103
  go_wp2_with (first | ((with_reducible refine gate_dst (N := 7) rfl ?_); refine Kd.R_lit k104 _ 104 ?hg (N := 7) ?hd (xs := ([] : List (S104))) (inner := []) (ok := fun _ => True) (okp := fun _ => True) ?hr ?hp (fun _ hk => hk) trivial (Below.refl _ _) (Nat.le_refl _) (by simp) ?_; (case hd => rfl); (case hg => rfl); (case hr => first | (go_simp; done) | (go_simp; rfl)); (case hp => exact (Reps.none _ _)); intro v275 w4 ho5 hb hg_ hnew_; clear hg_ hnew_; (first | rw [← Ny274.out] at ho5 | (simp only [Int.reduceToNat] at ho5; rw [← Ny274.out] at ho5)); have n0_ := am (Kd.R_lower ho5 (below_size bq)); have n1_ := am (below_step bq hb); revert n0_ n1_; clear HB; intro HO276 HB; clear hb ho5) | ((with_reducible refine gate_builtin (b := .append) (xs := #[.tmp 7, .tmp 8]) rfl ?_); at_builtin; refine Kd.R_append_rows k104 (w0 := w) w.heap.size rfl (.tmp 7) (.tmp 8) 64 104 (.agg #[(.int .i64 0), (.int .i64 0), (.int .i64 0)]) 24 rfl Try.underlying64 info104 rfl (by decide) (by omega) v275 y274 l0 _ _ _ (fun _ => True) (fun _ => False) rfl rfl ?aO ?aR (fun _ _ h => h) (fun _ h => h.elim) ?aF ?aB ?aS ?aL ?_; (case aR => repeat (first | exact (Kd.C_below HR0.out HB.out) | (with_reducible refine Kd.C_alloc ?_ _) | (with_reducible refine Kd.C_drewN ?_ _) | (with_reducible refine Kd.C_drew ?_))); (case aB => exact bq); (case aF => exact (fun _ _ => trivial)); (case aO => exact (q_r (HO276.out))); (case aS => exact (below_size bq)); (case aL => have := LMc3.out; omega); intro v278 w6 ho hb hg hat; rw [← Ny277.out] at ho; have n0_ := am (hb); have n1_ := am (ho); revert n0_ n1_; clear HB HO276; intro HB HO279; clear ho hb hg hat))
  go_loopg [5, 6] k (fun kq v5 v6 w' => ∃ (x5_1 : List (S104)) (x6_1 : Int), v6 = .int .i64 x6_1 ∧ Aside0 (spec_l2Add.l0 kq l1 x5_1 x6_1 = some r) ∧ Aside0 (kq ≤ k) ∧ Aside0 (Kd.R k104 104 w' w.heap.size (fun _ => True) v5 x5_1) ∧ Aside0 (Below w.heap.size w w'))
  case atStart => exact ⟨(y277), (0), q_i, H', ⟨Nat.le_refl _⟩, ⟨q_r (HO279.out)⟩, ⟨bq⟩⟩
  case round =>
   clear H'
   (try clear c1); (try clear p2); (try clear c3)
   obtain ⟨x5_1, x6_1, rfl, HA, HK1, HO_5, HB⟩ := hrel
   cases gk with
   | zero => exact absurd HA.out (by simp [spec_l2Add.l0])
   | succ k1 =>
    have H := HA.out
    clear HA
    simp only [spec_l2Add.l0] at H
    by_cases c7 : x6_1 < (l1.length : Int)
    ·rw [if_pos c7] at H
     have c7b0 := decide_eq_true c7
     clear c7
     by_cases c8 : 0 ≤ x6_1
     ·rw [if_pos c8] at H
      have c8b0 := decide_eq_true c8
      clear c8
      replace H := ob H
      obtain ⟨t284, A90, H⟩ := H
      replace H : ((spec_l2Set.f k1 x5_1 ((rd_T86 l1 x6_1).f1) ((rd_T86 l1 x6_1).f2) (wrap64 (t284 + ((rd_T86 l1 x6_1).f3)))).bind fun t286 => (spec_l2Add.l0 k1 l1 t286 (wrap64 (x6_1 + 1)))) = some r := H
      have A9 := am A90
      clear A90
      replace H := ob H
      obtain ⟨t286, A100, H⟩ := H
      replace H : (spec_l2Add.l0 k1 l1 t286 (wrap64 (x6_1 + 1))) = some r := H
      have A10 := am A100
      clear A100
      have H' := am H
      clear H
      try go_wp2
      have n0_ := am (Kd.R_drew HO_5.out)
      have n1_ := am (below_drew1 HB.out)
      clear HO_5
      clear HB
      have HO_5 := n0_
      have HB := n1_
      clear n0_ n1_
      have p280 : 0 ≤ (x6_1 : Int) := q_d
      have q280 : x6_1 < (l1.length : Int) := q_d
      obtain ⟨ad280, e280, hx280_0, hx280_1, hx280_2, hx280_3⟩ := at_T86 HR1.out x6_1 p280 q280
      have hw280_3 := hx280_3
      have hw280_2 := hx280_2
      have hw280_1 := hx280_1
      have hw280_0 := hx280_0
      cases e280
      replace hx280_0 := q_x HB.out hx280_0
      replace hx280_1 := q_x HB.out hx280_1
      replace hx280_2 := q_x HB.out hx280_2
      replace hx280_3 := q_x HB.out hx280_3
      replace p280 := eq_true p280
      replace q280 := eq_true q280
      have p281 : 0 ≤ (x6_1 : Int) := q_d
      have q281 : x6_1 < (l1.length : Int) := q_d
      obtain ⟨ad281, e281, hx281_0, hx281_1, hx281_2, hx281_3⟩ := at_T86 HR1.out x6_1 p281 q281
      have hw281_3 := hx281_3
      have hw281_2 := hx281_2
      have hw281_1 := hx281_1
      have hw281_0 := hx281_0
      obtain rfl : ad280 = ad281 := (by injection e281)
      replace hx281_0 := q_x HB.out hx281_0
      replace hx281_1 := q_x HB.out hx281_1
      replace hx281_2 := q_x HB.out hx281_2
      replace hx281_3 := q_x HB.out hx281_3
      replace p281 := eq_true p281
      replace q281 := eq_true q281
      have p282 : 0 ≤ (x6_1 : Int) := q_d
      have q282 : x6_1 < (l1.length : Int) := q_d
      obtain ⟨ad282, e282, hx282_0, hx282_1, hx282_2, hx282_3⟩ := at_T86 HR1.out x6_1 p282 q282
      have hw282_3 := hx282_3
      have hw282_2 := hx282_2
      have hw282_1 := hx282_1
      have hw282_0 := hx282_0
      obtain rfl : ad280 = ad282 := (by injection e282)
      replace hx282_0 := q_x HB.out hx282_0
      replace hx282_1 := q_x HB.out hx282_1
      replace hx282_2 := q_x HB.out hx282_2
      replace hx282_3 := q_x HB.out hx282_3
      replace p282 := eq_true p282
      replace q282 := eq_true q282
      have p283 : 0 ≤ (x6_1 : Int) := q_d
      have q283 : x6_1 < (l1.length : Int) := q_d
      obtain ⟨ad283, e283, hx283_0, hx283_1, hx283_2, hx283_3⟩ := at_T86 HR1.out x6_1 p283 q283
      have hw283_3 := hx283_3
      have hw283_2 := hx283_2
      have hw283_1 := hx283_1
      have hw283_0 := hx283_0
      obtain rfl : ad280 = ad283 := (by injection e283)
      replace hx283_0 := q_x HB.out hx283_0
      replace hx283_1 := q_x HB.out hx283_1
      replace hx283_2 := q_x HB.out hx283_2
      replace hx283_3 := q_x HB.out hx283_3
      replace p283 := eq_true p283
      replace q283 := eq_true q283
      have p285 : 0 ≤ (x6_1 : Int) := q_d
      have q285 : x6_1 < (l1.length : Int) := q_d
      obtain ⟨ad285, e285, hx285_0, hx285_1, hx285_2, hx285_3⟩ := at_T86 HR1.out x6_1 p285 q285
      have hw285_3 := hx285_3
      have hw285_2 := hx285_2
      have hw285_1 := hx285_1
      have hw285_0 := hx285_0
      obtain rfl : ad280 = ad285 := (by injection e285)
      replace hx285_0 := q_x HB.out hx285_0
      replace hx285_1 := q_x HB.out hx285_1
      replace hx285_2 := q_x HB.out hx285_2
      replace hx285_3 := q_x HB.out hx285_3
      replace p285 := eq_true p285
      replace q285 := eq_true q285
      obtain ⟨Ao12, co12, eo12⟩ := Kd.R_slice HO_5.out
      (first | subst eo12 | (injection eo12 with f1_ f2_ f3_; have f4_ := f1_.symm; have f5_ := f3_.symm; clear f1_ f2_ f3_; subst f4_; subst f5_))
      refine start_ (n := 31) (S := fun w' => w'.cell? (ad280.add ((x6_1).toNat * 4)) = some (.int .i64 ((rd_T86 l1 x6_1).f0)) ∧ w'.cell? ⟨(ad280.add ((x6_1).toNat * 4)).block, (ad280.add ((x6_1).toNat * 4)).off + 1, none⟩ = some (.int .i64 ((rd_T86 l1 x6_1).f1)) ∧ w'.cell? ⟨(ad280.add ((x6_1).toNat * 4)).block, (ad280.add ((x6_1).toNat * 4)).off + 2, none⟩ = some (.int .i64 ((rd_T86 l1 x6_1).f2)) ∧ w'.cell? ⟨(ad280.add ((x6_1).toNat * 4)).block, (ad280.add ((x6_1).toNat * 4)).off + 3, none⟩ = some (.int .i64 ((rd_T86 l1 x6_1).f3)) ∧ w'.cell? (ad280.add ((x6_1).toNat * 4)) = some (.int .i64 ((rd_T86 l1 x6_1).f0)) ∧ w'.cell? ⟨(ad280.add ((x6_1).toNat * 4)).block, (ad280.add ((x6_1).toNat * 4)).off + 1, none⟩ = some (.int .i64 ((rd_T86 l1 x6_1).f1)) ∧ w'.cell? ⟨(ad280.add ((x6_1).toNat * 4)).block, (ad280.add ((x6_1).toNat * 4)).off + 2, none⟩ = some (.int .i64 ((rd_T86 l1 x6_1).f2)) ∧ w'.cell? ⟨(ad280.add ((x6_1).toNat * 4)).block, (ad280.add ((x6_1).toNat * 4)).off + 3, none⟩ = some (.int .i64 ((rd_T86 l1 x6_1).f3)) ∧ w'.cell? (ad280.add ((x6_1).toNat * 4)) = some (.int .i64 ((rd_T86 l1 x6_1).f0)) ∧ w'.cell? ⟨(ad280.add ((x6_1).toNat * 4)).block, (ad280.add ((x6_1).toNat * 4)).off + 1, none⟩ = some (.int .i64 ((rd_T86 l1 x6_1).f1)) ∧ w'.cell? ⟨(ad280.add ((x6_1).toNat * 4)).block, (ad280.add ((x6_1).toNat * 4)).off + 2, none⟩ = some (.int .i64 ((rd_T86 l1 x6_1).f2)) ∧ w'.cell? ⟨(ad280.add ((x6_1).toNat * 4)).block, (ad280.add ((x6_1).toNat * 4)).off + 3, none⟩ = some (.int .i64 ((rd_T86 l1 x6_1).f3)) ∧ w'.cell? (ad280.add ((x6_1).toNat * 4)) = some (.int .i64 ((rd_T86 l1 x6_1).f0)) ∧ w'.cell? ⟨(ad280.add ((x6_1).toNat * 4)).block, (ad280.add ((x6_1).toNat * 4)).off + 1, none⟩ = some (.int .i64 ((rd_T86 l1 x6_1).f1)) ∧ w'.cell? ⟨(ad280.add ((x6_1).toNat * 4)).block, (ad280.add ((x6_1).toNat * 4)).off + 2, none⟩ = some (.int .i64 ((rd_T86 l1 x6_1).f2)) ∧ w'.cell? ⟨(ad280.add ((x6_1).toNat * 4)).block, (ad280.add ((x6_1).toNat * 4)).off + 3, none⟩ = some (.int .i64 ((rd_T86 l1 x6_1).f3)) ∧ w'.cell? (ad280.add ((x6_1).toNat * 4)) = some (.int .i64 ((rd_T86 l1 x6_1).f0)) ∧ w'.cell? ⟨(ad280.add ((x6_1).toNat * 4)).block, (ad280.add ((x6_1).toNat * 4)).off + 1, none⟩ = some (.int .i64 ((rd_T86 l1 x6_1).f1)) ∧ w'.cell? ⟨(ad280.add ((x6_1).toNat * 4)).block, (ad280.add ((x6_1).toNat * 4)).off + 2, none⟩ = some (.int .i64 ((rd_T86 l1 x6_1).f2)) ∧ w'.cell? ⟨(ad280.add ((x6_1).toNat * 4)).block, (ad280.add ((x6_1).toNat * 4)).off + 3, none⟩ = some (.int .i64 ((rd_T86 l1 x6_1).f3))) (ds := []) #[false, false, false, false, false, false, false, false, false, false, false, false, false, false, false, false, false, false, false, false, false, false, false, false, false, false, false, false, false, false, false] (by kernel_rfl) rfl rfl ⟨((HB.out.cell (wb hw280_0)).trans hw280_0), ((HB.out.cell (wb hw280_1)).trans hw280_1), ((HB.out.cell (wb hw280_2)).trans hw280_2), ((HB.out.cell (wb hw280_3)).trans hw280_3), ((HB.out.cell (wb hw281_0)).trans hw281_0), ((HB.out.cell (wb hw281_1)).trans hw281_1), ((HB.out.cell (wb hw281_2)).trans hw281_2), ((HB.out.cell (wb hw281_3)).trans hw281_3), ((HB.out.cell (wb hw282_0)).trans hw282_0), ((HB.out.cell (wb hw282_1)).trans hw282_1), ((HB.out.cell (wb hw282_2)).trans hw282_2), ((HB.out.cell (wb hw282_3)).trans hw282_3), ((HB.out.cell (wb hw283_0)).trans hw283_0), ((HB.out.cell (wb hw283_1)).trans hw283_1), ((HB.out.cell (wb hw283_2)).trans hw283_2), ((HB.out.cell (wb hw283_3)).trans hw283_3), ((HB.out.cell (wb hw285_0)).trans hw285_0), ((HB.out.cell (wb hw285_1)).trans hw285_1), ((HB.out.cell (wb hw285_2)).trans hw285_2), ((HB.out.cell (wb hw285_3)).trans hw285_3)⟩ (fun hHeld => ?_); refine with_tabW spec_l2Add.tab5 spec_l2Add.bits5 (fun HT_ HW_ => ?_)
      generalize wr.drew = w11 at HO_5 HB hx280_0 hx280_1 hx280_2 hx280_3 hx281_0 hx281_1 hx281_2 hx281_3 hx282_0 hx282_1 hx282_2 hx282_3 hx283_0 hx283_1 hx283_2 hx283_3 hx285_0 hx285_1 hx285_2 hx285_3 hHeld ⊢
      refine q_p 0 (some 16) #[true, false, false, false, false, false, false, false, false, false, false, false, false, false, false, false, false, false, false, false, false, false, false, false, false, false, false, false, false, false, false] HT_.out ?_
      refine q_p 1 (some 17) #[true, true, false, false, false, false, false, false, false, false, false, false, false, false, false, false, false, false, false, false, false, false, false, false, false, false, false, false, false, false, false] HT_.out ?_
      refine q_p 2 (some 18) #[true, true, true, false, false, false, false, false, false, false, false, false, false, false, false, false, false, false, false, false, false, false, false, false, false, false, false, false, false, false, false] HT_.out ?_
      refine q_p 3 (some 19) #[true, true, true, true, false, false, false, false, false, false, false, false, false, false, false, false, false, false, false, false, false, false, false, false, false, false, false, false, false, false, false] HT_.out ?_
      refine q_p 4 (some 20) #[true, true, true, true, true, false, false, false, false, false, false, false, false, false, false, false, false, false, false, false, false, false, false, false, false, false, false, false, false, false, false] HT_.out ?_
      refine q_p 6 (some 22) #[true, true, true, true, true, false, true, false, false, false, false, false, false, false, false, false, false, false, false, false, false, false, false, false, false, false, false, false, false, false, false] HT_.out ?_
      refine q_p 7 (some 23) #[true, true, true, true, true, false, true, true, false, false, false, false, false, false, false, false, false, false, false, false, false, false, false, false, false, false, false, false, false, false, false] HT_.out ?_
      refine q_p 8 (some 24) #[true, true, true, true, true, false, true, true, true, false, false, false, false, false, false, false, false, false, false, false, false, false, false, false, false, false, false, false, false, false, false] HT_.out ?_
      refine q_p 9 (some 25) #[true, true, true, true, true, false, true, true, true, true, false, false, false, false, false, false, false, false, false, false, false, false, false, false, false, false, false, false, false, false, false] HT_.out ?_
      refine q_p 11 (some 27) #[true, true, true, true, true, false, true, true, true, true, false, true, false, false, false, false, false, false, false, false, false, false, false, false, false, false, false, false, false, false, false] HT_.out ?_
      refine q_p 12 (some 28) #[true, true, true, true, true, false, true, true, true, true, false, true, true, false, false, false, false, false, false, false, false, false, false, false, false, false, false, false, false, false, false] HT_.out ?_
      refine q_p 13 (some 29) #[true, true, true, true, true, false, true, true, true, true, false, true, true, true, false, false, false, false, false, false, false, false, false, false, false, false, false, false, false, false, false] HT_.out ?_
      refine q_p 14 (some 30) #[true, true, true, true, true, false, true, true, true, true, false, true, true, true, true, false, false, false, false, false, false, false, false, false, false, false, false, false, false, false, false] HT_.out ?_
      refine q_p 15 (some 31) #[true, true, true, true, true, false, true, true, true, true, false, true, true, true, true, true, false, false, false, false, false, false, false, false, false, false, false, false, false, false, false] HT_.out ?_
      refine q_p 17 (some 33) #[true, true, true, true, true, false, true, true, true, true, false, true, true, true, true, true, false, true, false, false, false, false, false, false, false, false, false, false, false, false, false] HT_.out ?_
      refine q_p 18 (some 34) #[true, true, true, true, true, false, true, true, true, true, false, true, true, true, true, true, false, true, true, false, false, false, false, false, false, false, false, false, false, false, false] HT_.out ?_
      refine q_p 19 (some 35) #[true, true, true, true, true, false, true, true, true, true, false, true, true, true, true, true, false, true, true, true, false, false, false, false, false, false, false, false, false, false, false] HT_.out ?_
      refine q_p 20 (some 36) #[true, true, true, true, true, false, true, true, true, true, false, true, true, true, true, true, false, true, true, true, true, false, false, false, false, false, false, false, false, false, false] HT_.out ?_
      refine q_p 23 (some 39) #[true, true, true, true, true, false, true, true, true, true, false, true, true, true, true, true, false, true, true, true, true, false, false, true, false, false, false, false, false, false, false] HT_.out ?_
      refine q_p 24 (some 40) #[true, true, true, true, true, false, true, true, true, true, false, true, true, true, true, true, false, true, true, true, true, false, false, true, true, false, false, false, false, false, false] HT_.out ?_
      refine q_p 25 (some 41) #[true, true, true, true, true, false, true, true, true, true, false, true, true, true, true, true, false, true, true, true, true, false, false, true, true, true, false, false, false, false, false] HT_.out ?_
      refine q_p 26 (some 42) #[true, true, true, true, true, false, true, true, true, true, false, true, true, true, true, true, false, true, true, true, true, false, false, true, true, true, true, false, false, false, false] HT_.out ?_
      refine q_t 5 (some 21) #[true, true, true, true, true, true, true, true, true, true, false, true, true, true, true, true, false, true, true, true, true, false, false, true, true, true, true, false, false, false, false] HT_.out HW_.out hHeld ?_
      refine q_t 10 (some 26) #[true, true, true, true, true, true, true, true, true, true, true, true, true, true, true, true, false, true, true, true, true, false, false, true, true, true, true, false, false, false, false] HT_.out HW_.out hHeld ?_
      refine q_t 16 (some 32) #[true, true, true, true, true, true, true, true, true, true, true, true, true, true, true, true, true, true, true, true, true, false, false, true, true, true, true, false, false, false, false] HT_.out HW_.out hHeld ?_
      refine q_t 21 (some 37) #[true, true, true, true, true, true, true, true, true, true, true, true, true, true, true, true, true, true, true, true, true, true, false, true, true, true, true, false, false, false, false] HT_.out HW_.out hHeld ?_
      refine q_t 27 (some 43) #[true, true, true, true, true, true, true, true, true, true, true, true, true, true, true, true, true, true, true, true, true, true, false, true, true, true, true, true, false, false, false] HT_.out HW_.out hHeld ?_
      refine one_ (i := 22) (N := some 38) #[true, true, true, true, true, true, true, true, true, true, true, true, true, true, true, true, true, true, true, true, true, true, true, true, true, true, true, true, false, false, false] rfl rfl (one_of HT_.out (by kernel_rfl)) (by decide) (fun K hK => ?_)
      refine goes_ Try.func89 (by kernel_rfl) rfl #[.slice Ao12 x5_1.length co12, .int .i64 ((rd_T86 l1 x6_1).f1), .int .i64 ((rd_T86 l1 x6_1).f2)] (by rfl) rfl rfl (by (try simp only [List.map_toArray, List.map_cons, List.map_nil]); first | done | rfl | (simp only [List.length_drop, List.length_take]; rfl)) ?_
      with_reducible refine (spec_l2Has.calls k1 _ _ x5_1 ((rd_T86 l1 x6_1).f1) ((rd_T86 l1 x6_1).f2) t284 _ ?side1 ?side2 A9.out).mono ?_
      (case side1 => exact q_c ((Kd.R_reads' HO_5.out).2.2))
      (case side2 => exact (Kd.R_reads' HO_5.out).2.1)
      rintro e w' ⟨rfl, ⟨nd, rfl⟩⟩
      refine ⟨_, rfl, ?_⟩
      refine hK.out _ _ ⟨((HB.out.cell (wb hw280_0)).trans hw280_0), ((HB.out.cell (wb hw280_1)).trans hw280_1), ((HB.out.cell (wb hw280_2)).trans hw280_2), ((HB.out.cell (wb hw280_3)).trans hw280_3), ((HB.out.cell (wb hw281_0)).trans hw281_0), ((HB.out.cell (wb hw281_1)).trans hw281_1), ((HB.out.cell (wb hw281_2)).trans hw281_2), ((HB.out.cell (wb hw281_3)).trans hw281_3), ((HB.out.cell (wb hw282_0)).trans hw282_0), ((HB.out.cell (wb hw282_1)).trans hw282_1), ((HB.out.cell (wb hw282_2)).trans hw282_2), ((HB.out.cell (wb hw282_3)).trans hw282_3), ((HB.out.cell (wb hw283_0)).trans hw283_0), ((HB.out.cell (wb hw283_1)).trans hw283_1), ((HB.out.cell (wb hw283_2)).trans hw283_2), ((HB.out.cell (wb hw283_3)).trans hw283_3), ((HB.out.cell (wb hw285_0)).trans hw285_0), ((HB.out.cell (wb hw285_1)).trans hw285_1), ((HB.out.cell (wb hw285_2)).trans hw285_2), ((HB.out.cell (wb hw285_3)).trans hw285_3)⟩ (fun hHeld => ?_)
      clear hK K
      refine norm_ (a' := ?_) ?_ ?_
      rotate_left
      ·show Act.put _ (some 38) _ = _
       simp only [Act.put, List.setIfInBounds_toArray, List.set_cons_zero, List.set_cons_succ, i64_w, i32_w]
       rfl
      refine q_p 28 (some 44) #[true, true, true, true, true, true, true, true, true, true, true, true, true, true, true, true, true, true, true, true, true, true, true, true, true, true, true, true, true, false, false] HT_.out ?_
      refine one_ (i := 29) (N := some 45) #[true, true, true, true, true, true, true, true, true, true, true, true, true, true, true, true, true, true, true, true, true, true, true, true, true, true, true, true, true, true, false] rfl rfl (one_of HT_.out (by kernel_rfl)) (by decide) (fun K hK => ?_)
      refine goes_ Try.func114 (by kernel_rfl) rfl #[.slice Ao12 x5_1.length co12, .int .i64 ((rd_T86 l1 x6_1).f1), .int .i64 ((rd_T86 l1 x6_1).f2), .int .i64 (wrap64 (t284 + ((rd_T86 l1 x6_1).f3)))] (by rfl) rfl rfl (by (try simp only [List.map_toArray, List.map_cons, List.map_nil]); first | done | rfl | (simp only [List.length_drop, List.length_take]; rfl)) ?_
      with_reducible refine (spec_l2Set.calls k1 _ _ x5_1 ((rd_T86 l1 x6_1).f1) ((rd_T86 l1 x6_1).f2) (wrap64 (t284 + ((rd_T86 l1 x6_1).f3))) t286 _ ?side1 ?side2 A10.out).mono ?_
      (case side1 => exact q_c ((Kd.R_reads' HO_5.out).2.2))
      (case side2 => exact (Kd.R_reads' HO_5.out).2.1)
      rintro e w13 ⟨v287, rfl, ho0, hb⟩
      refine ⟨_, rfl, ?_⟩
      have n0_ := am (Kd.R_elder' (q_r (HO_5.out)) (Kd.R_base ho0) hb)
      have n1_ := am (Kd.R_lower (Kd.R_new' ho0 (Kd.R_lt (q_r (HO_5.out)))) (below_size bq))
      have n2_ := am (below_step bq hb)
      clear HO_5
      clear HB
      have HO_5 := n0_
      have HO288 := n1_
      have HB := n2_
      clear n0_ n1_ n2_
      (try clear hb)
      (try clear hb2)
      (try clear hk)
      (try clear hi)
      (try clear ho0)
      refine hK.out _ _ ⟨((HB.out.cell (wb hw280_0)).trans hw280_0), ((HB.out.cell (wb hw280_1)).trans hw280_1), ((HB.out.cell (wb hw280_2)).trans hw280_2), ((HB.out.cell (wb hw280_3)).trans hw280_3), ((HB.out.cell (wb hw281_0)).trans hw281_0), ((HB.out.cell (wb hw281_1)).trans hw281_1), ((HB.out.cell (wb hw281_2)).trans hw281_2), ((HB.out.cell (wb hw281_3)).trans hw281_3), ((HB.out.cell (wb hw282_0)).trans hw282_0), ((HB.out.cell (wb hw282_1)).trans hw282_1), ((HB.out.cell (wb hw282_2)).trans hw282_2), ((HB.out.cell (wb hw282_3)).trans hw282_3), ((HB.out.cell (wb hw283_0)).trans hw283_0), ((HB.out.cell (wb hw283_1)).trans hw283_1), ((HB.out.cell (wb hw283_2)).trans hw283_2), ((HB.out.cell (wb hw283_3)).trans hw283_3), ((HB.out.cell (wb hw285_0)).trans hw285_0), ((HB.out.cell (wb hw285_1)).trans hw285_1), ((HB.out.cell (wb hw285_2)).trans hw285_2), ((HB.out.cell (wb hw285_3)).trans hw285_3)⟩ (fun hHeld => ?_)
      clear hK K
      refine norm_ (a' := ?_) ?_ ?_
      rotate_left
      ·show Act.put _ (some 45) _ = _
       simp only [Act.put, List.setIfInBounds_toArray, List.set_cons_zero, List.set_cons_succ, i64_w, i32_w]
       rfl
      refine q_p 30 (some 5) #[true, true, true, true, true, true, true, true, true, true, true, true, true, true, true, true, true, true, true, true, true, true, true, true, true, true, true, true, true, true, true] HT_.out ?_
      refine done_ (done_of HT_.out (by kernel_rfl)) ?_
      try go_wp2
      go_roundg k1
      case measure => have := HK1.out; omega
      case rel => exact ⟨(t286), (wrap64 (x6_1 + 1)), q_i, H', ⟨by have := HK1.out; omega⟩, ⟨q_r (Kd.R_mono HO288.out (fun _ hk => trivial))⟩, ⟨bq⟩⟩
     ·rw [if_neg c8] at H
      exact absurd H (by simp)
    ·rw [if_neg c7] at H
     have c7b0 := decide_eq_false c7
     clear c7
     obtain rfl := Option.some.inj H
     go_wp2
     go_ret
     exact ⟨_, q_e, q_r (HO_5.out), bq⟩
 ·rw [if_neg c3] at H
  exact absurd H (by simp)

end Go.Proofs.Ytanegggacfmkcaa.PFnExactSettleAll
