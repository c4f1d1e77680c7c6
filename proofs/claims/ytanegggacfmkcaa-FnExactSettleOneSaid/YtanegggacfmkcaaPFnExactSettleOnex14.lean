/- The functions that a law reaches, each as a plain Lean function with the proof that the machine comes to its answer: written by program (the kit's print, turned by wip/gen). No conditions. -/
import Derived.Test.YtanegggacfmkcaaPFnExactSettleOnex0
import Derived.Test.YtanegggacfmkcaaPFnExactSettleOnex12
namespace Go.Proofs.Ytanegggacfmkcaa.PFnExactSettleOne
open Go.RowKit Go.Proofs.YtanegggacfmkcaaW.PrintWords Go.Proofs.YtanegggacfmkcaaW.PrintLast Go.Proofs.YtanegggacfmkcaaW.PrintMore
attribute [local go_sem] max2_int min2_int max_two min_two max_three min_three max_four min_four   -- for this text's walks alone
set_option linter.unusedVariables false
set_option linter.unusedSimpArgs false

/-! ### spec_l2Set: function 114 -/
mutual
def spec_l2Set.l0 : Nat → List (S104) → Int → Int → Int → List (S104) → Bool → Int → Option ((List (S104)))
  | 0, _, _, _, _, _, _, _ => none
  | k + 1, x0, x1, x2, x3, x9, x10, x11 => if x11 < (x0.length : Int) then (if 0 ≤ x11 then (if ((rd_T104 x0 x11).f0) = x1 then (spec_l2Set.j1 k x0 x1 x2 x3 x9 x10 x11 (((rd_T104 x0 x11).f1) == x2) ((rd_T104 x0 x11).f0) ((rd_T104 x0 x11).f1) ((rd_T104 x0 x11).f2)) else (spec_l2Set.j1 k x0 x1 x2 x3 x9 x10 x11 false ((rd_T104 x0 x11).f0) ((rd_T104 x0 x11).f1) ((rd_T104 x0 x11).f2))) else (none)) else (if x10 = true then (some x9) else (if x9.length < 5864062014805 then (some (x9 ++ [(⟨x1, x2, x3⟩ : S104)])) else (none)))
def spec_l2Set.j1 : Nat → List (S104) → Int → Int → Int → List (S104) → Bool → Int → Bool → Int → Int → Int → Option ((List (S104)))
  | 0, _, _, _, _, _, _, _, _, _, _, _ => none
  | k + 1, x0, x1, x2, x3, x9, x10, x11, x35, x303000, x303001, x303002 => if x35 = true then (spec_l2Set.l0 k x0 x1 x2 x3 x9 x10 (wrap64 (x11 + 1))) else (if x10 = true then (if x9.length < 5864062014805 then (spec_l2Set.l0 k x0 x1 x2 x3 (x9 ++ [(⟨x303000, x303001, x303002⟩ : S104)]) x10 (wrap64 (x11 + 1))) else (none)) else (if (wrap64 ((wrap64 (x303000 * 3)) + x303001)) > (wrap64 ((wrap64 (x1 * 3)) + x2)) then (if x9.length < 5864062014805 then ((some (x9 ++ [(⟨x1, x2, x3⟩ : S104)] : List (S104))).bind fun y306 => (if y306.length < 5864062014805 then (spec_l2Set.l0 k x0 x1 x2 x3 (y306 ++ [(⟨x303000, x303001, x303002⟩ : S104)]) true (wrap64 (x11 + 1))) else (none))) else (none)) else (if x9.length < 5864062014805 then (spec_l2Set.l0 k x0 x1 x2 x3 (x9 ++ [(⟨x303000, x303001, x303002⟩ : S104)]) x10 (wrap64 (x11 + 1))) else (none))))
end
def spec_l2Set.f (k : Nat) (l0 : List (S104)) (a1 : Int) (a2 : Int) (a3 : Int) : Option ((List (S104))) := spec_l2Set.l0 k l0 a1 a2 a3 (([] : List (S104))) (a3 == 0) 0
set_option maxHeartbeats 8000000 in
set_option maxRecDepth 100000 in
theorem spec_l2Set.calls (k : Nat) (A0 : Option Addr) (c0 : Nat) (l0 : List (S104)) (a1 : Int) (a2 : Int) (a3 : Int) (r : List (S104)) (w : World) (hr0 : Kd.C k104 w A0 l0.length l0) (hc0 : l0.length ≤ c0) (h : spec_l2Set.f k l0 a1 a2 a3 = some r) :
  Calls Try.prog 114 #[.slice A0 l0.length c0, .int .i64 a1, .int .i64 a2, .int .i64 a3] w fun e w' => ∃ v0_ : Value, e = .returned (v0_) ∧ Kd.R k104 104 w' w.heap.size (fun _ => True) v0_ r ∧ Below w.heap.size w w' := by
 have hu104 := Try.underlying104
 have HR0 := Aside0.mk hr0
 have HC0 := Aside0.mk hc0
 clear hr0 hc0
 have HB := Aside0.mk (Below.refl w.heap.size w)
 have H : (spec_l2Set.l0 k l0 a1 a2 a3 (([] : List (S104))) (a3 == 0) 0) = some r := h
 clear h
 obtain ⟨y295, hy295⟩ : ∃ y_ : List (S104), y_ = (([] : List (S104))) := ⟨_, rfl⟩
 replace H : (spec_l2Set.l0 k l0 a1 a2 a3 y295 (a3 == 0) 0) = some r := q_h hy295 H
 have Ny295 := Aside0.mk hy295
 clear hy295
 have H' := Aside0.mk H
 clear H
 go_enter Try.func114, Try.ntmps114
 go_wp2_with (first | ((with_reducible refine gate_dst (N := 13) rfl ?_); refine Kd.R_lit k104 _ 104 ?hg (N := 13) ?hd (xs := ([] : List (S104))) (inner := []) (ok := fun _ => True) (okp := fun _ => True) ?hr ?hp (fun _ hk => hk) trivial (Below.refl _ _) (Nat.le_refl _) (by simp) ?_; (case hd => rfl); (case hg => rfl); (case hr => first | (go_simp; done) | (go_simp; rfl)); (case hp => exact (Reps.none _ _)); intro v296 w5 ho6 hb hg_ hnew_; clear hg_ hnew_; (first | rw [← Ny295.out] at ho6 | (simp only [Int.reduceToNat] at ho6; rw [← Ny295.out] at ho6)); have n0_ := Aside0.mk (Kd.R_lower ho6 (below_size bq)); have n1_ := Aside0.mk (below_step bq hb); revert n0_ n1_; clear HB; intro HO297 HB; clear hb ho6))
 go_loopg [9, 10, 11] k (fun kq v9 v10 v11 w' => ∃ (x9_1 : List (S104)) (x10_1 : Bool) (x11_1 : Int), v10 = .bool x10_1 ∧ v11 = .int .i64 x11_1 ∧ Aside0 (spec_l2Set.l0 kq l0 a1 a2 a3 x9_1 x10_1 x11_1 = some r) ∧ Aside0 (kq ≤ k) ∧ Aside0 (Kd.R k104 104 w' w.heap.size (fun _ => True) v9 x9_1) ∧ Aside0 (Below w.heap.size w w'))
 case atStart => exact ⟨(y295), ((a3 == 0)), (0), q_i, q_i, H', ⟨Nat.le_refl _⟩, ⟨q_r (HO297.out)⟩, ⟨bq⟩⟩
 case round =>
  clear H'
  (try clear c1); (try clear p2)
  obtain ⟨x9_1, x10_1, x11_1, rfl, rfl, HA, HK1, HO_9, HB⟩ := hrel
  cases gk with
  | zero => exact absurd HA.out (by simp [spec_l2Set.l0])
  | succ k1 =>
   have H := HA.out
   clear HA
   simp only [spec_l2Set.l0] at H
   by_cases c7 : x11_1 < (l0.length : Int)
   ·rw [if_pos c7] at H
    have c7b0 := decide_eq_true c7
    clear c7
    by_cases c8 : 0 ≤ x11_1
    ·rw [if_pos c8] at H
     have c8b0 := decide_eq_true c8
     clear c8
     have HC9 := Aside0.mk H
     clear H
     have p301 : 0 ≤ (x11_1 : Int) := q_d
     have q301 : x11_1 < (l0.length : Int) := q_d
     obtain ⟨ad301, e301, hx301_0, hx301_1, hx301_2⟩ := at_T104 HR0.out x11_1 p301 q301
     cases e301
     replace hx301_0 := q_x HB.out hx301_0
     replace hx301_1 := q_x HB.out hx301_1
     replace hx301_2 := q_x HB.out hx301_2
     replace p301 := eq_true p301
     replace q301 := eq_true q301
     go_upto_region 7 with (first | ((with_reducible refine gate_dst (N := 12) rfl ?_); refine q_box (N := 12) (cs := #[.int .i64 0, .int .i64 0, .int .i64 0]) (t := 104) ?_; intro gb302 hg w10 hbox hb; have n0_ := Aside0.mk (Kd.R_below (Kd.R_elderB (q_r (HO_9.out)) gb302 (Nat.le_of_eq hg.symm)) hb); have n1_ := Aside0.mk (below_step bq hb); have n2_ := Aside0.mk (hbox); have n3_ := Aside0.mk ((q_g hg bq : w.heap.size ≤ gb302)); have n4_ := Aside0.mk ((q_g hg bq : w.heap.size ≤ gb302)); revert n0_ n1_ n2_ n3_ n4_; clear HO_9 HB; intro HO_9 HB BK302 GW302 GE302; clear hb hbox hg; obtain ⟨hcz11_0, hcz11_1, hcz11_2, hfz11_0, hfz11_1, hfz11_2⟩ := q_3 BK302.out))
     (try simp only [Act.put, List.setIfInBounds_toArray, List.set_cons_zero, List.set_cons_succ])
     go_cut [35] (fun v35 wc => ∃ (kq : Nat) (x35_8 : Bool), v35 = .bool x35_8 ∧ Aside0 (spec_l2Set.j1 kq l0 a1 a2 a3 x9_1 x10_1 x11_1 x35_8 ((rd_T104 l0 x11_1).f0) ((rd_T104 l0 x11_1).f1) ((rd_T104 l0 x11_1).f2) = some r) ∧ Aside0 (kq ≤ k1) ∧ Aside0 (Kd.R k104 104 wc w.heap.size (fun k_ => k_ ≠ gb302) u9 x9_1) ∧ Aside0 (wc.heap[gb302]? = some (.cells #[.int .i64 ((rd_T104 l0 x11_1).f0), .int .i64 ((rd_T104 l0 x11_1).f1), .int .i64 ((rd_T104 l0 x11_1).f2)] 104 (0, 0))) ∧ Aside0 (Below w.heap.size w wc))
     case first =>
      have H := HC9.out
      clear HC9
      by_cases c12 : ((rd_T104 l0 x11_1).f0) = a1
      ·rw [if_pos c12] at H
       have c12b0 : (((rd_T104 l0 x11_1).f0) == a1) = true := beq_iff_eq.mpr c12
       have c12b1 : (((rd_T104 l0 x11_1).f0) != a1) = false := bne_eq_false_iff_eq.mpr c12
       clear c12
       (first | rw [c12b0] | (simp only [i64_w, i32_w]; rw [c12b0]) | skip)
       have H' := Aside0.mk H
       clear H
       obtain ⟨hcz13_0, hcz13_1, hcz13_2, hfz13_0, hfz13_1, hfz13_2⟩ := q_3 BK302.out
       go_wp2
       go_meet
       case rel => exact ⟨_, ((((rd_T104 l0 x11_1).f1) == a2)), q_i, H', ⟨by have := HK1.out; first | omega | exact Nat.le_refl _⟩, ⟨by (with_reducible repeat (first | apply Kd.R_alloc | apply Kd.R_drewN | apply Kd.R_drew)); exact Kd.R_mono (Kd.R_far (p := ⟨gb302, 2, none⟩) (Kd.R_far (p := ⟨gb302, 1, none⟩) (Kd.R_far (p := ⟨gb302, 0, none⟩) (Kd.R_mono HO_9.out (fun k_ hk => (⟨hk, hk.2⟩ : _ ∧ k_ ≠ gb302))) (fun _ hk => hk.2) (.int .i64 ((rd_T104 l0 x11_1).f0))) (fun _ hk => hk.2) (.int .i64 ((rd_T104 l0 x11_1).f1))) (fun _ hk => hk.2) (.int .i64 ((rd_T104 l0 x11_1).f2))) (fun _ hk => hk.1.2)⟩, ⟨by (with_reducible repeat (first | refine blk_drewN ?_ _ | refine blk_drew ?_ | refine blk_alloc ?_ _)); refine blk_put (cs := #[.int .i64 ((rd_T104 l0 x11_1).f0), .int .i64 ((rd_T104 l0 x11_1).f1), .int .i64 0]) ?_ 2 _ rfl; (with_reducible repeat (first | refine blk_drewN ?_ _ | refine blk_drew ?_ | refine blk_alloc ?_ _)); refine blk_put (cs := #[.int .i64 ((rd_T104 l0 x11_1).f0), .int .i64 0, .int .i64 0]) ?_ 1 _ rfl; (with_reducible repeat (first | refine blk_drewN ?_ _ | refine blk_drew ?_ | refine blk_alloc ?_ _)); refine blk_put (cs := #[.int .i64 0, .int .i64 0, .int .i64 0]) ?_ 0 _ rfl; (with_reducible repeat (first | refine blk_drewN ?_ _ | refine blk_drew ?_ | refine blk_alloc ?_ _)); exact BK302.out⟩, ⟨bq⟩⟩
      ·rw [if_neg c12] at H
       have c12b0 : (((rd_T104 l0 x11_1).f0) == a1) = false := beq_eq_false_iff_ne.mpr c12
       have c12b1 : (((rd_T104 l0 x11_1).f0) != a1) = true := bne_iff_ne.mpr c12
       (first | rw [c12b0] | (simp only [i64_w, i32_w]; rw [c12b0]) | skip)
       have H' := Aside0.mk H
       clear H
       obtain ⟨hcz14_0, hcz14_1, hcz14_2, hfz14_0, hfz14_1, hfz14_2⟩ := q_3 BK302.out
       go_wp2
       go_meet
       case rel => exact ⟨_, (false), q_i, H', ⟨by have := HK1.out; first | omega | exact Nat.le_refl _⟩, ⟨by (with_reducible repeat (first | apply Kd.R_alloc | apply Kd.R_drewN | apply Kd.R_drew)); exact Kd.R_mono (Kd.R_far (p := ⟨gb302, 2, none⟩) (Kd.R_far (p := ⟨gb302, 1, none⟩) (Kd.R_far (p := ⟨gb302, 0, none⟩) (Kd.R_mono HO_9.out (fun k_ hk => (⟨hk, hk.2⟩ : _ ∧ k_ ≠ gb302))) (fun _ hk => hk.2) (.int .i64 ((rd_T104 l0 x11_1).f0))) (fun _ hk => hk.2) (.int .i64 ((rd_T104 l0 x11_1).f1))) (fun _ hk => hk.2) (.int .i64 ((rd_T104 l0 x11_1).f2))) (fun _ hk => hk.1.2)⟩, ⟨by (with_reducible repeat (first | refine blk_drewN ?_ _ | refine blk_drew ?_ | refine blk_alloc ?_ _)); refine blk_put (cs := #[.int .i64 ((rd_T104 l0 x11_1).f0), .int .i64 ((rd_T104 l0 x11_1).f1), .int .i64 0]) ?_ 2 _ rfl; (with_reducible repeat (first | refine blk_drewN ?_ _ | refine blk_drew ?_ | refine blk_alloc ?_ _)); refine blk_put (cs := #[.int .i64 ((rd_T104 l0 x11_1).f0), .int .i64 0, .int .i64 0]) ?_ 1 _ rfl; (with_reducible repeat (first | refine blk_drewN ?_ _ | refine blk_drew ?_ | refine blk_alloc ?_ _)); refine blk_put (cs := #[.int .i64 0, .int .i64 0, .int .i64 0]) ?_ 0 _ rfl; (with_reducible repeat (first | refine blk_drewN ?_ _ | refine blk_drew ?_ | refine blk_alloc ?_ _)); exact BK302.out⟩, ⟨bq⟩⟩
     case rest =>
      clear HC9
      (try clear c1); (try clear p2); (try clear p3); (try clear q3); (try clear hx3); (try clear c7); (try clear c7b0); (try clear c8); (try clear c8b0); (try clear c11); (try clear c12); (try clear c12b0)
      (try clear c12b1); (try clear hcz11_0); (try clear hcz11_1); (try clear hcz11_2); (try clear hcz13_0); (try clear hcz13_1); (try clear hcz13_2); (try clear hcz14_0); (try clear hcz14_1); (try clear hcz14_2)
      (try clear hfz11_0); (try clear hfz11_1); (try clear hfz11_2); (try clear hfz13_0); (try clear hfz13_1); (try clear hfz13_2); (try clear hfz14_0); (try clear hfz14_1); (try clear hfz14_2); (try clear hx301_0)
      (try clear hx301_1); (try clear hx301_2); (try clear p2); (try clear p301); (try clear q301)
      obtain ⟨kq, x35_8, rfl, HA, HJ8, HO_9, BK302, HB⟩ := hcut
      cases kq with
      | zero => exact absurd HA.out (by simp [spec_l2Set.j1])
      | succ kj8 =>
       have H := HA.out
       clear HA
       simp only [spec_l2Set.j1] at H
       by_cases c15 : x35_8 = true
       ·subst c15
        have H1 : (spec_l2Set.l0 kj8 l0 a1 a2 a3 x9_1 x10_1 (wrap64 (x11_1 + 1))) = some r := by rw [if_pos rfl] at H; exact H
        clear H
        have H := H1
        clear H1
        have H' := Aside0.mk H
        clear H
        go_wp2
        go_roundg kj8
        case measure => have := HK1.out; have := HJ8.out; omega
        case rel => exact ⟨(x9_1), (x10_1), (wrap64 (x11_1 + 1)), q_i, q_i, H', ⟨by have := HK1.out; have := HJ8.out; omega⟩, ⟨q_r (Kd.R_mono HO_9.out (fun _ hk => trivial))⟩, ⟨bq⟩⟩
       ·replace c15 := Bool.eq_false_iff.mpr c15
        subst c15
        have H1 : (if x10_1 = true then (if x9_1.length < 5864062014805 then (spec_l2Set.l0 kj8 l0 a1 a2 a3 (x9_1 ++ [(⟨((rd_T104 l0 x11_1).f0), ((rd_T104 l0 x11_1).f1), ((rd_T104 l0 x11_1).f2)⟩ : S104)]) x10_1 (wrap64 (x11_1 + 1))) else (none)) else (if (wrap64 ((wrap64 (((rd_T104 l0 x11_1).f0) * 3)) + ((rd_T104 l0 x11_1).f1))) > (wrap64 ((wrap64 (a1 * 3)) + a2)) then (if x9_1.length < 5864062014805 then ((some (x9_1 ++ [(⟨a1, a2, a3⟩ : S104)] : List (S104))).bind fun y306 => (if y306.length < 5864062014805 then (spec_l2Set.l0 kj8 l0 a1 a2 a3 (y306 ++ [(⟨((rd_T104 l0 x11_1).f0), ((rd_T104 l0 x11_1).f1), ((rd_T104 l0 x11_1).f2)⟩ : S104)]) true (wrap64 (x11_1 + 1))) else (none))) else (none)) else (if x9_1.length < 5864062014805 then (spec_l2Set.l0 kj8 l0 a1 a2 a3 (x9_1 ++ [(⟨((rd_T104 l0 x11_1).f0), ((rd_T104 l0 x11_1).f1), ((rd_T104 l0 x11_1).f2)⟩ : S104)]) x10_1 (wrap64 (x11_1 + 1))) else (none)))) = some r := by rw [if_neg (show ¬ (false = true) by decide)] at H; exact H
        clear H
        have H := H1
        clear H1
        by_cases c16 : x10_1 = true
        ·subst c16
         have H1 : (if x9_1.length < 5864062014805 then (spec_l2Set.l0 kj8 l0 a1 a2 a3 (x9_1 ++ [(⟨((rd_T104 l0 x11_1).f0), ((rd_T104 l0 x11_1).f1), ((rd_T104 l0 x11_1).f2)⟩ : S104)]) true (wrap64 (x11_1 + 1))) else (none)) = some r := by rw [if_pos rfl] at H; exact H
         clear H
         have H := H1
         clear H1
         by_cases c17 : x9_1.length < 5864062014805
         ·rw [if_pos c17] at H
          have LMc17 := Aside0.mk c17
          clear c17
          obtain ⟨y303, hy303⟩ : ∃ y_ : List (S104), y_ = (x9_1 ++ [(⟨((rd_T104 l0 x11_1).f0), ((rd_T104 l0 x11_1).f1), ((rd_T104 l0 x11_1).f2)⟩ : S104)]) := ⟨_, rfl⟩
          replace H : (spec_l2Set.l0 kj8 l0 a1 a2 a3 y303 true (wrap64 (x11_1 + 1))) = some r := q_h hy303 H
          have Ny303 := Aside0.mk hy303
          clear hy303
          have H' := Aside0.mk H
          clear H
          obtain ⟨hcz18_0, hcz18_1, hcz18_2, hfz18_0, hfz18_1, hfz18_2⟩ := q_3 BK302.out
          go_wp2_with (first | ((with_reducible refine gate_builtin (b := .append) (xs := #[.tmp 58, .tmp 60]) rfl ?_); at_builtin; refine Kd.R_append k104 (w0 := w) w.heap.size rfl (.tmp 58) (.tmp 60) 64 104 (.agg #[(.int .i64 0), (.int .i64 0), (.int .i64 0)]) 24 rfl Try.underlying64 info104 rfl (by decide) (by omega) u9 x9_1 (⟨((rd_T104 l0 x11_1).f0), ((rd_T104 l0 x11_1).f1), ((rd_T104 l0 x11_1).f2)⟩ : S104) [.int .i64 ((rd_T104 l0 x11_1).f0), .int .i64 ((rd_T104 l0 x11_1).f1), .int .i64 ((rd_T104 l0 x11_1).f2)] (fun k_ => k_ ≠ gb302) (fun _ => False) rfl rfl ?aP (fun _ hk => hk.elim) ?aF ?aO ?aB ?aS ?aL ?_; (case aP => exact k104_mkM _ _ _ (⟨((rd_T104 l0 x11_1).f0), ((rd_T104 l0 x11_1).f1), ((rd_T104 l0 x11_1).f2)⟩ : S104)); (case aB => exact bq); (case aF => exact (fun k_ hk => Kd.freshB (q_b BK302.out) k_ hk)); (case aO => exact (q_r (HO_9.out))); (case aS => exact (below_size bq)); (case aL => have := LMc17.out; omega); intro v304 w19 ho hb hg hat; rw [← Ny303.out] at ho; have n0_ := Aside0.mk (blk_grown (q_b BK302.out) hg (Kd.R_away HO_9.out (fun _ hk => hk))); have n1_ := Aside0.mk (hb); have n2_ := Aside0.mk (ho); revert n0_ n1_ n2_; clear BK302 HB HO_9; intro BK302 HB HO305; clear ho hb hg hat))
          go_roundg kj8
          case measure => have := HK1.out; have := HJ8.out; omega
          case rel => exact ⟨(y303), (true), (wrap64 (x11_1 + 1)), q_i, q_i, H', ⟨by have := HK1.out; have := HJ8.out; omega⟩, ⟨q_r (Kd.R_mono HO305.out (fun _ hk => trivial))⟩, ⟨bq⟩⟩
         ·rw [if_neg c17] at H
          exact absurd H (by simp)
        ·replace c16 := Bool.eq_false_iff.mpr c16
         subst c16
         have H1 : (if (wrap64 ((wrap64 (((rd_T104 l0 x11_1).f0) * 3)) + ((rd_T104 l0 x11_1).f1))) > (wrap64 ((wrap64 (a1 * 3)) + a2)) then (if x9_1.length < 5864062014805 then ((some (x9_1 ++ [(⟨a1, a2, a3⟩ : S104)] : List (S104))).bind fun y306 => (if y306.length < 5864062014805 then (spec_l2Set.l0 kj8 l0 a1 a2 a3 (y306 ++ [(⟨((rd_T104 l0 x11_1).f0), ((rd_T104 l0 x11_1).f1), ((rd_T104 l0 x11_1).f2)⟩ : S104)]) true (wrap64 (x11_1 + 1))) else (none))) else (none)) else (if x9_1.length < 5864062014805 then (spec_l2Set.l0 kj8 l0 a1 a2 a3 (x9_1 ++ [(⟨((rd_T104 l0 x11_1).f0), ((rd_T104 l0 x11_1).f1), ((rd_T104 l0 x11_1).f2)⟩ : S104)]) false (wrap64 (x11_1 + 1))) else (none))) = some r := by rw [if_neg (show ¬ (false = true) by decide)] at H; exact H
         clear H
         have H := H1
         clear H1
         by_cases c20 : (wrap64 ((wrap64 (((rd_T104 l0 x11_1).f0) * 3)) + ((rd_T104 l0 x11_1).f1))) > (wrap64 ((wrap64 (a1 * 3)) + a2))
         ·rw [if_pos c20] at H
          have c20b0 := decide_eq_true c20
          clear c20
          by_cases c21 : x9_1.length < 5864062014805
          ·rw [if_pos c21] at H
           have LMc21 := Aside0.mk c21
           clear c21
           obtain ⟨y306, hy306⟩ : ∃ y_ : List (S104), y_ = (x9_1 ++ [(⟨a1, a2, a3⟩ : S104)]) := ⟨_, rfl⟩
           replace H : (if y306.length < 5864062014805 then (spec_l2Set.l0 kj8 l0 a1 a2 a3 (y306 ++ [(⟨((rd_T104 l0 x11_1).f0), ((rd_T104 l0 x11_1).f1), ((rd_T104 l0 x11_1).f2)⟩ : S104)]) true (wrap64 (x11_1 + 1))) else (none)) = some r := q_h hy306 H
           have Ny306 := Aside0.mk hy306
           clear hy306
           by_cases c22 : y306.length < 5864062014805
           ·rw [if_pos c22] at H
            have LMc22 := Aside0.mk c22
            clear c22
            obtain ⟨y309, hy309⟩ : ∃ y_ : List (S104), y_ = (y306 ++ [(⟨((rd_T104 l0 x11_1).f0), ((rd_T104 l0 x11_1).f1), ((rd_T104 l0 x11_1).f2)⟩ : S104)]) := ⟨_, rfl⟩
            replace H : (spec_l2Set.l0 kj8 l0 a1 a2 a3 y309 true (wrap64 (x11_1 + 1))) = some r := q_h hy309 H
            have Ny309 := Aside0.mk hy309
            clear hy309
            have H' := Aside0.mk H
            clear H
            obtain ⟨hcz23_0, hcz23_1, hcz23_2, hfz23_0, hfz23_1, hfz23_2⟩ := q_3 BK302.out
            go_wp2_with (first | ((with_reducible refine gate_builtin (b := .append) (xs := #[.tmp 51, .tmp 56]) rfl ?_); at_builtin; refine Kd.R_append k104 (w0 := w) w.heap.size rfl (.tmp 51) (.tmp 56) 64 104 (.agg #[(.int .i64 0), (.int .i64 0), (.int .i64 0)]) 24 rfl Try.underlying64 info104 rfl (by decide) (by omega) u9 x9_1 (⟨a1, a2, a3⟩ : S104) [.int .i64 a1, .int .i64 a2, .int .i64 a3] (fun k_ => k_ ≠ gb302) (fun _ => False) rfl rfl ?aP (fun _ hk => hk.elim) ?aF ?aO ?aB ?aS ?aL ?_; (case aP => exact k104_mkM _ _ _ (⟨a1, a2, a3⟩ : S104)); (case aB => exact bq); (case aF => exact (fun k_ hk => Kd.freshB (q_b BK302.out) k_ hk)); (case aO => exact (q_r (HO_9.out))); (case aS => exact (below_size bq)); (case aL => have := LMc21.out; omega); intro v307 w24 ho hb hg hat; rw [← Ny306.out] at ho; have n0_ := Aside0.mk (blk_grown (q_b BK302.out) hg (Kd.R_away HO_9.out (fun _ hk => hk))); have n1_ := Aside0.mk (hb); have n2_ := Aside0.mk (ho); revert n0_ n1_ n2_; clear BK302 HB HO_9; intro BK302 HB HO308; clear ho hb hg hat; obtain ⟨hcz25_0, hcz25_1, hcz25_2, hfz25_0, hfz25_1, hfz25_2⟩ := q_3 BK302.out) | ((with_reducible refine gate_builtin (b := .append) (xs := #[.tmp 58, .tmp 60]) rfl ?_); at_builtin; refine Kd.R_append k104 (w0 := w) w.heap.size rfl (.tmp 58) (.tmp 60) 64 104 (.agg #[(.int .i64 0), (.int .i64 0), (.int .i64 0)]) 24 rfl Try.underlying64 info104 rfl (by decide) (by omega) v307 y306 (⟨((rd_T104 l0 x11_1).f0), ((rd_T104 l0 x11_1).f1), ((rd_T104 l0 x11_1).f2)⟩ : S104) [.int .i64 ((rd_T104 l0 x11_1).f0), .int .i64 ((rd_T104 l0 x11_1).f1), .int .i64 ((rd_T104 l0 x11_1).f2)] (fun k_ => k_ ≠ gb302) (fun _ => False) rfl rfl ?aP (fun _ hk => hk.elim) ?aF ?aO ?aB ?aS ?aL ?_; (case aP => exact k104_mkM _ _ _ (⟨((rd_T104 l0 x11_1).f0), ((rd_T104 l0 x11_1).f1), ((rd_T104 l0 x11_1).f2)⟩ : S104)); (case aB => exact bq); (case aF => exact (fun k_ hk => Kd.freshB (q_b BK302.out) k_ hk)); (case aO => exact (q_r (HO308.out))); (case aS => exact (below_size bq)); (case aL => have := LMc22.out; omega); intro v310 w26 ho hb hg hat; rw [← Ny309.out] at ho; have n0_ := Aside0.mk (blk_grown (q_b BK302.out) hg (Kd.R_away HO308.out (fun _ hk => hk))); have n1_ := Aside0.mk (hb); have n2_ := Aside0.mk (ho); revert n0_ n1_ n2_; clear BK302 HB HO308; intro BK302 HB HO311; clear ho hb hg hat))
            go_roundg kj8
            case measure => have := HK1.out; have := HJ8.out; omega
            case rel => exact ⟨(y309), (true), (wrap64 (x11_1 + 1)), q_i, q_i, H', ⟨by have := HK1.out; have := HJ8.out; omega⟩, ⟨q_r (Kd.R_mono HO311.out (fun _ hk => trivial))⟩, ⟨bq⟩⟩
           ·rw [if_neg c22] at H
            exact absurd H (by simp)
          ·rw [if_neg c21] at H
           exact absurd H (by simp)
         ·rw [if_neg c20] at H
          have c20b0 := decide_eq_false c20
          clear c20
          by_cases c27 : x9_1.length < 5864062014805
          ·rw [if_pos c27] at H
           have LMc27 := Aside0.mk c27
           clear c27
           obtain ⟨y312, hy312⟩ : ∃ y_ : List (S104), y_ = (x9_1 ++ [(⟨((rd_T104 l0 x11_1).f0), ((rd_T104 l0 x11_1).f1), ((rd_T104 l0 x11_1).f2)⟩ : S104)]) := ⟨_, rfl⟩
           replace H : (spec_l2Set.l0 kj8 l0 a1 a2 a3 y312 false (wrap64 (x11_1 + 1))) = some r := q_h hy312 H
           have Ny312 := Aside0.mk hy312
           clear hy312
           have H' := Aside0.mk H
           clear H
           obtain ⟨hcz28_0, hcz28_1, hcz28_2, hfz28_0, hfz28_1, hfz28_2⟩ := q_3 BK302.out
           go_wp2_with (first | ((with_reducible refine gate_builtin (b := .append) (xs := #[.tmp 58, .tmp 60]) rfl ?_); at_builtin; refine Kd.R_append k104 (w0 := w) w.heap.size rfl (.tmp 58) (.tmp 60) 64 104 (.agg #[(.int .i64 0), (.int .i64 0), (.int .i64 0)]) 24 rfl Try.underlying64 info104 rfl (by decide) (by omega) u9 x9_1 (⟨((rd_T104 l0 x11_1).f0), ((rd_T104 l0 x11_1).f1), ((rd_T104 l0 x11_1).f2)⟩ : S104) [.int .i64 ((rd_T104 l0 x11_1).f0), .int .i64 ((rd_T104 l0 x11_1).f1), .int .i64 ((rd_T104 l0 x11_1).f2)] (fun k_ => k_ ≠ gb302) (fun _ => False) rfl rfl ?aP (fun _ hk => hk.elim) ?aF ?aO ?aB ?aS ?aL ?_; (case aP => exact k104_mkM _ _ _ (⟨((rd_T104 l0 x11_1).f0), ((rd_T104 l0 x11_1).f1), ((rd_T104 l0 x11_1).f2)⟩ : S104)); (case aB => exact bq); (case aF => exact (fun k_ hk => Kd.freshB (q_b BK302.out) k_ hk)); (case aO => exact (q_r (HO_9.out))); (case aS => exact (below_size bq)); (case aL => have := LMc27.out; omega); intro v313 w29 ho hb hg hat; rw [← Ny312.out] at ho; have n0_ := Aside0.mk (blk_grown (q_b BK302.out) hg (Kd.R_away HO_9.out (fun _ hk => hk))); have n1_ := Aside0.mk (hb); have n2_ := Aside0.mk (ho); revert n0_ n1_ n2_; clear BK302 HB HO_9; intro BK302 HB HO314; clear ho hb hg hat))
           go_roundg kj8
           case measure => have := HK1.out; have := HJ8.out; omega
           case rel => exact ⟨(y312), (false), (wrap64 (x11_1 + 1)), q_i, q_i, H', ⟨by have := HK1.out; have := HJ8.out; omega⟩, ⟨q_r (Kd.R_mono HO314.out (fun _ hk => trivial))⟩, ⟨bq⟩⟩
          ·rw [if_neg c27] at H
           exact absurd H (by simp)
    ·rw [if_neg c8] at H
     exact absurd H (by simp)
   ·rw [if_neg c7] at H
    have c7b0 := decide_eq_false c7
    clear c7
    by_cases c30 : x10_1 = true
    ·subst c30
     have H1 : (some x9_1) = some r := by rw [if_pos rfl] at H; exact H
     clear H
     have H := H1
     clear H1
     obtain rfl := Option.some.inj H
     go_wp2
     go_ret
     exact ⟨_, q_e, q_r (HO_9.out), bq⟩
    ·replace c30 := Bool.eq_false_iff.mpr c30
     subst c30
     have H1 : (if x9_1.length < 5864062014805 then (some (x9_1 ++ [(⟨a1, a2, a3⟩ : S104)])) else (none)) = some r := by rw [if_neg (show ¬ (false = true) by decide)] at H; exact H
     clear H
     have H := H1
     clear H1
     by_cases c31 : x9_1.length < 5864062014805
     ·rw [if_pos c31] at H
      have LMc31 := Aside0.mk c31
      clear c31
      obtain ⟨y298, hy298⟩ : ∃ y_ : List (S104), y_ = (x9_1 ++ [(⟨a1, a2, a3⟩ : S104)]) := ⟨_, rfl⟩
      replace H : (some y298) = some r := q_h hy298 H
      have Ny298 := Aside0.mk hy298
      clear hy298
      obtain rfl := Option.some.inj H
      go_wp2_with (first | ((with_reducible refine gate_builtin (b := .append) (xs := #[.tmp 64, .tmp 69]) rfl ?_); at_builtin; refine Kd.R_append k104 (w0 := w) w.heap.size rfl (.tmp 64) (.tmp 69) 64 104 (.agg #[(.int .i64 0), (.int .i64 0), (.int .i64 0)]) 24 rfl Try.underlying64 info104 rfl (by decide) (by omega) u9 x9_1 (⟨a1, a2, a3⟩ : S104) [.int .i64 a1, .int .i64 a2, .int .i64 a3] (fun _ => True) (fun _ => False) rfl rfl ?aP (fun _ hk => hk.elim) ?aF ?aO ?aB ?aS ?aL ?_; (case aP => exact k104_mkM _ _ _ (⟨a1, a2, a3⟩ : S104)); (case aB => exact bq); (case aF => exact (fun _ _ => trivial)); (case aO => exact (q_r (HO_9.out))); (case aS => exact (below_size bq)); (case aL => have := LMc31.out; omega); intro v299 w32 ho hb hg hat; rw [← Ny298.out] at ho; have n0_ := Aside0.mk (hb); have n1_ := Aside0.mk (ho); revert n0_ n1_; clear HB HO_9; intro HB HO300; clear ho hb hg hat))
      go_ret
      exact ⟨_, q_e, q_r (HO300.out), bq⟩
     ·rw [if_neg c31] at H
      exact absurd H (by simp)

/-! ### spec_l2Add: function 103 -/
def spec_l2Add.l0 : Nat → List (S86) → List (S104) → Int → Option ((List (S104)))
  | 0, _, _, _ => none
  | k + 1, x1, x5, x6 => if x6 < (x1.length : Int) then (if 0 ≤ x6 then ((spec_l2Has.f k x5 ((rd_T86 x1 x6).f1) ((rd_T86 x1 x6).f2)).bind fun t325 => ((spec_l2Set.f k x5 ((rd_T86 x1 x6).f1) ((rd_T86 x1 x6).f2) (wrap64 (t325 + ((rd_T86 x1 x6).f3)))).bind fun t327 => (spec_l2Add.l0 k x1 t327 (wrap64 (x6 + 1))))) else (none)) else (some x5)
def spec_l2Add.f (k : Nat) (l0 : List (S104)) (l1 : List (S86)) : Option ((List (S104))) := (some (([] : List (S104)) : List (S104))).bind fun y315 => (if y315.length + l0.length < 5864062014805 then (spec_l2Add.l0 k l1 (y315 ++ l0) 0) else (none))
def spec_l2Add.T5 : Bool × List (List Nat × List Nat) := (true, [([], []), ([], []), ([], []), ([1, 2], [1, 2]), ([3], [3]), ([4], [4]), ([], []), ([], []), ([6, 7], [6, 7]), ([8], [8]), ([9], [9]), ([], []), ([], []), ([], []), ([12, 13], [12, 13]), ([14], [14]), ([15], [15]), ([], []), ([], []), ([17, 18], [17, 18]), ([19], [19]), ([20], [20]), ([11, 16, 21], [11, 16, 21]), ([], []), ([], []), ([23, 24], [23, 24]), ([25], [25]), ([26], [26]), ([22, 27], [22, 27]), ([0, 5, 10, 28, 22], [0, 5, 10, 28]), ([29, 29, 0, 1, 2, 3, 4, 5, 6, 7, 8, 9, 10, 11, 12, 13, 14, 15, 16, 17, 18, 19, 20, 21, 22, 23, 24, 25, 26, 27, 28, 29], [0, 11, 29])])
def spec_l2Add.B5 : List Nat := [0, 0, 0, 6, 14, 30, 0, 0, 192, 448, 960, 0, 0, 0, 12288, 28672, 61440, 0, 0, 393216, 917504, 1966080, 4192256, 0, 0, 25165824, 58720256, 125829120, 268433408, 536870911, 1073741823]
theorem spec_l2Add.tab5 : rtab .any (opsOf Try.f103 5) = spec_l2Add.T5 := by kernel_rfl
theorem spec_l2Add.bits5 : waitsOk spec_l2Add.T5.2 spec_l2Add.B5 = true := by kernel_rfl
set_option maxHeartbeats 8000000 in
set_option maxRecDepth 100000 in
theorem spec_l2Add.calls (k : Nat) (A0 : Option Addr) (c0 : Nat) (l0 : List (S104)) (A1 : Option Addr) (c1 : Nat) (l1 : List (S86)) (r : List (S104)) (w : World) (hr0 : Kd.C k104 w A0 l0.length l0) (hc0 : l0.length ≤ c0) (hr1 : Kd.C k86 w A1 l1.length l1) (hc1 : l1.length ≤ c1) (h : spec_l2Add.f k l0 l1 = some r) :
  Calls Try.prog 103 #[.slice A0 l0.length c0, .slice A1 l1.length c1] w fun e w' => ∃ v0_ : Value, e = .returned (v0_) ∧ Kd.R k104 104 w' w.heap.size (fun _ => True) v0_ r ∧ Below w.heap.size w w' := by
 have HR0 := Aside0.mk hr0
 have HC0 := Aside0.mk hc0
 clear hr0 hc0
 have HR1 := Aside0.mk hr1
 have HC1 := Aside0.mk hc1
 clear hr1 hc1
 have HB := Aside0.mk (Below.refl w.heap.size w)
 have H : ((some (([] : List (S104)) : List (S104))).bind fun y315 => (if y315.length + l0.length < 5864062014805 then (spec_l2Add.l0 k l1 (y315 ++ l0) 0) else (none))) = some r := h
 clear h
 obtain ⟨y315, hy315⟩ : ∃ y_ : List (S104), y_ = (([] : List (S104))) := ⟨_, rfl⟩
 replace H : (if y315.length + l0.length < 5864062014805 then (spec_l2Add.l0 k l1 (y315 ++ l0) 0) else (none)) = some r := q_h hy315 H
 have Ny315 := Aside0.mk hy315
 clear hy315
 by_cases c3 : y315.length + l0.length < 5864062014805
 ·rw [if_pos c3] at H
  have LMc3 := Aside0.mk c3
  clear c3
  obtain ⟨y318, hy318⟩ : ∃ y_ : List (S104), y_ = (y315 ++ l0) := ⟨_, rfl⟩
  replace H : (spec_l2Add.l0 k l1 y318 0) = some r := q_h hy318 H
  have Ny318 := Aside0.mk hy318
  clear hy318
  have H' := Aside0.mk H
  clear H
  go_enter Try.func103, Try.ntmps103
  go_wp2_with (first | ((with_reducible refine gate_dst (N := 7) rfl ?_); refine Kd.R_lit k104 _ 104 ?hg (N := 7) ?hd (xs := ([] : List (S104))) (inner := []) (ok := fun _ => True) (okp := fun _ => True) ?hr ?hp (fun _ hk => hk) trivial (Below.refl _ _) (Nat.le_refl _) (by simp) ?_; (case hd => rfl); (case hg => rfl); (case hr => first | (go_simp; done) | (go_simp; rfl)); (case hp => exact (Reps.none _ _)); intro v316 w4 ho5 hb hg_ hnew_; clear hg_ hnew_; (first | rw [← Ny315.out] at ho5 | (simp only [Int.reduceToNat] at ho5; rw [← Ny315.out] at ho5)); have n0_ := Aside0.mk (Kd.R_lower ho5 (below_size bq)); have n1_ := Aside0.mk (below_step bq hb); revert n0_ n1_; clear HB; intro HO317 HB; clear hb ho5) | ((with_reducible refine gate_builtin (b := .append) (xs := #[.tmp 7, .tmp 8]) rfl ?_); at_builtin; refine Kd.R_append_rows k104 (w0 := w) w.heap.size rfl (.tmp 7) (.tmp 8) 64 104 (.agg #[(.int .i64 0), (.int .i64 0), (.int .i64 0)]) 24 rfl Try.underlying64 info104 rfl (by decide) (by omega) v316 y315 l0 _ _ _ (fun _ => True) (fun _ => False) rfl rfl ?aO ?aR (fun _ _ h => h) (fun _ h => h.elim) ?aF ?aB ?aS ?aL ?_; (case aR => repeat (first | exact (Kd.C_below HR0.out HB.out) | (with_reducible refine Kd.C_alloc ?_ _) | (with_reducible refine Kd.C_drewN ?_ _) | (with_reducible refine Kd.C_drew ?_))); (case aB => exact bq); (case aF => exact (fun _ _ => trivial)); (case aO => exact (q_r (HO317.out))); (case aS => exact (below_size bq)); (case aL => have := LMc3.out; omega); intro v319 w6 ho hb hg hat; rw [← Ny318.out] at ho; have n0_ := Aside0.mk (hb); have n1_ := Aside0.mk (ho); revert n0_ n1_; clear HB HO317; intro HB HO320; clear ho hb hg hat))
  go_loopg [5, 6] k (fun kq v5 v6 w' => ∃ (x5_1 : List (S104)) (x6_1 : Int), v6 = .int .i64 x6_1 ∧ Aside0 (spec_l2Add.l0 kq l1 x5_1 x6_1 = some r) ∧ Aside0 (kq ≤ k) ∧ Aside0 (Kd.R k104 104 w' w.heap.size (fun _ => True) v5 x5_1) ∧ Aside0 (Below w.heap.size w w'))
  case atStart => exact ⟨(y318), (0), q_i, H', ⟨Nat.le_refl _⟩, ⟨q_r (HO320.out)⟩, ⟨bq⟩⟩
  case round =>
   clear H'
   (try clear c1); (try clear p2); (try clear c3)
   obtain ⟨x5_1, x6_1, rfl, HA, HK1, HO_5, HB⟩ := hrel
   cases gk with
   | zero => exact absurd HA.out (by simp [spec_l2Add.l0])
   | succ k1 =>
    have H := HA.out
    clear HA
    simp only [spec_l2Add.l0] at H
    by_cases c7 : x6_1 < (l1.length : Int)
    ·rw [if_pos c7] at H
     have c7b0 := decide_eq_true c7
     clear c7
     by_cases c8 : 0 ≤ x6_1
     ·rw [if_pos c8] at H
      have c8b0 := decide_eq_true c8
      clear c8
      replace H := Option.bind_eq_some_iff.mp H
      obtain ⟨t325, A90, H⟩ := H
      replace H : ((spec_l2Set.f k1 x5_1 ((rd_T86 l1 x6_1).f1) ((rd_T86 l1 x6_1).f2) (wrap64 (t325 + ((rd_T86 l1 x6_1).f3)))).bind fun t327 => (spec_l2Add.l0 k1 l1 t327 (wrap64 (x6_1 + 1)))) = some r := H
      have A9 := Aside0.mk A90
      clear A90
      replace H := Option.bind_eq_some_iff.mp H
      obtain ⟨t327, A100, H⟩ := H
      replace H : (spec_l2Add.l0 k1 l1 t327 (wrap64 (x6_1 + 1))) = some r := H
      have A10 := Aside0.mk A100
      clear A100
      have H' := Aside0.mk H
      clear H
      try go_wp2
      have n0_ := Aside0.mk (Kd.R_drew HO_5.out)
      have n1_ := Aside0.mk (below_drew1 HB.out)
      clear HO_5
      clear HB
      have HO_5 := n0_
      have HB := n1_
      clear n0_ n1_
      have p321 : 0 ≤ (x6_1 : Int) := q_d
      have q321 : x6_1 < (l1.length : Int) := q_d
      obtain ⟨ad321, e321, hx321_0, hx321_1, hx321_2, hx321_3⟩ := at_T86 HR1.out x6_1 p321 q321
      have hw321_3 := hx321_3
      have hw321_2 := hx321_2
      have hw321_1 := hx321_1
      have hw321_0 := hx321_0
      cases e321
      replace hx321_0 := q_x HB.out hx321_0
      replace hx321_1 := q_x HB.out hx321_1
      replace hx321_2 := q_x HB.out hx321_2
      replace hx321_3 := q_x HB.out hx321_3
      replace p321 := eq_true p321
      replace q321 := eq_true q321
      have p322 : 0 ≤ (x6_1 : Int) := q_d
      have q322 : x6_1 < (l1.length : Int) := q_d
      obtain ⟨ad322, e322, hx322_0, hx322_1, hx322_2, hx322_3⟩ := at_T86 HR1.out x6_1 p322 q322
      have hw322_3 := hx322_3
      have hw322_2 := hx322_2
      have hw322_1 := hx322_1
      have hw322_0 := hx322_0
      obtain rfl : ad321 = ad322 := (by injection e322)
      replace hx322_0 := q_x HB.out hx322_0
      replace hx322_1 := q_x HB.out hx322_1
      replace hx322_2 := q_x HB.out hx322_2
      replace hx322_3 := q_x HB.out hx322_3
      replace p322 := eq_true p322
      replace q322 := eq_true q322
      have p323 : 0 ≤ (x6_1 : Int) := q_d
      have q323 : x6_1 < (l1.length : Int) := q_d
      obtain ⟨ad323, e323, hx323_0, hx323_1, hx323_2, hx323_3⟩ := at_T86 HR1.out x6_1 p323 q323
      have hw323_3 := hx323_3
      have hw323_2 := hx323_2
      have hw323_1 := hx323_1
      have hw323_0 := hx323_0
      obtain rfl : ad321 = ad323 := (by injection e323)
      replace hx323_0 := q_x HB.out hx323_0
      replace hx323_1 := q_x HB.out hx323_1
      replace hx323_2 := q_x HB.out hx323_2
      replace hx323_3 := q_x HB.out hx323_3
      replace p323 := eq_true p323
      replace q323 := eq_true q323
      have p324 : 0 ≤ (x6_1 : Int) := q_d
      have q324 : x6_1 < (l1.length : Int) := q_d
      obtain ⟨ad324, e324, hx324_0, hx324_1, hx324_2, hx324_3⟩ := at_T86 HR1.out x6_1 p324 q324
      have hw324_3 := hx324_3
      have hw324_2 := hx324_2
      have hw324_1 := hx324_1
      have hw324_0 := hx324_0
      obtain rfl : ad321 = ad324 := (by injection e324)
      replace hx324_0 := q_x HB.out hx324_0
      replace hx324_1 := q_x HB.out hx324_1
      replace hx324_2 := q_x HB.out hx324_2
      replace hx324_3 := q_x HB.out hx324_3
      replace p324 := eq_true p324
      replace q324 := eq_true q324
      have p326 : 0 ≤ (x6_1 : Int) := q_d
      have q326 : x6_1 < (l1.length : Int) := q_d
      obtain ⟨ad326, e326, hx326_0, hx326_1, hx326_2, hx326_3⟩ := at_T86 HR1.out x6_1 p326 q326
      have hw326_3 := hx326_3
      have hw326_2 := hx326_2
      have hw326_1 := hx326_1
      have hw326_0 := hx326_0
      obtain rfl : ad321 = ad326 := (by injection e326)
      replace hx326_0 := q_x HB.out hx326_0
      replace hx326_1 := q_x HB.out hx326_1
      replace hx326_2 := q_x HB.out hx326_2
      replace hx326_3 := q_x HB.out hx326_3
      replace p326 := eq_true p326
      replace q326 := eq_true q326
      obtain ⟨Ao12, co12, eo12⟩ := Kd.R_slice HO_5.out
      (first | subst eo12 | (injection eo12 with f1_ f2_ f3_; have f4_ := f1_.symm; have f5_ := f3_.symm; clear f1_ f2_ f3_; subst f4_; subst f5_))
      refine start_ (n := 31) (S := fun w' => w'.cell? (ad321.add ((x6_1).toNat * 4)) = some (.int .i64 ((rd_T86 l1 x6_1).f0)) ∧ w'.cell? ⟨(ad321.add ((x6_1).toNat * 4)).block, (ad321.add ((x6_1).toNat * 4)).off + 1, none⟩ = some (.int .i64 ((rd_T86 l1 x6_1).f1)) ∧ w'.cell? ⟨(ad321.add ((x6_1).toNat * 4)).block, (ad321.add ((x6_1).toNat * 4)).off + 2, none⟩ = some (.int .i64 ((rd_T86 l1 x6_1).f2)) ∧ w'.cell? ⟨(ad321.add ((x6_1).toNat * 4)).block, (ad321.add ((x6_1).toNat * 4)).off + 3, none⟩ = some (.int .i64 ((rd_T86 l1 x6_1).f3)) ∧ w'.cell? (ad321.add ((x6_1).toNat * 4)) = some (.int .i64 ((rd_T86 l1 x6_1).f0)) ∧ w'.cell? ⟨(ad321.add ((x6_1).toNat * 4)).block, (ad321.add ((x6_1).toNat * 4)).off + 1, none⟩ = some (.int .i64 ((rd_T86 l1 x6_1).f1)) ∧ w'.cell? ⟨(ad321.add ((x6_1).toNat * 4)).block, (ad321.add ((x6_1).toNat * 4)).off + 2, none⟩ = some (.int .i64 ((rd_T86 l1 x6_1).f2)) ∧ w'.cell? ⟨(ad321.add ((x6_1).toNat * 4)).block, (ad321.add ((x6_1).toNat * 4)).off + 3, none⟩ = some (.int .i64 ((rd_T86 l1 x6_1).f3)) ∧ w'.cell? (ad321.add ((x6_1).toNat * 4)) = some (.int .i64 ((rd_T86 l1 x6_1).f0)) ∧ w'.cell? ⟨(ad321.add ((x6_1).toNat * 4)).block, (ad321.add ((x6_1).toNat * 4)).off + 1, none⟩ = some (.int .i64 ((rd_T86 l1 x6_1).f1)) ∧ w'.cell? ⟨(ad321.add ((x6_1).toNat * 4)).block, (ad321.add ((x6_1).toNat * 4)).off + 2, none⟩ = some (.int .i64 ((rd_T86 l1 x6_1).f2)) ∧ w'.cell? ⟨(ad321.add ((x6_1).toNat * 4)).block, (ad321.add ((x6_1).toNat * 4)).off + 3, none⟩ = some (.int .i64 ((rd_T86 l1 x6_1).f3)) ∧ w'.cell? (ad321.add ((x6_1).toNat * 4)) = some (.int .i64 ((rd_T86 l1 x6_1).f0)) ∧ w'.cell? ⟨(ad321.add ((x6_1).toNat * 4)).block, (ad321.add ((x6_1).toNat * 4)).off + 1, none⟩ = some (.int .i64 ((rd_T86 l1 x6_1).f1)) ∧ w'.cell? ⟨(ad321.add ((x6_1).toNat * 4)).block, (ad321.add ((x6_1).toNat * 4)).off + 2, none⟩ = some (.int .i64 ((rd_T86 l1 x6_1).f2)) ∧ w'.cell? ⟨(ad321.add ((x6_1).toNat * 4)).block, (ad321.add ((x6_1).toNat * 4)).off + 3, none⟩ = some (.int .i64 ((rd_T86 l1 x6_1).f3)) ∧ w'.cell? (ad321.add ((x6_1).toNat * 4)) = some (.int .i64 ((rd_T86 l1 x6_1).f0)) ∧ w'.cell? ⟨(ad321.add ((x6_1).toNat * 4)).block, (ad321.add ((x6_1).toNat * 4)).off + 1, none⟩ = some (.int .i64 ((rd_T86 l1 x6_1).f1)) ∧ w'.cell? ⟨(ad321.add ((x6_1).toNat * 4)).block, (ad321.add ((x6_1).toNat * 4)).off + 2, none⟩ = some (.int .i64 ((rd_T86 l1 x6_1).f2)) ∧ w'.cell? ⟨(ad321.add ((x6_1).toNat * 4)).block, (ad321.add ((x6_1).toNat * 4)).off + 3, none⟩ = some (.int .i64 ((rd_T86 l1 x6_1).f3))) (ds := []) #[false, false, false, false, false, false, false, false, false, false, false, false, false, false, false, false, false, false, false, false, false, false, false, false, false, false, false, false, false, false, false] (by kernel_rfl) rfl rfl ⟨((HB.out.cell (World.block_lt_of_cell? w _ hw321_0)).trans hw321_0), ((HB.out.cell (World.block_lt_of_cell? w _ hw321_1)).trans hw321_1), ((HB.out.cell (World.block_lt_of_cell? w _ hw321_2)).trans hw321_2), ((HB.out.cell (World.block_lt_of_cell? w _ hw321_3)).trans hw321_3), ((HB.out.cell (World.block_lt_of_cell? w _ hw322_0)).trans hw322_0), ((HB.out.cell (World.block_lt_of_cell? w _ hw322_1)).trans hw322_1), ((HB.out.cell (World.block_lt_of_cell? w _ hw322_2)).trans hw322_2), ((HB.out.cell (World.block_lt_of_cell? w _ hw322_3)).trans hw322_3), ((HB.out.cell (World.block_lt_of_cell? w _ hw323_0)).trans hw323_0), ((HB.out.cell (World.block_lt_of_cell? w _ hw323_1)).trans hw323_1), ((HB.out.cell (World.block_lt_of_cell? w _ hw323_2)).trans hw323_2), ((HB.out.cell (World.block_lt_of_cell? w _ hw323_3)).trans hw323_3), ((HB.out.cell (World.block_lt_of_cell? w _ hw324_0)).trans hw324_0), ((HB.out.cell (World.block_lt_of_cell? w _ hw324_1)).trans hw324_1), ((HB.out.cell (World.block_lt_of_cell? w _ hw324_2)).trans hw324_2), ((HB.out.cell (World.block_lt_of_cell? w _ hw324_3)).trans hw324_3), ((HB.out.cell (World.block_lt_of_cell? w _ hw326_0)).trans hw326_0), ((HB.out.cell (World.block_lt_of_cell? w _ hw326_1)).trans hw326_1), ((HB.out.cell (World.block_lt_of_cell? w _ hw326_2)).trans hw326_2), ((HB.out.cell (World.block_lt_of_cell? w _ hw326_3)).trans hw326_3)⟩ (fun hHeld => ?_); refine with_tabW spec_l2Add.tab5 spec_l2Add.bits5 (fun HT_ HW_ => ?_)
      generalize wr.drew = w11 at HO_5 HB hx321_0 hx321_1 hx321_2 hx321_3 hx322_0 hx322_1 hx322_2 hx322_3 hx323_0 hx323_1 hx323_2 hx323_3 hx324_0 hx324_1 hx324_2 hx324_3 hx326_0 hx326_1 hx326_2 hx326_3 hHeld ⊢
      refine q_p 0 (some 16) #[true, false, false, false, false, false, false, false, false, false, false, false, false, false, false, false, false, false, false, false, false, false, false, false, false, false, false, false, false, false, false] HT_.out ?_
      refine q_p 1 (some 17) #[true, true, false, false, false, false, false, false, false, false, false, false, false, false, false, false, false, false, false, false, false, false, false, false, false, false, false, false, false, false, false] HT_.out ?_
      refine q_p 2 (some 18) #[true, true, true, false, false, false, false, false, false, false, false, false, false, false, false, false, false, false, false, false, false, false, false, false, false, false, false, false, false, false, false] HT_.out ?_
      refine q_p 3 (some 19) #[true, true, true, true, false, false, false, false, false, false, false, false, false, false, false, false, false, false, false, false, false, false, false, false, false, false, false, false, false, false, false] HT_.out ?_
      refine q_p 4 (some 20) #[true, true, true, true, true, false, false, false, false, false, false, false, false, false, false, false, false, false, false, false, false, false, false, false, false, false, false, false, false, false, false] HT_.out ?_
      refine q_p 6 (some 22) #[true, true, true, true, true, false, true, false, false, false, false, false, false, false, false, false, false, false, false, false, false, false, false, false, false, false, false, false, false, false, false] HT_.out ?_
      refine q_p 7 (some 23) #[true, true, true, true, true, false, true, true, false, false, false, false, false, false, false, false, false, false, false, false, false, false, false, false, false, false, false, false, false, false, false] HT_.out ?_
      refine q_p 8 (some 24) #[true, true, true, true, true, false, true, true, true, false, false, false, false, false, false, false, false, false, false, false, false, false, false, false, false, false, false, false, false, false, false] HT_.out ?_
      refine q_p 9 (some 25) #[true, true, true, true, true, false, true, true, true, true, false, false, false, false, false, false, false, false, false, false, false, false, false, false, false, false, false, false, false, false, false] HT_.out ?_
      refine q_p 11 (some 27) #[true, true, true, true, true, false, true, true, true, true, false, true, false, false, false, false, false, false, false, false, false, false, false, false, false, false, false, false, false, false, false] HT_.out ?_
      refine q_p 12 (some 28) #[true, true, true, true, true, false, true, true, true, true, false, true, true, false, false, false, false, false, false, false, false, false, false, false, false, false, false, false, false, false, false] HT_.out ?_
      refine q_p 13 (some 29) #[true, true, true, true, true, false, true, true, true, true, false, true, true, true, false, false, false, false, false, false, false, false, false, false, false, false, false, false, false, false, false] HT_.out ?_
      refine q_p 14 (some 30) #[true, true, true, true, true, false, true, true, true, true, false, true, true, true, true, false, false, false, false, false, false, false, false, false, false, false, false, false, false, false, false] HT_.out ?_
      refine q_p 15 (some 31) #[true, true, true, true, true, false, true, true, true, true, false, true, true, true, true, true, false, false, false, false, false, false, false, false, false, false, false, false, false, false, false] HT_.out ?_
      refine q_p 17 (some 33) #[true, true, true, true, true, false, true, true, true, true, false, true, true, true, true, true, false, true, false, false, false, false, false, false, false, false, false, false, false, false, false] HT_.out ?_
      refine q_p 18 (some 34) #[true, true, true, true, true, false, true, true, true, true, false, true, true, true, true, true, false, true, true, false, false, false, false, false, false, false, false, false, false, false, false] HT_.out ?_
      refine q_p 19 (some 35) #[true, true, true, true, true, false, true, true, true, true, false, true, true, true, true, true, false, true, true, true, false, false, false, false, false, false, false, false, false, false, false] HT_.out ?_
      refine q_p 20 (some 36) #[true, true, true, true, true, false, true, true, true, true, false, true, true, true, true, true, false, true, true, true, true, false, false, false, false, false, false, false, false, false, false] HT_.out ?_
      refine q_p 23 (some 39) #[true, true, true, true, true, false, true, true, true, true, false, true, true, true, true, true, false, true, true, true, true, false, false, true, false, false, false, false, false, false, false] HT_.out ?_
      refine q_p 24 (some 40) #[true, true, true, true, true, false, true, true, true, true, false, true, true, true, true, true, false, true, true, true, true, false, false, true, true, false, false, false, false, false, false] HT_.out ?_
      refine q_p 25 (some 41) #[true, true, true, true, true, false, true, true, true, true, false, true, true, true, true, true, false, true, true, true, true, false, false, true, true, true, false, false, false, false, false] HT_.out ?_
      refine q_p 26 (some 42) #[true, true, true, true, true, false, true, true, true, true, false, true, true, true, true, true, false, true, true, true, true, false, false, true, true, true, true, false, false, false, false] HT_.out ?_
      refine q_t 5 (some 21) #[true, true, true, true, true, true, true, true, true, true, false, true, true, true, true, true, false, true, true, true, true, false, false, true, true, true, true, false, false, false, false] HT_.out HW_.out hHeld ?_
      refine q_t 10 (some 26) #[true, true, true, true, true, true, true, true, true, true, true, true, true, true, true, true, false, true, true, true, true, false, false, true, true, true, true, false, false, false, false] HT_.out HW_.out hHeld ?_
      refine q_t 16 (some 32) #[true, true, true, true, true, true, true, true, true, true, true, true, true, true, true, true, true, true, true, true, true, false, false, true, true, true, true, false, false, false, false] HT_.out HW_.out hHeld ?_
      refine q_t 21 (some 37) #[true, true, true, true, true, true, true, true, true, true, true, true, true, true, true, true, true, true, true, true, true, true, false, true, true, true, true, false, false, false, false] HT_.out HW_.out hHeld ?_
      refine q_t 27 (some 43) #[true, true, true, true, true, true, true, true, true, true, true, true, true, true, true, true, true, true, true, true, true, true, false, true, true, true, true, true, false, false, false] HT_.out HW_.out hHeld ?_
      refine one_ (i := 22) (N := some 38) #[true, true, true, true, true, true, true, true, true, true, true, true, true, true, true, true, true, true, true, true, true, true, true, true, true, true, true, true, false, false, false] rfl rfl (one_of HT_.out (by kernel_rfl)) (by decide) (fun K hK => ?_)
      refine goes_ Try.func89 (by kernel_rfl) rfl #[.slice Ao12 x5_1.length co12, .int .i64 ((rd_T86 l1 x6_1).f1), .int .i64 ((rd_T86 l1 x6_1).f2)] (by rfl) rfl rfl (by (try simp only [List.map_toArray, List.map_cons, List.map_nil]); first | done | rfl | (simp only [List.length_drop, List.length_take]; rfl)) ?_
      with_reducible refine (spec_l2Has.calls k1 _ _ x5_1 ((rd_T86 l1 x6_1).f1) ((rd_T86 l1 x6_1).f2) t325 _ ?side1 ?side2 A9.out).mono ?_
      (case side1 => exact q_c ((Kd.R_reads' HO_5.out).2.2))
      (case side2 => exact (Kd.R_reads' HO_5.out).2.1)
      rintro e w' ⟨rfl, ⟨nd, rfl⟩⟩
      refine ⟨_, rfl, ?_⟩
      refine hK.out _ _ ⟨((HB.out.cell (World.block_lt_of_cell? w _ hw321_0)).trans hw321_0), ((HB.out.cell (World.block_lt_of_cell? w _ hw321_1)).trans hw321_1), ((HB.out.cell (World.block_lt_of_cell? w _ hw321_2)).trans hw321_2), ((HB.out.cell (World.block_lt_of_cell? w _ hw321_3)).trans hw321_3), ((HB.out.cell (World.block_lt_of_cell? w _ hw322_0)).trans hw322_0), ((HB.out.cell (World.block_lt_of_cell? w _ hw322_1)).trans hw322_1), ((HB.out.cell (World.block_lt_of_cell? w _ hw322_2)).trans hw322_2), ((HB.out.cell (World.block_lt_of_cell? w _ hw322_3)).trans hw322_3), ((HB.out.cell (World.block_lt_of_cell? w _ hw323_0)).trans hw323_0), ((HB.out.cell (World.block_lt_of_cell? w _ hw323_1)).trans hw323_1), ((HB.out.cell (World.block_lt_of_cell? w _ hw323_2)).trans hw323_2), ((HB.out.cell (World.block_lt_of_cell? w _ hw323_3)).trans hw323_3), ((HB.out.cell (World.block_lt_of_cell? w _ hw324_0)).trans hw324_0), ((HB.out.cell (World.block_lt_of_cell? w _ hw324_1)).trans hw324_1), ((HB.out.cell (World.block_lt_of_cell? w _ hw324_2)).trans hw324_2), ((HB.out.cell (World.block_lt_of_cell? w _ hw324_3)).trans hw324_3), ((HB.out.cell (World.block_lt_of_cell? w _ hw326_0)).trans hw326_0), ((HB.out.cell (World.block_lt_of_cell? w _ hw326_1)).trans hw326_1), ((HB.out.cell (World.block_lt_of_cell? w _ hw326_2)).trans hw326_2), ((HB.out.cell (World.block_lt_of_cell? w _ hw326_3)).trans hw326_3)⟩ (fun hHeld => ?_)
      clear hK K
      refine norm_ (a' := ?_) ?_ ?_
      rotate_left
      ·show Act.put _ (some 38) _ = _
       simp only [Act.put, List.setIfInBounds_toArray, List.set_cons_zero, List.set_cons_succ, i64_w, i32_w]
       rfl
      refine q_p 28 (some 44) #[true, true, true, true, true, true, true, true, true, true, true, true, true, true, true, true, true, true, true, true, true, true, true, true, true, true, true, true, true, false, false] HT_.out ?_
      refine one_ (i := 29) (N := some 45) #[true, true, true, true, true, true, true, true, true, true, true, true, true, true, true, true, true, true, true, true, true, true, true, true, true, true, true, true, true, true, false] rfl rfl (one_of HT_.out (by kernel_rfl)) (by decide) (fun K hK => ?_)
      refine goes_ Try.func114 (by kernel_rfl) rfl #[.slice Ao12 x5_1.length co12, .int .i64 ((rd_T86 l1 x6_1).f1), .int .i64 ((rd_T86 l1 x6_1).f2), .int .i64 (wrap64 (t325 + ((rd_T86 l1 x6_1).f3)))] (by rfl) rfl rfl (by (try simp only [List.map_toArray, List.map_cons, List.map_nil]); first | done | rfl | (simp only [List.length_drop, List.length_take]; rfl)) ?_
      with_reducible refine (spec_l2Set.calls k1 _ _ x5_1 ((rd_T86 l1 x6_1).f1) ((rd_T86 l1 x6_1).f2) (wrap64 (t325 + ((rd_T86 l1 x6_1).f3))) t327 _ ?side1 ?side2 A10.out).mono ?_
      (case side1 => exact q_c ((Kd.R_reads' HO_5.out).2.2))
      (case side2 => exact (Kd.R_reads' HO_5.out).2.1)
      rintro e w13 ⟨v328, rfl, ho0, hb⟩
      refine ⟨_, rfl, ?_⟩
      have n0_ := Aside0.mk (Kd.R_elder' (q_r (HO_5.out)) (Kd.R_base ho0) hb)
      have n1_ := Aside0.mk (Kd.R_lower (Kd.R_new' ho0 (Kd.R_lt (q_r (HO_5.out)))) (below_size bq))
      have n2_ := Aside0.mk (below_step bq hb)
      clear HO_5
      clear HB
      have HO_5 := n0_
      have HO329 := n1_
      have HB := n2_
      clear n0_ n1_ n2_
      (try clear hb)
      (try clear hb2)
      (try clear hk)
      (try clear hi)
      (try clear ho0)
      refine hK.out _ _ ⟨((HB.out.cell (World.block_lt_of_cell? w _ hw321_0)).trans hw321_0), ((HB.out.cell (World.block_lt_of_cell? w _ hw321_1)).trans hw321_1), ((HB.out.cell (World.block_lt_of_cell? w _ hw321_2)).trans hw321_2), ((HB.out.cell (World.block_lt_of_cell? w _ hw321_3)).trans hw321_3), ((HB.out.cell (World.block_lt_of_cell? w _ hw322_0)).trans hw322_0), ((HB.out.cell (World.block_lt_of_cell? w _ hw322_1)).trans hw322_1), ((HB.out.cell (World.block_lt_of_cell? w _ hw322_2)).trans hw322_2), ((HB.out.cell (World.block_lt_of_cell? w _ hw322_3)).trans hw322_3), ((HB.out.cell (World.block_lt_of_cell? w _ hw323_0)).trans hw323_0), ((HB.out.cell (World.block_lt_of_cell? w _ hw323_1)).trans hw323_1), ((HB.out.cell (World.block_lt_of_cell? w _ hw323_2)).trans hw323_2), ((HB.out.cell (World.block_lt_of_cell? w _ hw323_3)).trans hw323_3), ((HB.out.cell (World.block_lt_of_cell? w _ hw324_0)).trans hw324_0), ((HB.out.cell (World.block_lt_of_cell? w _ hw324_1)).trans hw324_1), ((HB.out.cell (World.block_lt_of_cell? w _ hw324_2)).trans hw324_2), ((HB.out.cell (World.block_lt_of_cell? w _ hw324_3)).trans hw324_3), ((HB.out.cell (World.block_lt_of_cell? w _ hw326_0)).trans hw326_0), ((HB.out.cell (World.block_lt_of_cell? w _ hw326_1)).trans hw326_1), ((HB.out.cell (World.block_lt_of_cell? w _ hw326_2)).trans hw326_2), ((HB.out.cell (World.block_lt_of_cell? w _ hw326_3)).trans hw326_3)⟩ (fun hHeld => ?_)
      clear hK K
      refine norm_ (a' := ?_) ?_ ?_
      rotate_left
      ·show Act.put _ (some 45) _ = _
       simp only [Act.put, List.setIfInBounds_toArray, List.set_cons_zero, List.set_cons_succ, i64_w, i32_w]
       rfl
      refine q_p 30 (some 5) #[true, true, true, true, true, true, true, true, true, true, true, true, true, true, true, true, true, true, true, true, true, true, true, true, true, true, true, true, true, true, true] HT_.out ?_
      refine done_ (done_of HT_.out (by kernel_rfl)) ?_
      try go_wp2
      go_roundg k1
      case measure => have := HK1.out; omega
      case rel => exact ⟨(t327), (wrap64 (x6_1 + 1)), q_i, H', ⟨by have := HK1.out; omega⟩, ⟨q_r (Kd.R_mono HO329.out (fun _ hk => trivial))⟩, ⟨bq⟩⟩
     ·rw [if_neg c8] at H
      exact absurd H (by simp)
    ·rw [if_neg c7] at H
     have c7b0 := decide_eq_false c7
     clear c7
     obtain rfl := Option.some.inj H
     go_wp2
     go_ret
     exact ⟨_, q_e, q_r (HO_5.out), bq⟩
 ·rw [if_neg c3] at H
  exact absurd H (by simp)

end Go.Proofs.Ytanegggacfmkcaa.PFnExactSettleOne
