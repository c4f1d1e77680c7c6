/- The functions that a law reaches, each as a plain Lean function with the proof that the machine comes to its answer: written by program (the kit's print, turned by wip/gen). No conditions. -/
import Derived.Test.YtanegggacfmkcaaPFnExactSettleOnex0
import Derived.Test.YtanegggacfmkcaaPFnExactSettleOnex10
namespace Go.Proofs.Ytanegggacfmkcaa.PFnExactSettleOne
open Go.RowKit Go.Proofs.YtanegggacfmkcaaW.PrintWords Go.Proofs.YtanegggacfmkcaaW.PrintLast Go.Proofs.YtanegggacfmkcaaW.PrintMore
attribute [local go_sem] max2_int min2_int max_two min_two max_three min_three max_four min_four   -- for this text's walks alone
set_option linter.unusedVariables false
set_option linter.unusedSimpArgs false

/-! ### spec_BalancesFault: function 34 -/
mutual
def spec_BalancesFault.l0 : Nat → List (S104) → Int → Option (Int)
  | 0, _, _ => none
  | k + 1, x0, x3 => if x3 < (x0.length : Int) then (if 0 ≤ x3 then ((spec_l2Key.f ((rd_T104 x0 x3).f0) ((rd_T104 x0 x3).f1)).bind fun t247 => (if t247 = true then ((spec_l1In.f ((rd_T104 x0 x3).f2) 1 1000000000000).bind fun t248 => (spec_BalancesFault.j1 k x0 x3 (!t248) ((rd_T104 x0 x3).f0) ((rd_T104 x0 x3).f1) ((rd_T104 x0 x3).f2))) else (spec_BalancesFault.j1 k x0 x3 true ((rd_T104 x0 x3).f0) ((rd_T104 x0 x3).f1) ((rd_T104 x0 x3).f2)))) else (none)) else (some 0)
def spec_BalancesFault.j1 : Nat → List (S104) → Int → Bool → Int → Int → Int → Option (Int)
  | 0, _, _, _, _, _, _ => none
  | k + 1, x0, x3, x29, x247000, x247001, x247002 => if x29 = true then (some 3) else (if x3 > 0 then (if 0 ≤ (wrap64 (x3 - 1)) then (if (wrap64 (x3 - 1)) < (x0.length : Int) then (if (wrap64 ((wrap64 (x247000 * 3)) + x247001)) ≤ (wrap64 ((wrap64 (((rd_T104 x0 (wrap64 (x3 - 1))).f0) * 3)) + ((rd_T104 x0 (wrap64 (x3 - 1))).f1))) then (some 1) else (spec_BalancesFault.l0 k x0 (wrap64 (x3 + 1)))) else (none)) else (none)) else (spec_BalancesFault.l0 k x0 (wrap64 (x3 + 1))))
end
def spec_BalancesFault.f (k : Nat) (l0 : List (S104)) : Option (Int) := if (l0.length : Int) > 18 then (some 2) else (spec_BalancesFault.l0 k l0 0)
set_option maxHeartbeats 8000000 in
set_option maxRecDepth 100000 in
theorem spec_BalancesFault.calls (k : Nat) (A0 : Option Addr) (c0 : Nat) (l0 : List (S104)) (r : Int) (w : World) (hr0 : Kd.C k104 w A0 l0.length l0) (hc0 : l0.length ≤ c0) (h : spec_BalancesFault.f k l0 = some r) :
  Calls Try.prog 34 #[.slice A0 l0.length c0] w fun e w' => e = .returned (.int .i64 r) ∧ Below w.heap.size w w' := by
 have hu104 := Try.underlying104
 have HR0 := Aside0.mk hr0
 have HC0 := Aside0.mk hc0
 clear hr0 hc0
 have HB := Aside0.mk (Below.refl w.heap.size w)
 have H : (if (l0.length : Int) > 18 then (some 2) else (spec_BalancesFault.l0 k l0 0)) = some r := h
 clear h
 by_cases c2 : (l0.length : Int) > 18
 ·rw [if_pos c2] at H
  have c2b0 := decide_eq_true c2
  have c2b1 : decide (18 < l0.length) = true := decide_eq_true (by omega)
  clear c2
  obtain rfl := Option.some.inj H
  go_enter Try.func34, Try.ntmps34
  go_wp2
  repeat (go_quiet (fail); try go_wp2)
  go_ret
  exact ⟨q_e, bq⟩
 ·rw [if_neg c2] at H
  have c2b0 := decide_eq_false c2
  have c2b1 : decide (18 < l0.length) = false := decide_eq_false (by omega)
  clear c2
  have H' := Aside0.mk H
  clear H
  go_enter Try.func34, Try.ntmps34
  go_wp2
  repeat (go_quiet (fail); try go_wp2)
  go_loopg [3] k (fun kq v3 w' => ∃ (x3_1 : Int), v3 = .int .i64 x3_1 ∧ Aside0 (spec_BalancesFault.l0 kq l0 x3_1 = some r) ∧ Aside0 (kq ≤ k) ∧ Aside0 (Below w.heap.size w w'))
  case atStart => exact ⟨(0), q_i, H', ⟨Nat.le_refl _⟩, ⟨bq⟩⟩
  case round =>
   clear H'
   (try clear c2); (try clear c2b0); (try clear c2b1); (try clear p2)
   obtain ⟨x3_1, rfl, HA, HK1, HB⟩ := hrel
   cases gk with
   | zero => exact absurd HA.out (by simp [spec_BalancesFault.l0])
   | succ k1 =>
    have H := HA.out
    clear HA
    simp only [spec_BalancesFault.l0] at H
    by_cases c3 : x3_1 < (l0.length : Int)
    ·rw [if_pos c3] at H
     have c3b0 := decide_eq_true c3
     clear c3
     by_cases c4 : 0 ≤ x3_1
     ·rw [if_pos c4] at H
      have c4b0 := decide_eq_true c4
      clear c4
      have HC5 := Aside0.mk H
      clear H
      have p245 : 0 ≤ (x3_1 : Int) := q_d
      have q245 : x3_1 < (l0.length : Int) := q_d
      obtain ⟨ad245, e245, hx245_0, hx245_1, hx245_2⟩ := at_T104 HR0.out x3_1 p245 q245
      cases e245
      replace hx245_0 := q_x HB.out hx245_0
      replace hx245_1 := q_x HB.out hx245_1
      replace hx245_2 := q_x HB.out hx245_2
      replace p245 := eq_true p245
      replace q245 := eq_true q245
      go_upto_region 7 with (first | ((with_reducible refine gate_dst (N := 4) rfl ?_); refine q_box (N := 4) (cs := #[.int .i64 0, .int .i64 0, .int .i64 0]) (t := 104) ?_; intro gb246 hg w6 hbox hb; have n0_ := Aside0.mk (below_step bq hb); have n1_ := Aside0.mk (hbox); have n2_ := Aside0.mk ((q_g hg bq : w.heap.size ≤ gb246)); have n3_ := Aside0.mk ((q_g hg bq : w.heap.size ≤ gb246)); revert n0_ n1_ n2_ n3_; clear HB; intro HB BK246 GW246 GE246; clear hb hbox hg; obtain ⟨hcz7_0, hcz7_1, hcz7_2, hfz7_0, hfz7_1, hfz7_2⟩ := q_3 BK246.out))
      repeat (go_quiet (first | ((with_reducible refine gate_dst (N := 4) rfl ?_); refine q_box (N := 4) (cs := #[.int .i64 0, .int .i64 0, .int .i64 0]) (t := 104) ?_; intro gb246 hg w6 hbox hb; have n0_ := Aside0.mk (below_step bq hb); have n1_ := Aside0.mk (hbox); have n2_ := Aside0.mk ((q_g hg bq : w.heap.size ≤ gb246)); have n3_ := Aside0.mk ((q_g hg bq : w.heap.size ≤ gb246)); revert n0_ n1_ n2_ n3_; clear HB; intro HB BK246 GW246 GE246; clear hb hbox hg; obtain ⟨hcz7_0, hcz7_1, hcz7_2, hfz7_0, hfz7_1, hfz7_2⟩ := q_3 BK246.out)); go_upto_region 7 with (first | ((with_reducible refine gate_dst (N := 4) rfl ?_); refine q_box (N := 4) (cs := #[.int .i64 0, .int .i64 0, .int .i64 0]) (t := 104) ?_; intro gb246 hg w6 hbox hb; have n0_ := Aside0.mk (below_step bq hb); have n1_ := Aside0.mk (hbox); have n2_ := Aside0.mk ((q_g hg bq : w.heap.size ≤ gb246)); have n3_ := Aside0.mk ((q_g hg bq : w.heap.size ≤ gb246)); revert n0_ n1_ n2_ n3_; clear HB; intro HB BK246 GW246 GE246; clear hb hbox hg; obtain ⟨hcz7_0, hcz7_1, hcz7_2, hfz7_0, hfz7_1, hfz7_2⟩ := q_3 BK246.out)))
      (try simp only [Act.put, List.setIfInBounds_toArray, List.set_cons_zero, List.set_cons_succ])
      go_cut [29] (fun v29 wc => ∃ (kq : Nat) (x29_4 : Bool), v29 = .bool x29_4 ∧ Aside0 (spec_BalancesFault.j1 kq l0 x3_1 x29_4 ((rd_T104 l0 x3_1).f0) ((rd_T104 l0 x3_1).f1) ((rd_T104 l0 x3_1).f2) = some r) ∧ Aside0 (kq ≤ k1) ∧ Aside0 (wc.heap[gb246]? = some (.cells #[.int .i64 ((rd_T104 l0 x3_1).f0), .int .i64 ((rd_T104 l0 x3_1).f1), .int .i64 ((rd_T104 l0 x3_1).f2)] 104 (0, 0))) ∧ Aside0 (Below w.heap.size w wc))
      case first =>
       have H := HC5.out
       clear HC5
       replace H := Option.bind_eq_some_iff.mp H
       obtain ⟨t247, A80, H⟩ := H
       replace H : (if t247 = true then ((spec_l1In.f ((rd_T104 l0 x3_1).f2) 1 1000000000000).bind fun t248 => (spec_BalancesFault.j1 k1 l0 x3_1 (!t248) ((rd_T104 l0 x3_1).f0) ((rd_T104 l0 x3_1).f1) ((rd_T104 l0 x3_1).f2))) else (spec_BalancesFault.j1 k1 l0 x3_1 true ((rd_T104 l0 x3_1).f0) ((rd_T104 l0 x3_1).f1) ((rd_T104 l0 x3_1).f2))) = some r := H
       have A8 := Aside0.mk A80
       clear A80
       by_cases c9 : t247 = true
       ·subst c9
        have H1 : ((spec_l1In.f ((rd_T104 l0 x3_1).f2) 1 1000000000000).bind fun t248 => (spec_BalancesFault.j1 k1 l0 x3_1 (!t248) ((rd_T104 l0 x3_1).f0) ((rd_T104 l0 x3_1).f1) ((rd_T104 l0 x3_1).f2))) = some r := by rw [if_pos rfl] at H; exact H
        clear H
        have H := H1
        clear H1
        replace H := Option.bind_eq_some_iff.mp H
        obtain ⟨t248, A100, H⟩ := H
        replace H : (spec_BalancesFault.j1 k1 l0 x3_1 (!t248) ((rd_T104 l0 x3_1).f0) ((rd_T104 l0 x3_1).f1) ((rd_T104 l0 x3_1).f2)) = some r := H
        have A10 := Aside0.mk A100
        clear A100
        have H' := Aside0.mk H
        clear H
        obtain ⟨hcz11_0, hcz11_1, hcz11_2, hfz11_0, hfz11_1, hfz11_2⟩ := q_3 BK246.out
        go_wp2_with (first | (go_at_call 80; (with_reducible refine (spec_l2Key.calls ((rd_T104 l0 x3_1).f0) ((rd_T104 l0 x3_1).f1) true _ A8.out).mono ?_); rintro e w' ⟨rfl, ⟨nd, rfl⟩⟩; (try first | exact ⟨rfl, _, World.drewN_drewN _ _ _⟩ | exact ⟨rfl, _, Eq.trans (World.drewN_drewN _ _ _) (congrArg (World.drewN _) (Nat.add_assoc _ _ _))⟩)) | (go_at_call 81; (with_reducible refine (spec_l1In.calls ((rd_T104 l0 x3_1).f2) 1 1000000000000 t248 _ A10.out).mono ?_); rintro e w' ⟨rfl, ⟨nd, rfl⟩⟩; (try first | exact ⟨rfl, _, World.drewN_drewN _ _ _⟩ | exact ⟨rfl, _, Eq.trans (World.drewN_drewN _ _ _) (congrArg (World.drewN _) (Nat.add_assoc _ _ _))⟩)))
        repeat (go_quiet (first | (go_at_call 80; (with_reducible refine (spec_l2Key.calls ((rd_T104 l0 x3_1).f0) ((rd_T104 l0 x3_1).f1) true _ A8.out).mono ?_); rintro e w' ⟨rfl, ⟨nd, rfl⟩⟩; (try first | exact ⟨rfl, _, World.drewN_drewN _ _ _⟩ | exact ⟨rfl, _, Eq.trans (World.drewN_drewN _ _ _) (congrArg (World.drewN _) (Nat.add_assoc _ _ _))⟩)) | (go_at_call 81; (with_reducible refine (spec_l1In.calls ((rd_T104 l0 x3_1).f2) 1 1000000000000 t248 _ A10.out).mono ?_); rintro e w' ⟨rfl, ⟨nd, rfl⟩⟩; (try first | exact ⟨rfl, _, World.drewN_drewN _ _ _⟩ | exact ⟨rfl, _, Eq.trans (World.drewN_drewN _ _ _) (congrArg (World.drewN _) (Nat.add_assoc _ _ _))⟩))); try go_wp2_with (first | (go_at_call 80; (with_reducible refine (spec_l2Key.calls ((rd_T104 l0 x3_1).f0) ((rd_T104 l0 x3_1).f1) true _ A8.out).mono ?_); rintro e w' ⟨rfl, ⟨nd, rfl⟩⟩; (try first | exact ⟨rfl, _, World.drewN_drewN _ _ _⟩ | exact ⟨rfl, _, Eq.trans (World.drewN_drewN _ _ _) (congrArg (World.drewN _) (Nat.add_assoc _ _ _))⟩)) | (go_at_call 81; (with_reducible refine (spec_l1In.calls ((rd_T104 l0 x3_1).f2) 1 1000000000000 t248 _ A10.out).mono ?_); rintro e w' ⟨rfl, ⟨nd, rfl⟩⟩; (try first | exact ⟨rfl, _, World.drewN_drewN _ _ _⟩ | exact ⟨rfl, _, Eq.trans (World.drewN_drewN _ _ _) (congrArg (World.drewN _) (Nat.add_assoc _ _ _))⟩))))
        go_meet
        case rel => exact ⟨_, (!t248), q_i, H', ⟨by have := HK1.out; first | omega | exact Nat.le_refl _⟩, ⟨by (with_reducible repeat (first | refine blk_drewN ?_ _ | refine blk_drew ?_ | refine blk_alloc ?_ _)); refine blk_put (cs := #[.int .i64 ((rd_T104 l0 x3_1).f0), .int .i64 ((rd_T104 l0 x3_1).f1), .int .i64 0]) ?_ 2 _ rfl; (with_reducible repeat (first | refine blk_drewN ?_ _ | refine blk_drew ?_ | refine blk_alloc ?_ _)); refine blk_put (cs := #[.int .i64 ((rd_T104 l0 x3_1).f0), .int .i64 0, .int .i64 0]) ?_ 1 _ rfl; (with_reducible repeat (first | refine blk_drewN ?_ _ | refine blk_drew ?_ | refine blk_alloc ?_ _)); refine blk_put (cs := #[.int .i64 0, .int .i64 0, .int .i64 0]) ?_ 0 _ rfl; (with_reducible repeat (first | refine blk_drewN ?_ _ | refine blk_drew ?_ | refine blk_alloc ?_ _)); exact BK246.out⟩, ⟨bq⟩⟩
       ·replace c9 := Bool.eq_false_iff.mpr c9
        subst c9
        have H1 : (spec_BalancesFault.j1 k1 l0 x3_1 true ((rd_T104 l0 x3_1).f0) ((rd_T104 l0 x3_1).f1) ((rd_T104 l0 x3_1).f2)) = some r := by rw [if_neg (show ¬ (false = true) by decide)] at H; exact H
        clear H
        have H := H1
        clear H1
        have H' := Aside0.mk H
        clear H
        obtain ⟨hcz12_0, hcz12_1, hcz12_2, hfz12_0, hfz12_1, hfz12_2⟩ := q_3 BK246.out
        go_wp2_with (first | (go_at_call 80; (with_reducible refine (spec_l2Key.calls ((rd_T104 l0 x3_1).f0) ((rd_T104 l0 x3_1).f1) false _ A8.out).mono ?_); rintro e w' ⟨rfl, ⟨nd, rfl⟩⟩; (try first | exact ⟨rfl, _, World.drewN_drewN _ _ _⟩ | exact ⟨rfl, _, Eq.trans (World.drewN_drewN _ _ _) (congrArg (World.drewN _) (Nat.add_assoc _ _ _))⟩)))
        repeat (go_quiet (first | (go_at_call 80; (with_reducible refine (spec_l2Key.calls ((rd_T104 l0 x3_1).f0) ((rd_T104 l0 x3_1).f1) false _ A8.out).mono ?_); rintro e w' ⟨rfl, ⟨nd, rfl⟩⟩; (try first | exact ⟨rfl, _, World.drewN_drewN _ _ _⟩ | exact ⟨rfl, _, Eq.trans (World.drewN_drewN _ _ _) (congrArg (World.drewN _) (Nat.add_assoc _ _ _))⟩))); try go_wp2_with (first | (go_at_call 80; (with_reducible refine (spec_l2Key.calls ((rd_T104 l0 x3_1).f0) ((rd_T104 l0 x3_1).f1) false _ A8.out).mono ?_); rintro e w' ⟨rfl, ⟨nd, rfl⟩⟩; (try first | exact ⟨rfl, _, World.drewN_drewN _ _ _⟩ | exact ⟨rfl, _, Eq.trans (World.drewN_drewN _ _ _) (congrArg (World.drewN _) (Nat.add_assoc _ _ _))⟩))))
        go_meet
        case rel => exact ⟨_, (true), q_i, H', ⟨by have := HK1.out; first | omega | exact Nat.le_refl _⟩, ⟨by (with_reducible repeat (first | refine blk_drewN ?_ _ | refine blk_drew ?_ | refine blk_alloc ?_ _)); refine blk_put (cs := #[.int .i64 ((rd_T104 l0 x3_1).f0), .int .i64 ((rd_T104 l0 x3_1).f1), .int .i64 0]) ?_ 2 _ rfl; (with_reducible repeat (first | refine blk_drewN ?_ _ | refine blk_drew ?_ | refine blk_alloc ?_ _)); refine blk_put (cs := #[.int .i64 ((rd_T104 l0 x3_1).f0), .int .i64 0, .int .i64 0]) ?_ 1 _ rfl; (with_reducible repeat (first | refine blk_drewN ?_ _ | refine blk_drew ?_ | refine blk_alloc ?_ _)); refine blk_put (cs := #[.int .i64 0, .int .i64 0, .int .i64 0]) ?_ 0 _ rfl; (with_reducible repeat (first | refine blk_drewN ?_ _ | refine blk_drew ?_ | refine blk_alloc ?_ _)); exact BK246.out⟩, ⟨bq⟩⟩
      case rest =>
       clear HC5
       (try clear c2); (try clear c2b0); (try clear c2b1); (try clear p2); (try clear q2); (try clear hx2); (try clear c3); (try clear c3b0); (try clear c4); (try clear c4b0); (try clear c9); (try clear hcz11_0)
       (try clear hcz11_1); (try clear hcz11_2); (try clear hcz12_0); (try clear hcz12_1); (try clear hcz12_2); (try clear hcz7_0); (try clear hcz7_1); (try clear hcz7_2); (try clear hfz11_0); (try clear hfz11_1)
       (try clear hfz11_2); (try clear hfz12_0); (try clear hfz12_1); (try clear hfz12_2); (try clear hfz7_0); (try clear hfz7_1); (try clear hfz7_2); (try clear hx245_0); (try clear hx245_1); (try clear hx245_2)
       (try clear p2); (try clear p245); (try clear q245)
       obtain ⟨kq, x29_4, rfl, HA, HJ4, BK246, HB⟩ := hcut
       cases kq with
       | zero => exact absurd HA.out (by simp [spec_BalancesFault.j1])
       | succ kj4 =>
        have H := HA.out
        clear HA
        simp only [spec_BalancesFault.j1] at H
        by_cases c13 : x29_4 = true
        ·subst c13
         have H1 : (some 3) = some r := by rw [if_pos rfl] at H; exact H
         clear H
         have H := H1
         clear H1
         obtain rfl := Option.some.inj H
         go_wp2
         repeat (go_quiet (fail); try go_wp2)
         go_ret
         exact ⟨q_e, bq⟩
        ·replace c13 := Bool.eq_false_iff.mpr c13
         subst c13
         have H1 : (if x3_1 > 0 then (if 0 ≤ (wrap64 (x3_1 - 1)) then (if (wrap64 (x3_1 - 1)) < (l0.length : Int) then (if (wrap64 ((wrap64 (((rd_T104 l0 x3_1).f0) * 3)) + ((rd_T104 l0 x3_1).f1))) ≤ (wrap64 ((wrap64 (((rd_T104 l0 (wrap64 (x3_1 - 1))).f0) * 3)) + ((rd_T104 l0 (wrap64 (x3_1 - 1))).f1))) then (some 1) else (spec_BalancesFault.l0 kj4 l0 (wrap64 (x3_1 + 1)))) else (none)) else (none)) else (spec_BalancesFault.l0 kj4 l0 (wrap64 (x3_1 + 1)))) = some r := by rw [if_neg (show ¬ (false = true) by decide)] at H; exact H
         clear H
         have H := H1
         clear H1
         by_cases c14 : x3_1 > 0
         ·rw [if_pos c14] at H
          have c14b0 := decide_eq_true c14
          clear c14
          obtain ⟨ji15, hji15⟩ : ∃ j_ : Int, (wrap64 (x3_1 - 1)) = j_ := ⟨_, rfl⟩
          replace H : (if 0 ≤ (ji15) then (if (ji15) < (l0.length : Int) then (if (wrap64 ((wrap64 (((rd_T104 l0 x3_1).f0) * 3)) + ((rd_T104 l0 x3_1).f1))) ≤ (wrap64 ((wrap64 (((rd_T104 l0 (ji15)).f0) * 3)) + ((rd_T104 l0 (ji15)).f1))) then (some 1) else (spec_BalancesFault.l0 kj4 l0 (wrap64 (x3_1 + 1)))) else (none)) else (none)) = some r := by first | (rw [hji15] at H; exact H) | (simp only [hji15] at H ⊢; exact H)
          have hji15w : (IntKind.i64.wrap (x3_1 - 1)) = ji15 := (i64_w _).trans hji15
          by_cases c16 : 0 ≤ (ji15)
          ·rw [if_pos c16] at H
           have c16b0 := decide_eq_true c16
           clear c16
           by_cases c17 : (ji15) < (l0.length : Int)
           ·rw [if_pos c17] at H
            have c17b0 := decide_eq_true c17
            clear c17
            by_cases c18 : (wrap64 ((wrap64 (((rd_T104 l0 x3_1).f0) * 3)) + ((rd_T104 l0 x3_1).f1))) ≤ (wrap64 ((wrap64 (((rd_T104 l0 (ji15)).f0) * 3)) + ((rd_T104 l0 (ji15)).f1)))
            ·rw [if_pos c18] at H
             have c18b0 := decide_eq_true c18
             clear c18
             obtain rfl := Option.some.inj H
             obtain ⟨hcz19_0, hcz19_1, hcz19_2, hfz19_0, hfz19_1, hfz19_2⟩ := q_3 BK246.out
             have p249 : 0 ≤ ((ji15) : Int) := q_d
             have q249 : (ji15) < (l0.length : Int) := q_d
             obtain ⟨ad249, e249, hx249_0, hx249_1, hx249_2⟩ := at_T104 HR0.out (ji15) p249 q249
             obtain rfl : ad245 = ad249 := (by injection e249)
             replace hx249_0 := q_x HB.out hx249_0
             replace hx249_1 := q_x HB.out hx249_1
             replace hx249_2 := q_x HB.out hx249_2
             replace p249 := eq_true p249
             replace q249 := eq_true q249
             have p250 : 0 ≤ ((ji15) : Int) := q_d
             have q250 : (ji15) < (l0.length : Int) := q_d
             obtain ⟨ad250, e250, hx250_0, hx250_1, hx250_2⟩ := at_T104 HR0.out (ji15) p250 q250
             obtain rfl : ad245 = ad250 := (by injection e250)
             replace hx250_0 := q_x HB.out hx250_0
             replace hx250_1 := q_x HB.out hx250_1
             replace hx250_2 := q_x HB.out hx250_2
             replace p250 := eq_true p250
             replace q250 := eq_true q250
             go_wp2
             repeat (go_quiet (fail); try go_wp2)
             go_ret
             exact ⟨by first | rfl | (simp [errW_none, errW_some] <;> rfl) | (simp only [← hji15]; first | rfl | (simp [errW_none, errW_some] <;> rfl)) | (simp [*, errW_none, errW_some] <;> rfl), bq⟩
            ·rw [if_neg c18] at H
             have c18b0 := decide_eq_false c18
             clear c18
             have H' := Aside0.mk H
             clear H
             obtain ⟨hcz20_0, hcz20_1, hcz20_2, hfz20_0, hfz20_1, hfz20_2⟩ := q_3 BK246.out
             have p249 : 0 ≤ ((ji15) : Int) := q_d
             have q249 : (ji15) < (l0.length : Int) := q_d
             obtain ⟨ad249, e249, hx249_0, hx249_1, hx249_2⟩ := at_T104 HR0.out (ji15) p249 q249
             obtain rfl : ad245 = ad249 := (by injection e249)
             replace hx249_0 := q_x HB.out hx249_0
             replace hx249_1 := q_x HB.out hx249_1
             replace hx249_2 := q_x HB.out hx249_2
             replace p249 := eq_true p249
             replace q249 := eq_true q249
             have p250 : 0 ≤ ((ji15) : Int) := q_d
             have q250 : (ji15) < (l0.length : Int) := q_d
             obtain ⟨ad250, e250, hx250_0, hx250_1, hx250_2⟩ := at_T104 HR0.out (ji15) p250 q250
             obtain rfl : ad245 = ad250 := (by injection e250)
             replace hx250_0 := q_x HB.out hx250_0
             replace hx250_1 := q_x HB.out hx250_1
             replace hx250_2 := q_x HB.out hx250_2
             replace p250 := eq_true p250
             replace q250 := eq_true q250
             go_wp2
             repeat (go_quiet (fail); try go_wp2)
             go_roundg kj4
             case measure => have := HK1.out; have := HJ4.out; omega
             case rel => exact ⟨(wrap64 (x3_1 + 1)), q_i, H', ⟨by have := HK1.out; have := HJ4.out; omega⟩, ⟨bq⟩⟩
           ·rw [if_neg c17] at H
            exact absurd H (by simp)
          ·rw [if_neg c16] at H
           exact absurd H (by simp)
         ·rw [if_neg c14] at H
          have c14b0 := decide_eq_false c14
          clear c14
          have H' := Aside0.mk H
          clear H
          go_wp2
          repeat (go_quiet (fail); try go_wp2)
          go_roundg kj4
          case measure => have := HK1.out; have := HJ4.out; omega
          case rel => exact ⟨(wrap64 (x3_1 + 1)), q_i, H', ⟨by have := HK1.out; have := HJ4.out; omega⟩, ⟨bq⟩⟩
     ·rw [if_neg c4] at H
      exact absurd H (by simp)
    ·rw [if_neg c3] at H
     have c3b0 := decide_eq_false c3
     clear c3
     obtain rfl := Option.some.inj H
     go_wp2
     repeat (go_quiet (fail); try go_wp2)
     go_ret
     exact ⟨q_e, bq⟩

/-! ### spec_LedgerFault: function 46 -/
mutual
def spec_LedgerFault.j0 : Nat → Bool → List (List (S104)) → Option (Int)
  | 0, _, _ => none
  | k + 1, x14, x252000 => if x14 = true then (some 2) else (spec_LedgerFault.l0 k 0 x252000)
def spec_LedgerFault.l0 : Nat → Int → List (List (S104)) → Option (Int)
  | 0, _, _ => none
  | k + 1, x3, x252000 => if x3 < (x252000.length : Int) then (if 0 ≤ x3 then ((spec_BalancesFault.f k (rd_L2 x252000 x3)).bind fun t253 => (if t253 = 0 then (spec_LedgerFault.l0 k (wrap64 (x3 + 1)) x252000) else (some t253))) else (none)) else (some 0)
end
def spec_LedgerFault.f (k : Nat) (l0_0 : List (List (S104))) : Option (Int) := if (l0_0.length : Int) < 1 then (spec_LedgerFault.j0 k true l0_0) else (spec_LedgerFault.j0 k (decide ((l0_0.length : Int) > 3)) l0_0)
set_option maxHeartbeats 8000000 in
set_option maxRecDepth 100000 in
theorem spec_LedgerFault.calls (k : Nat) (A0_0 : Option Addr) (c0_0 : Nat) (l0_0 : List (List (S104))) (r : Int) (w : World) (hr0_0 : Kd.C (Kd.slice 104 k104) w A0_0 l0_0.length l0_0) (hc0_0 : l0_0.length ≤ c0_0) (h : spec_LedgerFault.f k l0_0 = some r) :
  Calls Try.prog 46 #[.agg #[.slice A0_0 l0_0.length c0_0]] w fun e w' => e = .returned (.int .i64 r) ∧ Below w.heap.size w w' := by
 have hu26 := Try.underlying26
 have HR0_0 := Aside0.mk hr0_0
 have HC0_0 := Aside0.mk hc0_0
 clear hr0_0 hc0_0
 have HB := Aside0.mk (Below.refl w.heap.size w)
 have H : (if (l0_0.length : Int) < 1 then (spec_LedgerFault.j0 k true l0_0) else (spec_LedgerFault.j0 k (decide ((l0_0.length : Int) > 3)) l0_0)) = some r := h
 clear h
 have HC2 := Aside0.mk H
 clear H
 go_enter Try.func46, Try.ntmps46
 go_upto_region 1 with (first | ((with_reducible refine gate_dst (N := 1) rfl ?_); (try (refine gate_guard (by rfl) ?_; dsimp only)); refine q_box (N := 1) (cs := #[.slice A0_0 l0_0.length c0_0]) (t := 26) ?_; intro gb251 hg w3 hbox hb; have n0_ := Aside0.mk (below_step bq hb); have n1_ := Aside0.mk (hbox); have n2_ := Aside0.mk ((q_g hg bq : w.heap.size ≤ gb251)); have n3_ := Aside0.mk ((q_g hg bq : w.heap.size ≤ gb251)); revert n0_ n1_ n2_ n3_; clear HB; intro HB BK251 GW251 GE251; clear hb hbox hg))
 (try simp only [Act.put, List.setIfInBounds_toArray, List.set_cons_zero, List.set_cons_succ])
 go_cut [14] (fun v14 wc => ∃ (kq : Nat) (x14_1 : Bool), v14 = .bool x14_1 ∧ Aside0 (spec_LedgerFault.j0 kq x14_1 l0_0 = some r) ∧ Aside0 (kq ≤ k) ∧ Aside0 (wc.heap[gb251]? = some (.cells #[(.slice A0_0 l0_0.length c0_0)] 26 (0, 0))) ∧ Aside0 (Below w.heap.size w wc))
 case first =>
  have H := HC2.out
  clear HC2
  by_cases c4 : (l0_0.length : Int) < 1
  ·rw [if_pos c4] at H
   have c4b0 := decide_eq_true c4
   have c4b1 : decide (l0_0.length < 1) = true := decide_eq_true (by omega)
   clear c4
   (first | rw [c4b0] | (simp only [i64_w, i32_w]; rw [c4b0]) | skip)
   have H' := Aside0.mk H
   clear H
   obtain ⟨hcz5_0, hfz5_0⟩ := q_1 BK251.out
   go_wp2
   go_meet
   case rel => exact ⟨_, (true), q_i, H', ⟨by first | omega | exact Nat.le_refl _⟩, ⟨q_b BK251.out⟩, ⟨bq⟩⟩
  ·rw [if_neg c4] at H
   have c4b0 := decide_eq_false c4
   have c4b1 : decide (l0_0.length < 1) = false := decide_eq_false (by omega)
   clear c4
   (first | rw [c4b0] | (simp only [i64_w, i32_w]; rw [c4b0]) | skip)
   have H' := Aside0.mk H
   clear H
   obtain ⟨hcz6_0, hfz6_0⟩ := q_1 BK251.out
   go_wp2
   go_meet
   case rel => exact ⟨_, (decide ((l0_0.length : Int) > 3)), q_i, H', ⟨by first | omega | exact Nat.le_refl _⟩, ⟨q_b BK251.out⟩, ⟨bq⟩⟩
 case rest =>
  clear HC2
  (try clear p2); (try clear c4); (try clear c4b0); (try clear c4b1); (try clear hcz5_0); (try clear hcz6_0); (try clear hfz5_0); (try clear hfz6_0)
  obtain ⟨kq, x14_1, rfl, HA, HJ1, BK251, HB⟩ := hcut
  cases kq with
  | zero => exact absurd HA.out (by simp [spec_LedgerFault.j0])
  | succ kj1 =>
   have H := HA.out
   clear HA
   simp only [spec_LedgerFault.j0] at H
   by_cases c7 : x14_1 = true
   ·subst c7
    have H1 : (some 2) = some r := by rw [if_pos rfl] at H; exact H
    clear H
    have H := H1
    clear H1
    obtain rfl := Option.some.inj H
    go_wp2
    go_ret
    exact ⟨q_e, bq⟩
   ·replace c7 := Bool.eq_false_iff.mpr c7
    subst c7
    have H1 : (spec_LedgerFault.l0 kj1 0 l0_0) = some r := by rw [if_neg (show ¬ (false = true) by decide)] at H; exact H
    clear H
    have H := H1
    clear H1
    have H' := Aside0.mk H
    clear H
    go_wp2
    go_loopg [3] kj1 (fun kq v3 w' => ∃ (x3_2 : Int), v3 = .int .i64 x3_2 ∧ Aside0 (spec_LedgerFault.l0 kq x3_2 l0_0 = some r) ∧ Aside0 (kq ≤ kj1) ∧ Aside0 (w'.heap[gb251]? = some (.cells #[(.slice A0_0 l0_0.length c0_0)] 26 (0, 0))) ∧ Aside0 (Below w.heap.size w w'))
    case atStart => exact ⟨(0), q_i, H', ⟨Nat.le_refl _⟩, ⟨q_b BK251.out⟩, ⟨bq⟩⟩
    case round =>
     clear H'
     (try clear p2); (try clear c4); (try clear c4b0); (try clear c4b1); (try clear c7); (try clear hcz5_0); (try clear hcz6_0); (try clear hfz5_0); (try clear hfz6_0); (try clear p2)
     obtain ⟨x3_2, rfl, HA, HK2, BK251, HB⟩ := hrel
     cases gk with
     | zero => exact absurd HA.out (by simp [spec_LedgerFault.l0])
     | succ k2 =>
      have H := HA.out
      clear HA
      simp only [spec_LedgerFault.l0] at H
      by_cases c8 : x3_2 < (l0_0.length : Int)
      ·rw [if_pos c8] at H
       have c8b0 := decide_eq_true c8
       clear c8
       by_cases c9 : 0 ≤ x3_2
       ·rw [if_pos c9] at H
        have c9b0 := decide_eq_true c9
        clear c9
        replace H := Option.bind_eq_some_iff.mp H
        obtain ⟨t253, A100, H⟩ := H
        replace H : (if t253 = 0 then (spec_LedgerFault.l0 k2 (wrap64 (x3_2 + 1)) l0_0) else (some t253)) = some r := H
        have A10 := Aside0.mk A100
        clear A100
        by_cases c11 : t253 = 0
        ·rw [if_pos c11] at H
         have c11b0 : (t253 == 0) = true := beq_iff_eq.mpr c11
         have c11b1 : (t253 != 0) = false := bne_eq_false_iff_eq.mpr c11
         clear c11
         have H' := Aside0.mk H
         clear H
         obtain ⟨hcz12_0, hfz12_0⟩ := q_1 BK251.out
         have p252 : 0 ≤ (x3_2 : Int) := q_d
         have q252 : x3_2 < (l0_0.length : Int) := q_d
         obtain ⟨ad252, A252_0, c252_0, e252, hx252_0, hl252_0, hi252_0⟩ := at_L2 HR0_0.out x3_2 p252 q252
         cases e252
         replace hx252_0 := q_x HB.out hx252_0
         have HR252_0 := Aside0.mk hi252_0
         have HC252_0 := Aside0.mk hl252_0
         clear hi252_0 hl252_0
         replace p252 := eq_true p252
         replace q252 := eq_true q252
         go_wp2_with (first | ((with_reducible refine gate_callee (f := 34) rfl ?_); refine goesLq (some 27) rfl rfl Try.func34 (by kernel_rfl) rfl #[.slice A252_0 (rd_L2 l0_0 x3_2).length c252_0] rfl ?_; (with_reducible refine (spec_BalancesFault.calls k2 _ _ (rd_L2 l0_0 x3_2) t253 _ ?side1 ?side2 A10.out).mono ?_); (case side1 => exact q_c ((Kd.C_below HR252_0.out HB.out))); (case side2 => exact HC252_0.out); rintro e w13 ⟨rfl, hb⟩; refine ⟨_, rfl, ?_⟩; have n0_ := Aside0.mk (blk_below (q_b BK251.out) hb); have n1_ := Aside0.mk (below_step bq hb); revert n0_ n1_; clear BK251 HB; intro BK251 HB; (try clear hb); (try clear hb2); (try clear hk); (try clear hi)))
         go_roundg k2
         case measure => have := HJ1.out; have := HK2.out; omega
         case rel => exact ⟨(wrap64 (x3_2 + 1)), q_i, H', ⟨by have := HJ1.out; have := HK2.out; omega⟩, ⟨q_b BK251.out⟩, ⟨bq⟩⟩
        ·rw [if_neg c11] at H
         have c11b0 : (t253 == 0) = false := beq_eq_false_iff_ne.mpr c11
         have c11b1 : (t253 != 0) = true := bne_iff_ne.mpr c11
         obtain rfl := Option.some.inj H
         obtain ⟨hcz14_0, hfz14_0⟩ := q_1 BK251.out
         have p252 : 0 ≤ (x3_2 : Int) := q_d
         have q252 : x3_2 < (l0_0.length : Int) := q_d
         obtain ⟨ad252, A252_0, c252_0, e252, hx252_0, hl252_0, hi252_0⟩ := at_L2 HR0_0.out x3_2 p252 q252
         cases e252
         replace hx252_0 := q_x HB.out hx252_0
         have HR252_0 := Aside0.mk hi252_0
         have HC252_0 := Aside0.mk hl252_0
         clear hi252_0 hl252_0
         replace p252 := eq_true p252
         replace q252 := eq_true q252
         go_wp2_with (first | ((with_reducible refine gate_callee (f := 34) rfl ?_); refine goesLq (some 27) rfl rfl Try.func34 (by kernel_rfl) rfl #[.slice A252_0 (rd_L2 l0_0 x3_2).length c252_0] rfl ?_; (with_reducible refine (spec_BalancesFault.calls k2 _ _ (rd_L2 l0_0 x3_2) t253 _ ?side1 ?side2 A10.out).mono ?_); (case side1 => exact q_c ((Kd.C_below HR252_0.out HB.out))); (case side2 => exact HC252_0.out); rintro e w15 ⟨rfl, hb⟩; refine ⟨_, rfl, ?_⟩; have n0_ := Aside0.mk (blk_below (q_b BK251.out) hb); have n1_ := Aside0.mk (below_step bq hb); revert n0_ n1_; clear BK251 HB; intro BK251 HB; (try clear hb); (try clear hb2); (try clear hk); (try clear hi)))
         go_ret
         exact ⟨q_e, bq⟩
       ·rw [if_neg c9] at H
        exact absurd H (by simp)
      ·rw [if_neg c8] at H
       have c8b0 := decide_eq_false c8
       clear c8
       obtain rfl := Option.some.inj H
       obtain ⟨hcz16_0, hfz16_0⟩ := q_1 BK251.out
       go_wp2
       go_ret
       exact ⟨q_e, bq⟩

/-! ### spec_l1Id: function 123 -/
def spec_l1Id.f (a0 : Int) : Option (Bool) := (spec_l1In.f a0 1 1000000000).bind fun t254 => (some t254)
set_option maxHeartbeats 8000000 in
set_option maxRecDepth 100000 in
theorem spec_l1Id.calls (a0 : Int) (r : Bool) (w : World) (h : spec_l1Id.f a0 = some r) :
  Calls Try.prog 123 #[.int .i64 a0] w fun e w' => e = .returned (.bool r) ∧ Drawn0 w w' := by
 have H : ((spec_l1In.f a0 1 1000000000).bind fun t254 => (some t254)) = some r := h
 clear h
 replace H := Option.bind_eq_some_iff.mp H
 obtain ⟨t254, A20, H⟩ := H
 replace H : (some t254) = some r := H
 have A2 := Aside0.mk A20
 clear A20
 obtain rfl := Option.some.inj H
 go_enter Try.func123, Try.ntmps123
 go_wp2_with (first | ((with_reducible refine gate_callee (f := 81) rfl ?_); refine goesLq (some 4) rfl rfl Try.func81 (by kernel_rfl) rfl #[.int .i64 a0, .int .i64 1, .int .i64 1000000000] rfl ?_; (with_reducible refine (spec_l1In.calls a0 1 1000000000 t254 _ A2.out).mono ?_); rintro e w' ⟨rfl, ⟨nd, rfl⟩⟩; refine ⟨_, rfl, ?_⟩))
 go_ret
 exact ⟨by first | rfl | (simp; done) | (simp [*]; done), q_0⟩

/-! ### spec_LegFault: function 124 -/
def spec_LegFault.j0 : Nat → Bool → Int → Int → Int → Int → Option (Int)
  | 0, _, _, _, _, _ => none
  | k + 1, x24, x256000, x256001, x256002, x256003 => if x24 = true then (some 3) else (if x256003 = 0 then (some 1) else (some 0))
def spec_LegFault.f (k : Nat) (a0_0 : Int) (a0_1 : Int) (a0_2 : Int) (a0_3 : Int) : Option (Int) := (spec_l1In.f a0_0 0 2).bind fun t256 => (if t256 = true then ((spec_l1In.f a0_1 0 5).bind fun t257 => (if t257 = true then ((spec_l1In.f a0_2 0 2).bind fun t258 => (if t258 = true then ((spec_l1In.f a0_3 (-1000000000000) 1000000000000).bind fun t259 => (spec_LegFault.j0 k (!t259) a0_0 a0_1 a0_2 a0_3)) else (spec_LegFault.j0 k true a0_0 a0_1 a0_2 a0_3))) else (spec_LegFault.j0 k true a0_0 a0_1 a0_2 a0_3))) else (spec_LegFault.j0 k true a0_0 a0_1 a0_2 a0_3))
set_option maxHeartbeats 8000000 in
set_option maxRecDepth 100000 in
theorem spec_LegFault.calls (k : Nat) (a0_0 : Int) (a0_1 : Int) (a0_2 : Int) (a0_3 : Int) (r : Int) (w : World) (h : spec_LegFault.f k a0_0 a0_1 a0_2 a0_3 = some r) :
  Calls Try.prog 124 #[.agg #[.int .i64 a0_0, .int .i64 a0_1, .int .i64 a0_2, .int .i64 a0_3]] w fun e w' => e = .returned (.int .i64 r) ∧ Below w.heap.size w w' := by
 have hu86 := Try.underlying86
 have HB := Aside0.mk (Below.refl w.heap.size w)
 have H : ((spec_l1In.f a0_0 0 2).bind fun t256 => (if t256 = true then ((spec_l1In.f a0_1 0 5).bind fun t257 => (if t257 = true then ((spec_l1In.f a0_2 0 2).bind fun t258 => (if t258 = true then ((spec_l1In.f a0_3 (-1000000000000) 1000000000000).bind fun t259 => (spec_LegFault.j0 k (!t259) a0_0 a0_1 a0_2 a0_3)) else (spec_LegFault.j0 k true a0_0 a0_1 a0_2 a0_3))) else (spec_LegFault.j0 k true a0_0 a0_1 a0_2 a0_3))) else (spec_LegFault.j0 k true a0_0 a0_1 a0_2 a0_3))) = some r := h
 clear h
 have HC2 := Aside0.mk H
 clear H
 go_enter Try.func124, Try.ntmps124
 go_upto_region 1 with (first | ((with_reducible refine gate_dst (N := 1) rfl ?_); refine q_box (N := 1) (cs := #[.int .i64 a0_0, .int .i64 a0_1, .int .i64 a0_2, .int .i64 a0_3]) (t := 86) ?_; intro gb255 hg w3 hbox hb; have n0_ := Aside0.mk (below_step bq hb); have n1_ := Aside0.mk (hbox); have n2_ := Aside0.mk ((q_g hg bq : w.heap.size ≤ gb255)); have n3_ := Aside0.mk ((q_g hg bq : w.heap.size ≤ gb255)); revert n0_ n1_ n2_ n3_; clear HB; intro HB BK255 GW255 GE255; clear hb hbox hg))
 (try simp only [Act.put, List.setIfInBounds_toArray, List.set_cons_zero, List.set_cons_succ])
 go_cut [24] (fun v24 wc => ∃ (kq : Nat) (x24_1 : Bool), v24 = .bool x24_1 ∧ Aside0 (spec_LegFault.j0 kq x24_1 a0_0 a0_1 a0_2 a0_3 = some r) ∧ Aside0 (kq ≤ k) ∧ Aside0 (wc.heap[gb255]? = some (.cells #[.int .i64 a0_0, .int .i64 a0_1, .int .i64 a0_2, .int .i64 a0_3] 86 (0, 0))) ∧ Aside0 (Below w.heap.size w wc))
 case first =>
  have H := HC2.out
  clear HC2
  replace H := Option.bind_eq_some_iff.mp H
  obtain ⟨t256, A40, H⟩ := H
  replace H : (if t256 = true then ((spec_l1In.f a0_1 0 5).bind fun t257 => (if t257 = true then ((spec_l1In.f a0_2 0 2).bind fun t258 => (if t258 = true then ((spec_l1In.f a0_3 (-1000000000000) 1000000000000).bind fun t259 => (spec_LegFault.j0 k (!t259) a0_0 a0_1 a0_2 a0_3)) else (spec_LegFault.j0 k true a0_0 a0_1 a0_2 a0_3))) else (spec_LegFault.j0 k true a0_0 a0_1 a0_2 a0_3))) else (spec_LegFault.j0 k true a0_0 a0_1 a0_2 a0_3)) = some r := H
  have A4 := Aside0.mk A40
  clear A40
  by_cases c5 : t256 = true
  ·subst c5
   have H1 : ((spec_l1In.f a0_1 0 5).bind fun t257 => (if t257 = true then ((spec_l1In.f a0_2 0 2).bind fun t258 => (if t258 = true then ((spec_l1In.f a0_3 (-1000000000000) 1000000000000).bind fun t259 => (spec_LegFault.j0 k (!t259) a0_0 a0_1 a0_2 a0_3)) else (spec_LegFault.j0 k true a0_0 a0_1 a0_2 a0_3))) else (spec_LegFault.j0 k true a0_0 a0_1 a0_2 a0_3))) = some r := by rw [if_pos rfl] at H; exact H
   clear H
   have H := H1
   clear H1
   replace H := Option.bind_eq_some_iff.mp H
   obtain ⟨t257, A60, H⟩ := H
   replace H : (if t257 = true then ((spec_l1In.f a0_2 0 2).bind fun t258 => (if t258 = true then ((spec_l1In.f a0_3 (-1000000000000) 1000000000000).bind fun t259 => (spec_LegFault.j0 k (!t259) a0_0 a0_1 a0_2 a0_3)) else (spec_LegFault.j0 k true a0_0 a0_1 a0_2 a0_3))) else (spec_LegFault.j0 k true a0_0 a0_1 a0_2 a0_3)) = some r := H
   have A6 := Aside0.mk A60
   clear A60
   by_cases c7 : t257 = true
   ·subst c7
    have H1 : ((spec_l1In.f a0_2 0 2).bind fun t258 => (if t258 = true then ((spec_l1In.f a0_3 (-1000000000000) 1000000000000).bind fun t259 => (spec_LegFault.j0 k (!t259) a0_0 a0_1 a0_2 a0_3)) else (spec_LegFault.j0 k true a0_0 a0_1 a0_2 a0_3))) = some r := by rw [if_pos rfl] at H; exact H
    clear H
    have H := H1
    clear H1
    replace H := Option.bind_eq_some_iff.mp H
    obtain ⟨t258, A80, H⟩ := H
    replace H : (if t258 = true then ((spec_l1In.f a0_3 (-1000000000000) 1000000000000).bind fun t259 => (spec_LegFault.j0 k (!t259) a0_0 a0_1 a0_2 a0_3)) else (spec_LegFault.j0 k true a0_0 a0_1 a0_2 a0_3)) = some r := H
    have A8 := Aside0.mk A80
    clear A80
    by_cases c9 : t258 = true
    ·subst c9
     have H1 : ((spec_l1In.f a0_3 (-1000000000000) 1000000000000).bind fun t259 => (spec_LegFault.j0 k (!t259) a0_0 a0_1 a0_2 a0_3)) = some r := by rw [if_pos rfl] at H; exact H
     clear H
     have H := H1
     clear H1
     replace H := Option.bind_eq_some_iff.mp H
     obtain ⟨t259, A100, H⟩ := H
     replace H : (spec_LegFault.j0 k (!t259) a0_0 a0_1 a0_2 a0_3) = some r := H
     have A10 := Aside0.mk A100
     clear A100
     have H' := Aside0.mk H
     clear H
     obtain ⟨hcz11_0, hcz11_1, hcz11_2, hcz11_3, hfz11_0, hfz11_1, hfz11_2, hfz11_3⟩ := q_4 BK255.out
     go_wp2_with (first | ((with_reducible refine gate_callee (f := 81) rfl ?_); refine goesLq (some 5) rfl rfl Try.func81 (by kernel_rfl) rfl #[.int .i64 a0_0, .int .i64 0, .int .i64 2] rfl ?_; (with_reducible refine (spec_l1In.calls a0_0 0 2 true _ A4.out).mono ?_); rintro e w' ⟨rfl, ⟨nd, rfl⟩⟩; refine ⟨_, rfl, ?_⟩) | (go_at_call 81; (with_reducible refine (spec_l1In.calls a0_1 0 5 true _ A6.out).mono ?_); rintro e w' ⟨rfl, ⟨nd, rfl⟩⟩) | (go_at_call 81; (with_reducible refine (spec_l1In.calls a0_2 0 2 true _ A8.out).mono ?_); rintro e w' ⟨rfl, ⟨nd, rfl⟩⟩) | (go_at_call 81; (with_reducible refine (spec_l1In.calls a0_3 (-1000000000000) 1000000000000 t259 _ A10.out).mono ?_); rintro e w' ⟨rfl, ⟨nd, rfl⟩⟩))
     go_meet
     case rel => exact ⟨_, (!t259), q_i, H', ⟨by first | omega | exact Nat.le_refl _⟩, ⟨q_b BK255.out⟩, ⟨bq⟩⟩
    ·replace c9 := Bool.eq_false_iff.mpr c9
     subst c9
     have H1 : (spec_LegFault.j0 k true a0_0 a0_1 a0_2 a0_3) = some r := by rw [if_neg (show ¬ (false = true) by decide)] at H; exact H
     clear H
     have H := H1
     clear H1
     have H' := Aside0.mk H
     clear H
     obtain ⟨hcz12_0, hcz12_1, hcz12_2, hcz12_3, hfz12_0, hfz12_1, hfz12_2, hfz12_3⟩ := q_4 BK255.out
     go_wp2_with (first | ((with_reducible refine gate_callee (f := 81) rfl ?_); refine goesLq (some 5) rfl rfl Try.func81 (by kernel_rfl) rfl #[.int .i64 a0_0, .int .i64 0, .int .i64 2] rfl ?_; (with_reducible refine (spec_l1In.calls a0_0 0 2 true _ A4.out).mono ?_); rintro e w' ⟨rfl, ⟨nd, rfl⟩⟩; refine ⟨_, rfl, ?_⟩) | (go_at_call 81; (with_reducible refine (spec_l1In.calls a0_1 0 5 true _ A6.out).mono ?_); rintro e w' ⟨rfl, ⟨nd, rfl⟩⟩) | (go_at_call 81; (with_reducible refine (spec_l1In.calls a0_2 0 2 false _ A8.out).mono ?_); rintro e w' ⟨rfl, ⟨nd, rfl⟩⟩))
     go_meet
     case rel => exact ⟨_, (true), q_i, H', ⟨by first | omega | exact Nat.le_refl _⟩, ⟨q_b BK255.out⟩, ⟨bq⟩⟩
   ·replace c7 := Bool.eq_false_iff.mpr c7
    subst c7
    have H1 : (spec_LegFault.j0 k true a0_0 a0_1 a0_2 a0_3) = some r := by rw [if_neg (show ¬ (false = true) by decide)] at H; exact H
    clear H
    have H := H1
    clear H1
    have H' := Aside0.mk H
    clear H
    obtain ⟨hcz13_0, hcz13_1, hcz13_2, hcz13_3, hfz13_0, hfz13_1, hfz13_2, hfz13_3⟩ := q_4 BK255.out
    go_wp2_with (first | ((with_reducible refine gate_callee (f := 81) rfl ?_); refine goesLq (some 5) rfl rfl Try.func81 (by kernel_rfl) rfl #[.int .i64 a0_0, .int .i64 0, .int .i64 2] rfl ?_; (with_reducible refine (spec_l1In.calls a0_0 0 2 true _ A4.out).mono ?_); rintro e w' ⟨rfl, ⟨nd, rfl⟩⟩; refine ⟨_, rfl, ?_⟩) | (go_at_call 81; (with_reducible refine (spec_l1In.calls a0_1 0 5 false _ A6.out).mono ?_); rintro e w' ⟨rfl, ⟨nd, rfl⟩⟩))
    go_meet
    case rel => exact ⟨_, (true), q_i, H', ⟨by first | omega | exact Nat.le_refl _⟩, ⟨q_b BK255.out⟩, ⟨bq⟩⟩
  ·replace c5 := Bool.eq_false_iff.mpr c5
   subst c5
   have H1 : (spec_LegFault.j0 k true a0_0 a0_1 a0_2 a0_3) = some r := by rw [if_neg (show ¬ (false = true) by decide)] at H; exact H
   clear H
   have H := H1
   clear H1
   have H' := Aside0.mk H
   clear H
   obtain ⟨hcz14_0, hcz14_1, hcz14_2, hcz14_3, hfz14_0, hfz14_1, hfz14_2, hfz14_3⟩ := q_4 BK255.out
   go_wp2_with (first | ((with_reducible refine gate_callee (f := 81) rfl ?_); refine goesLq (some 5) rfl rfl Try.func81 (by kernel_rfl) rfl #[.int .i64 a0_0, .int .i64 0, .int .i64 2] rfl ?_; (with_reducible refine (spec_l1In.calls a0_0 0 2 false _ A4.out).mono ?_); rintro e w' ⟨rfl, ⟨nd, rfl⟩⟩; refine ⟨_, rfl, ?_⟩))
   go_meet
   case rel => exact ⟨_, (true), q_i, H', ⟨by first | omega | exact Nat.le_refl _⟩, ⟨q_b BK255.out⟩, ⟨bq⟩⟩
 case rest =>
  clear HC2
  (try clear c1); (try clear p2); (try clear c5); (try clear c7); (try clear c8); (try clear c9); (try clear c12); (try clear hcz11_0); (try clear hcz11_1); (try clear hcz11_2); (try clear hcz11_3); (try clear hcz12_0)
  (try clear hcz12_1); (try clear hcz12_2); (try clear hcz12_3); (try clear hcz13_0); (try clear hcz13_1); (try clear hcz13_2); (try clear hcz13_3); (try clear hcz14_0); (try clear hcz14_1); (try clear hcz14_2)
  (try clear hcz14_3); (try clear hfz11_0); (try clear hfz11_1); (try clear hfz11_2); (try clear hfz11_3); (try clear hfz12_0); (try clear hfz12_1); (try clear hfz12_2); (try clear hfz12_3); (try clear hfz13_0)
  (try clear hfz13_1); (try clear hfz13_2); (try clear hfz13_3); (try clear hfz14_0); (try clear hfz14_1); (try clear hfz14_2); (try clear hfz14_3)
  obtain ⟨kq, x24_1, rfl, HA, HJ1, BK255, HB⟩ := hcut
  cases kq with
  | zero => exact absurd HA.out (by simp [spec_LegFault.j0])
  | succ kj1 =>
   have H := HA.out
   clear HA
   simp only [spec_LegFault.j0] at H
   by_cases c15 : x24_1 = true
   ·subst c15
    have H1 : (some 3) = some r := by rw [if_pos rfl] at H; exact H
    clear H
    have H := H1
    clear H1
    obtain rfl := Option.some.inj H
    go_wp2
    go_ret
    exact ⟨q_e, bq⟩
   ·replace c15 := Bool.eq_false_iff.mpr c15
    subst c15
    have H1 : (if a0_3 = 0 then (some 1) else (some 0)) = some r := by rw [if_neg (show ¬ (false = true) by decide)] at H; exact H
    clear H
    have H := H1
    clear H1
    by_cases c16 : a0_3 = 0
    ·rw [if_pos c16] at H
     have c16b0 : (a0_3 == 0) = true := beq_iff_eq.mpr c16
     have c16b1 : (a0_3 != 0) = false := bne_eq_false_iff_eq.mpr c16
     clear c16
     obtain rfl := Option.some.inj H
     obtain ⟨hcz17_0, hcz17_1, hcz17_2, hcz17_3, hfz17_0, hfz17_1, hfz17_2, hfz17_3⟩ := q_4 BK255.out
     go_wp2
     go_ret
     exact ⟨q_e, bq⟩
    ·rw [if_neg c16] at H
     have c16b0 : (a0_3 == 0) = false := beq_eq_false_iff_ne.mpr c16
     have c16b1 : (a0_3 != 0) = true := bne_iff_ne.mpr c16
     obtain rfl := Option.some.inj H
     obtain ⟨hcz18_0, hcz18_1, hcz18_2, hcz18_3, hfz18_0, hfz18_1, hfz18_2, hfz18_3⟩ := q_4 BK255.out
     go_wp2
     go_ret
     exact ⟨q_e, bq⟩

end Go.Proofs.Ytanegggacfmkcaa.PFnExactSettleOne
