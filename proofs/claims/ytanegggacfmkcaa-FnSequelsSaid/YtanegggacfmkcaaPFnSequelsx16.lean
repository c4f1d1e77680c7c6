/- Functions that a law reaches, as plain Lean functions, with the proof that the machine comes to their answers. No conditions. -/
import Derived.Test.YtanegggacfmkcaaPFnSequelsx0
import Derived.Test.YtanegggacfmkcaaPFnSequelsx3
import Derived.Test.YtanegggacfmkcaaPFnSequelsx15
namespace Go.Proofs.Ytanegggacfmkcaa.PFnSequels
open Go.RowKit Go.Proofs.YtanegggacfmkcaaW.PrintWords Go.Proofs.YtanegggacfmkcaaW.PrintLast Go.Proofs.YtanegggacfmkcaaW.PrintMore
attribute [local go_sem] max2_int min2_int max_two min_two max_three min_three max_four min_four   -- for this text's walks alone
set_option linter.unusedVariables false
set_option linter.unusedSimpArgs false
set_option maxHeartbeats 8000000
set_option maxRecDepth 100000

/-! ### spec_BalancesFault: function 34 -/
mutual
def spec_BalancesFault.l0 : Nat → List (S104) → Int → Option (Int)
  | 0, _, _ => none
  | k + 1, x0, x3 => if x3 < (x0.length : Int) then (if 0 ≤ x3 then ((spec_l2Key.f ((rd_T104 x0 x3).f0) ((rd_T104 x0 x3).f1)).bind fun t424 => (if t424 = true then ((spec_l1In.f ((rd_T104 x0 x3).f2) 1 1000000000000).bind fun t425 => (spec_BalancesFault.j1 k x0 x3 (!t425) ((rd_T104 x0 x3).f0) ((rd_T104 x0 x3).f1) ((rd_T104 x0 x3).f2))) else (spec_BalancesFault.j1 k x0 x3 true ((rd_T104 x0 x3).f0) ((rd_T104 x0 x3).f1) ((rd_T104 x0 x3).f2)))) else (none)) else (some 0)
def spec_BalancesFault.j1 : Nat → List (S104) → Int → Bool → Int → Int → Int → Option (Int)
  | 0, _, _, _, _, _, _ => none
  | k + 1, x0, x3, x29, x424000, x424001, x424002 => if x29 = true then (some 3) else (if x3 > 0 then (if 0 ≤ (wrap64 (x3 - 1)) then (if (wrap64 (x3 - 1)) < (x0.length : Int) then (if (wrap64 ((wrap64 (x424000 * 3)) + x424001)) ≤ (wrap64 ((wrap64 (((rd_T104 x0 (wrap64 (x3 - 1))).f0) * 3)) + ((rd_T104 x0 (wrap64 (x3 - 1))).f1))) then (some 1) else (spec_BalancesFault.l0 k x0 (wrap64 (x3 + 1)))) else (none)) else (none)) else (spec_BalancesFault.l0 k x0 (wrap64 (x3 + 1))))
end
def spec_BalancesFault.f (k : Nat) (l0 : List (S104)) : Option (Int) := if (l0.length : Int) > 18 then (some 2) else (spec_BalancesFault.l0 k l0 0)
theorem spec_BalancesFault.calls (k : Nat) (A0 : Option Addr) (c0 : Nat) (l0 : List (S104)) (r : Int) (w : World) (hr0 : Kd.C k104 w A0 l0.length l0) (hc0 : l0.length ≤ c0) (h : spec_BalancesFault.f k l0 = some r) :
  Calls Try.prog 34 #[.slice A0 l0.length c0] w fun e w' => e = .returned (.int .i64 r) ∧ Below w.heap.size w w' := by
 have hu104 := Try.underlying104; have HR0 := am hr0; have HC0 := am hc0; clear hr0 hc0; have HB := am (Below.refl w.heap.size w); have H : (if (l0.length : Int) > 18 then (some 2) else (spec_BalancesFault.l0 k l0 0)) = some r := h; clear h; by_cases c2 : (l0.length : Int) > 18
 ·rw [if_pos c2] at H; have c2b0 := decide_eq_true c2; have c2b1 : decide (18 < l0.length) = true := decide_eq_true (by omega); clear c2; obtain rfl := Option.some.inj H; go_enter Try.func34, Try.ntmps34; go_wp2; repeat (go_quiet (fail); try go_wp2)
  go_ret; exact ⟨q_e, bq⟩
 ·rw [if_neg c2] at H; have c2b0 := decide_eq_false c2; have c2b1 : decide (18 < l0.length) = false := decide_eq_false (by omega); clear c2; have H' := am H; clear H; go_enter Try.func34, Try.ntmps34; go_wp2; repeat (go_quiet (fail); try go_wp2)
  go_loopg [3] k (fun kq v3 w' => ∃ (x3_1 : Int), v3 = .int .i64 x3_1 ∧ Aside0 (spec_BalancesFault.l0 kq l0 x3_1 = some r) ∧ Aside0 (kq ≤ k) ∧ Aside0 (Below w.heap.size w w'))
  case atStart => exact ⟨(0), q_i, H', ⟨Nat.le_refl _⟩, ⟨bq⟩⟩
  case round =>
   clear H'; (try clear c2 c2b0 c2b1 p2); obtain ⟨x3_1, rfl, HA, HK1, HB⟩ := hrel
   cases gk with
   | zero => exact absurd HA.out (by simp [spec_BalancesFault.l0])
   | succ k1 =>
    have H := HA.out; clear HA; simp only [spec_BalancesFault.l0] at H; by_cases c3 : x3_1 < (l0.length : Int)
    ·rw [if_pos c3] at H; have c3b0 := decide_eq_true c3; clear c3; by_cases c4 : 0 ≤ x3_1
     ·rw [if_pos c4] at H; have c4b0 := decide_eq_true c4; clear c4; have HC5 := am H; clear H; have p422 : 0 ≤ (x3_1 : Int) := q_d; have q422 : x3_1 < (l0.length : Int) := q_d; obtain ⟨ad422, e422, hx422_0, hx422_1, hx422_2⟩ := at_T104 HR0.out x3_1 p422 q422; cases e422; replace hx422_0 := q_x HB.out hx422_0; replace hx422_1 := q_x HB.out hx422_1; replace hx422_2 := q_x HB.out hx422_2; replace p422 := eq_true p422; replace q422 := eq_true q422; go_upto_region 7 with (first | (refine q_bx 4 (cs := #[.int .i64 0, .int .i64 0, .int .i64 0]) (t := 104) ?_; intro gb423 hg w6 hbox hb; have n0_ := am (below_step bq hb); have n1_ := am (hbox); have n2_ := am ((q_g hg bq : w.heap.size ≤ gb423)); have n3_ := n2_; revert n0_ n1_ n2_ n3_; clear HB; intro HB BK423 GW423 GE423; clear hb hbox hg; obtain ⟨hcz7_0, hcz7_1, hcz7_2, hfz7_0, hfz7_1, hfz7_2⟩ := q_3 BK423.out))
      repeat (go_quiet (first | (refine q_bx 4 (cs := #[.int .i64 0, .int .i64 0, .int .i64 0]) (t := 104) ?_; intro gb423 hg w6 hbox hb; have n0_ := am (below_step bq hb); have n1_ := am (hbox); have n2_ := am ((q_g hg bq : w.heap.size ≤ gb423)); have n3_ := n2_; revert n0_ n1_ n2_ n3_; clear HB; intro HB BK423 GW423 GE423; clear hb hbox hg; obtain ⟨hcz7_0, hcz7_1, hcz7_2, hfz7_0, hfz7_1, hfz7_2⟩ := q_3 BK423.out)); go_upto_region 7 with (first | (refine q_bx 4 (cs := #[.int .i64 0, .int .i64 0, .int .i64 0]) (t := 104) ?_; intro gb423 hg w6 hbox hb; have n0_ := am (below_step bq hb); have n1_ := am (hbox); have n2_ := am ((q_g hg bq : w.heap.size ≤ gb423)); have n3_ := n2_; revert n0_ n1_ n2_ n3_; clear HB; intro HB BK423 GW423 GE423; clear hb hbox hg; obtain ⟨hcz7_0, hcz7_1, hcz7_2, hfz7_0, hfz7_1, hfz7_2⟩ := q_3 BK423.out)))
      (try simp only [Act.put, List.setIfInBounds_toArray, List.set_cons_zero, List.set_cons_succ]); go_cut [29] (fun v29 wc => ∃ (kq : Nat) (x29_4 : Bool), v29 = .bool x29_4 ∧ Aside0 (spec_BalancesFault.j1 kq l0 x3_1 x29_4 ((rd_T104 l0 x3_1).f0) ((rd_T104 l0 x3_1).f1) ((rd_T104 l0 x3_1).f2) = some r) ∧ Aside0 (kq ≤ k1) ∧ Aside0 (wc.heap[gb423]? = some (.cells #[.int .i64 ((rd_T104 l0 x3_1).f0), .int .i64 ((rd_T104 l0 x3_1).f1), .int .i64 ((rd_T104 l0 x3_1).f2)] 104 (0, 0))) ∧ Aside0 (Below w.heap.size w wc))
      case first =>
       have H := HC5.out; clear HC5; replace H := ob H; obtain ⟨t424, A80, H⟩ := H; replace H : (if t424 = true then ((spec_l1In.f ((rd_T104 l0 x3_1).f2) 1 1000000000000).bind fun t425 => (spec_BalancesFault.j1 k1 l0 x3_1 (!t425) ((rd_T104 l0 x3_1).f0) ((rd_T104 l0 x3_1).f1) ((rd_T104 l0 x3_1).f2))) else (spec_BalancesFault.j1 k1 l0 x3_1 true ((rd_T104 l0 x3_1).f0) ((rd_T104 l0 x3_1).f1) ((rd_T104 l0 x3_1).f2))) = some r := H; have A8 := am A80; clear A80; by_cases c9 : t424 = true
       ·subst c9; have H1 : ((spec_l1In.f ((rd_T104 l0 x3_1).f2) 1 1000000000000).bind fun t425 => (spec_BalancesFault.j1 k1 l0 x3_1 (!t425) ((rd_T104 l0 x3_1).f0) ((rd_T104 l0 x3_1).f1) ((rd_T104 l0 x3_1).f2))) = some r := by rw [if_pos rfl] at H; exact H
        clear H; have H := H1; clear H1; replace H := ob H; obtain ⟨t425, A100, H⟩ := H; replace H : (spec_BalancesFault.j1 k1 l0 x3_1 (!t425) ((rd_T104 l0 x3_1).f0) ((rd_T104 l0 x3_1).f1) ((rd_T104 l0 x3_1).f2)) = some r := H; have A10 := am A100; clear A100; have H' := am H; clear H; obtain ⟨hcz11_0, hcz11_1, hcz11_2, hfz11_0, hfz11_1, hfz11_2⟩ := q_3 BK423.out; go_wp2_with (first | (go_at_call 80; (with_reducible refine (spec_l2Key.calls ((rd_T104 l0 x3_1).f0) ((rd_T104 l0 x3_1).f1) true _ A8.out).mono ?_); rintro e w' ⟨rfl, ⟨nd, rfl⟩⟩; (try first | exact ⟨rfl, _, World.drewN_drewN _ _ _⟩ | exact ⟨rfl, _, Eq.trans (World.drewN_drewN _ _ _) (congrArg (World.drewN _) (Nat.add_assoc _ _ _))⟩)) | (go_at_call 81; (with_reducible refine (spec_l1In.calls ((rd_T104 l0 x3_1).f2) 1 1000000000000 t425 _ A10.out).mono ?_); rintro e w' ⟨rfl, ⟨nd, rfl⟩⟩; (try first | exact ⟨rfl, _, World.drewN_drewN _ _ _⟩ | exact ⟨rfl, _, Eq.trans (World.drewN_drewN _ _ _) (congrArg (World.drewN _) (Nat.add_assoc _ _ _))⟩))); repeat (go_quiet (first | (go_at_call 80; (with_reducible refine (spec_l2Key.calls ((rd_T104 l0 x3_1).f0) ((rd_T104 l0 x3_1).f1) true _ A8.out).mono ?_); rintro e w' ⟨rfl, ⟨nd, rfl⟩⟩; (try first | exact ⟨rfl, _, World.drewN_drewN _ _ _⟩ | exact ⟨rfl, _, Eq.trans (World.drewN_drewN _ _ _) (congrArg (World.drewN _) (Nat.add_assoc _ _ _))⟩)) | (go_at_call 81; (with_reducible refine (spec_l1In.calls ((rd_T104 l0 x3_1).f2) 1 1000000000000 t425 _ A10.out).mono ?_); rintro e w' ⟨rfl, ⟨nd, rfl⟩⟩; (try first | exact ⟨rfl, _, World.drewN_drewN _ _ _⟩ | exact ⟨rfl, _, Eq.trans (World.drewN_drewN _ _ _) (congrArg (World.drewN _) (Nat.add_assoc _ _ _))⟩))); try go_wp2_with (first | (go_at_call 80; (with_reducible refine (spec_l2Key.calls ((rd_T104 l0 x3_1).f0) ((rd_T104 l0 x3_1).f1) true _ A8.out).mono ?_); rintro e w' ⟨rfl, ⟨nd, rfl⟩⟩; (try first | exact ⟨rfl, _, World.drewN_drewN _ _ _⟩ | exact ⟨rfl, _, Eq.trans (World.drewN_drewN _ _ _) (congrArg (World.drewN _) (Nat.add_assoc _ _ _))⟩)) | (go_at_call 81; (with_reducible refine (spec_l1In.calls ((rd_T104 l0 x3_1).f2) 1 1000000000000 t425 _ A10.out).mono ?_); rintro e w' ⟨rfl, ⟨nd, rfl⟩⟩; (try first | exact ⟨rfl, _, World.drewN_drewN _ _ _⟩ | exact ⟨rfl, _, Eq.trans (World.drewN_drewN _ _ _) (congrArg (World.drewN _) (Nat.add_assoc _ _ _))⟩))))
        go_meet
        case rel => exact ⟨_, (!t425), q_i, H', ⟨by have := HK1.out; first | omega | exact Nat.le_refl _⟩, ⟨by (with_reducible repeat (first | refine blk_drewN ?_ _ | refine blk_drew ?_ | refine blk_alloc ?_ _)); refine blk_put (cs := #[.int .i64 ((rd_T104 l0 x3_1).f0), .int .i64 ((rd_T104 l0 x3_1).f1), .int .i64 0]) ?_ 2 _ rfl; (with_reducible repeat (first | refine blk_drewN ?_ _ | refine blk_drew ?_ | refine blk_alloc ?_ _)); refine blk_put (cs := #[.int .i64 ((rd_T104 l0 x3_1).f0), .int .i64 0, .int .i64 0]) ?_ 1 _ rfl; (with_reducible repeat (first | refine blk_drewN ?_ _ | refine blk_drew ?_ | refine blk_alloc ?_ _)); refine blk_put (cs := #[.int .i64 0, .int .i64 0, .int .i64 0]) ?_ 0 _ rfl; (with_reducible repeat (first | refine blk_drewN ?_ _ | refine blk_drew ?_ | refine blk_alloc ?_ _)); exact BK423.out⟩, ⟨bq⟩⟩
       ·replace c9 := Bool.eq_false_iff.mpr c9; subst c9; have H1 : (spec_BalancesFault.j1 k1 l0 x3_1 true ((rd_T104 l0 x3_1).f0) ((rd_T104 l0 x3_1).f1) ((rd_T104 l0 x3_1).f2)) = some r := by rw [if_neg (show ¬ (false = true) by decide)] at H; exact H
        clear H; have H := H1; clear H1; have H' := am H; clear H; obtain ⟨hcz12_0, hcz12_1, hcz12_2, hfz12_0, hfz12_1, hfz12_2⟩ := q_3 BK423.out; go_wp2_with (first | (go_at_call 80; (with_reducible refine (spec_l2Key.calls ((rd_T104 l0 x3_1).f0) ((rd_T104 l0 x3_1).f1) false _ A8.out).mono ?_); rintro e w' ⟨rfl, ⟨nd, rfl⟩⟩; (try first | exact ⟨rfl, _, World.drewN_drewN _ _ _⟩ | exact ⟨rfl, _, Eq.trans (World.drewN_drewN _ _ _) (congrArg (World.drewN _) (Nat.add_assoc _ _ _))⟩))); repeat (go_quiet (first | (go_at_call 80; (with_reducible refine (spec_l2Key.calls ((rd_T104 l0 x3_1).f0) ((rd_T104 l0 x3_1).f1) false _ A8.out).mono ?_); rintro e w' ⟨rfl, ⟨nd, rfl⟩⟩; (try first | exact ⟨rfl, _, World.drewN_drewN _ _ _⟩ | exact ⟨rfl, _, Eq.trans (World.drewN_drewN _ _ _) (congrArg (World.drewN _) (Nat.add_assoc _ _ _))⟩))); try go_wp2_with (first | (go_at_call 80; (with_reducible refine (spec_l2Key.calls ((rd_T104 l0 x3_1).f0) ((rd_T104 l0 x3_1).f1) false _ A8.out).mono ?_); rintro e w' ⟨rfl, ⟨nd, rfl⟩⟩; (try first | exact ⟨rfl, _, World.drewN_drewN _ _ _⟩ | exact ⟨rfl, _, Eq.trans (World.drewN_drewN _ _ _) (congrArg (World.drewN _) (Nat.add_assoc _ _ _))⟩))))
        go_meet
        case rel => exact ⟨_, (true), q_i, H', ⟨by have := HK1.out; first | omega | exact Nat.le_refl _⟩, ⟨by (with_reducible repeat (first | refine blk_drewN ?_ _ | refine blk_drew ?_ | refine blk_alloc ?_ _)); refine blk_put (cs := #[.int .i64 ((rd_T104 l0 x3_1).f0), .int .i64 ((rd_T104 l0 x3_1).f1), .int .i64 0]) ?_ 2 _ rfl; (with_reducible repeat (first | refine blk_drewN ?_ _ | refine blk_drew ?_ | refine blk_alloc ?_ _)); refine blk_put (cs := #[.int .i64 ((rd_T104 l0 x3_1).f0), .int .i64 0, .int .i64 0]) ?_ 1 _ rfl; (with_reducible repeat (first | refine blk_drewN ?_ _ | refine blk_drew ?_ | refine blk_alloc ?_ _)); refine blk_put (cs := #[.int .i64 0, .int .i64 0, .int .i64 0]) ?_ 0 _ rfl; (with_reducible repeat (first | refine blk_drewN ?_ _ | refine blk_drew ?_ | refine blk_alloc ?_ _)); exact BK423.out⟩, ⟨bq⟩⟩
      case rest =>
       clear HC5; (try clear c2 c2b0 c2b1 p2 c3 c3b0 c4 c4b0 p4 q4 hx4 c9); (try clear hcz11_0 hcz11_1 hcz11_2 hcz12_0 hcz12_1 hcz12_2 hcz7_0 hcz7_1 hcz7_2 hfz11_0); (try clear hfz11_1 hfz11_2 hfz12_0 hfz12_1 hfz12_2 hfz7_0 hfz7_1 hfz7_2 hx422_0 hx422_1); (try clear hx422_2 p2 p422 q422); obtain ⟨kq, x29_4, rfl, HA, HJ4, BK423, HB⟩ := hcut
       cases kq with
       | zero => exact absurd HA.out (by simp [spec_BalancesFault.j1])
       | succ kj4 =>
        have H := HA.out; clear HA; simp only [spec_BalancesFault.j1] at H; by_cases c13 : x29_4 = true
        ·subst c13; have H1 : (some 3) = some r := by rw [if_pos rfl] at H; exact H
         clear H; have H := H1; clear H1; obtain rfl := Option.some.inj H; go_wp2; repeat (go_quiet (fail); try go_wp2)
         go_ret; exact ⟨q_e, bq⟩
        ·replace c13 := Bool.eq_false_iff.mpr c13; subst c13; have H1 : (if x3_1 > 0 then (if 0 ≤ (wrap64 (x3_1 - 1)) then (if (wrap64 (x3_1 - 1)) < (l0.length : Int) then (if (wrap64 ((wrap64 (((rd_T104 l0 x3_1).f0) * 3)) + ((rd_T104 l0 x3_1).f1))) ≤ (wrap64 ((wrap64 (((rd_T104 l0 (wrap64 (x3_1 - 1))).f0) * 3)) + ((rd_T104 l0 (wrap64 (x3_1 - 1))).f1))) then (some 1) else (spec_BalancesFault.l0 kj4 l0 (wrap64 (x3_1 + 1)))) else (none)) else (none)) else (spec_BalancesFault.l0 kj4 l0 (wrap64 (x3_1 + 1)))) = some r := by rw [if_neg (show ¬ (false = true) by decide)] at H; exact H
         clear H; have H := H1; clear H1; by_cases c14 : x3_1 > 0
         ·rw [if_pos c14] at H; have c14b0 := decide_eq_true c14; clear c14; obtain ⟨ji15, hji15⟩ : ∃ j_ : Int, (wrap64 (x3_1 - 1)) = j_ := ⟨_, rfl⟩; replace H : (if 0 ≤ (ji15) then (if (ji15) < (l0.length : Int) then (if (wrap64 ((wrap64 (((rd_T104 l0 x3_1).f0) * 3)) + ((rd_T104 l0 x3_1).f1))) ≤ (wrap64 ((wrap64 (((rd_T104 l0 (ji15)).f0) * 3)) + ((rd_T104 l0 (ji15)).f1))) then (some 1) else (spec_BalancesFault.l0 kj4 l0 (wrap64 (x3_1 + 1)))) else (none)) else (none)) = some r := by first | (rw [hji15] at H; exact H) | (simp only [hji15] at H ⊢; exact H)
          have hji15w : (IntKind.i64.wrap (x3_1 - 1)) = ji15 := (i64_w _).trans hji15; by_cases c16 : 0 ≤ (ji15)
          ·rw [if_pos c16] at H; have c16b0 := decide_eq_true c16; clear c16; by_cases c17 : (ji15) < (l0.length : Int)
           ·rw [if_pos c17] at H; have c17b0 := decide_eq_true c17; clear c17; by_cases c18 : (wrap64 ((wrap64 (((rd_T104 l0 x3_1).f0) * 3)) + ((rd_T104 l0 x3_1).f1))) ≤ (wrap64 ((wrap64 (((rd_T104 l0 (ji15)).f0) * 3)) + ((rd_T104 l0 (ji15)).f1)))
            ·rw [if_pos c18] at H; have c18b0 := decide_eq_true c18; clear c18; obtain rfl := Option.some.inj H; obtain ⟨hcz19_0, hcz19_1, hcz19_2, hfz19_0, hfz19_1, hfz19_2⟩ := q_3 BK423.out; have p426 : 0 ≤ ((ji15) : Int) := q_d; have q426 : (ji15) < (l0.length : Int) := q_d; obtain ⟨ad426, e426, hx426_0, hx426_1, hx426_2⟩ := at_T104 HR0.out (ji15) p426 q426; obtain rfl : ad422 = ad426 := (by injection e426); replace hx426_0 := q_x HB.out hx426_0; replace hx426_1 := q_x HB.out hx426_1; replace hx426_2 := q_x HB.out hx426_2; replace p426 := eq_true p426; replace q426 := eq_true q426; have p427 : 0 ≤ ((ji15) : Int) := q_d; have q427 : (ji15) < (l0.length : Int) := q_d; obtain ⟨ad427, e427, hx427_0, hx427_1, hx427_2⟩ := at_T104 HR0.out (ji15) p427 q427; obtain rfl : ad422 = ad427 := (by injection e427); replace hx427_0 := q_x HB.out hx427_0; replace hx427_1 := q_x HB.out hx427_1; replace hx427_2 := q_x HB.out hx427_2; replace p427 := eq_true p427; replace q427 := eq_true q427; go_wp2; repeat (go_quiet (fail); try go_wp2)
             go_ret; exact ⟨by first | rfl | (simp [errW_none, errW_some] <;> rfl) | (simp only [← hji15]; first | rfl | (simp [errW_none, errW_some] <;> rfl)) | (simp [*, errW_none, errW_some] <;> rfl), bq⟩
            ·rw [if_neg c18] at H; have c18b0 := decide_eq_false c18; clear c18; have H' := am H; clear H; obtain ⟨hcz20_0, hcz20_1, hcz20_2, hfz20_0, hfz20_1, hfz20_2⟩ := q_3 BK423.out; have p426 : 0 ≤ ((ji15) : Int) := q_d; have q426 : (ji15) < (l0.length : Int) := q_d; obtain ⟨ad426, e426, hx426_0, hx426_1, hx426_2⟩ := at_T104 HR0.out (ji15) p426 q426; obtain rfl : ad422 = ad426 := (by injection e426); replace hx426_0 := q_x HB.out hx426_0; replace hx426_1 := q_x HB.out hx426_1; replace hx426_2 := q_x HB.out hx426_2; replace p426 := eq_true p426; replace q426 := eq_true q426; have p427 : 0 ≤ ((ji15) : Int) := q_d; have q427 : (ji15) < (l0.length : Int) := q_d; obtain ⟨ad427, e427, hx427_0, hx427_1, hx427_2⟩ := at_T104 HR0.out (ji15) p427 q427; obtain rfl : ad422 = ad427 := (by injection e427); replace hx427_0 := q_x HB.out hx427_0; replace hx427_1 := q_x HB.out hx427_1; replace hx427_2 := q_x HB.out hx427_2; replace p427 := eq_true p427; replace q427 := eq_true q427; go_wp2; repeat (go_quiet (fail); try go_wp2)
             go_roundg kj4
             case measure => have := HK1.out; have := HJ4.out; omega
             case rel => exact ⟨(wrap64 (x3_1 + 1)), q_i, H', ⟨by have := HK1.out; have := HJ4.out; omega⟩, ⟨bq⟩⟩
           ·rw [if_neg c17] at H; exact absurd H (by simp)
          ·rw [if_neg c16] at H; exact absurd H (by simp)
         ·rw [if_neg c14] at H; have c14b0 := decide_eq_false c14; clear c14; have H' := am H; clear H; go_wp2; repeat (go_quiet (fail); try go_wp2)
          go_roundg kj4
          case measure => have := HK1.out; have := HJ4.out; omega
          case rel => exact ⟨(wrap64 (x3_1 + 1)), q_i, H', ⟨by have := HK1.out; have := HJ4.out; omega⟩, ⟨bq⟩⟩
     ·rw [if_neg c4] at H; exact absurd H (by simp)
    ·rw [if_neg c3] at H; have c3b0 := decide_eq_false c3; clear c3; obtain rfl := Option.some.inj H; go_wp2; repeat (go_quiet (fail); try go_wp2)
     go_ret; exact ⟨q_e, bq⟩

/-! ### spec_LedgerFault: function 46 -/
mutual
def spec_LedgerFault.j0 : Nat → Bool → List (List (S104)) → Option (Int)
  | 0, _, _ => none
  | k + 1, x14, x429000 => if x14 = true then (some 2) else (spec_LedgerFault.l0 k 0 x429000)
def spec_LedgerFault.l0 : Nat → Int → List (List (S104)) → Option (Int)
  | 0, _, _ => none
  | k + 1, x3, x429000 => if x3 < (x429000.length : Int) then (if 0 ≤ x3 then ((spec_BalancesFault.f k (rd_L3 x429000 x3)).bind fun t430 => (if t430 = 0 then (spec_LedgerFault.l0 k (wrap64 (x3 + 1)) x429000) else (some t430))) else (none)) else (some 0)
end
def spec_LedgerFault.f (k : Nat) (l0_0 : List (List (S104))) : Option (Int) := if (l0_0.length : Int) < 1 then (spec_LedgerFault.j0 k true l0_0) else (spec_LedgerFault.j0 k (decide ((l0_0.length : Int) > 3)) l0_0)
theorem spec_LedgerFault.calls (k : Nat) (A0_0 : Option Addr) (c0_0 : Nat) (l0_0 : List (List (S104))) (r : Int) (w : World) (hr0_0 : Kd.C (Kd.slice 104 k104) w A0_0 l0_0.length l0_0) (hc0_0 : l0_0.length ≤ c0_0) (h : spec_LedgerFault.f k l0_0 = some r) :
  Calls Try.prog 46 #[.agg #[.slice A0_0 l0_0.length c0_0]] w fun e w' => e = .returned (.int .i64 r) ∧ Below w.heap.size w w' := by
 have hu26 := Try.underlying26; have HR0_0 := am hr0_0; have HC0_0 := am hc0_0; clear hr0_0 hc0_0; have HB := am (Below.refl w.heap.size w); have H : (if (l0_0.length : Int) < 1 then (spec_LedgerFault.j0 k true l0_0) else (spec_LedgerFault.j0 k (decide ((l0_0.length : Int) > 3)) l0_0)) = some r := h; clear h; have HC2 := am H; clear H; go_enter Try.func46, Try.ntmps46; go_upto_region 1 with (first | ((with_reducible refine gate_dst (N := 1) rfl ?_); (try (refine gate_guard (by rfl) ?_; dsimp only)); refine q_box (N := 1) (cs := #[.slice A0_0 l0_0.length c0_0]) (t := 26) ?_; intro gb428 hg w3 hbox hb; have n0_ := am (below_step bq hb); have n1_ := am (hbox); have n2_ := am ((q_g hg bq : w.heap.size ≤ gb428)); have n3_ := n2_; revert n0_ n1_ n2_ n3_; clear HB; intro HB BK428 GW428 GE428; clear hb hbox hg))
 (try simp only [Act.put, List.setIfInBounds_toArray, List.set_cons_zero, List.set_cons_succ]); go_cut [14] (fun v14 wc => ∃ (kq : Nat) (x14_1 : Bool), v14 = .bool x14_1 ∧ Aside0 (spec_LedgerFault.j0 kq x14_1 l0_0 = some r) ∧ Aside0 (kq ≤ k) ∧ Aside0 (wc.heap[gb428]? = some (.cells #[(.slice A0_0 l0_0.length c0_0)] 26 (0, 0))) ∧ Aside0 (Below w.heap.size w wc))
 case first =>
  have H := HC2.out; clear HC2; by_cases c4 : (l0_0.length : Int) < 1
  ·rw [if_pos c4] at H; have c4b0 := decide_eq_true c4; have c4b1 : decide (l0_0.length < 1) = true := decide_eq_true (by omega); clear c4; (first | rw [c4b0] | (simp only [i64_w, i32_w]; rw [c4b0]) | skip); have H' := am H; clear H; obtain ⟨hcz5_0, hfz5_0⟩ := q_1 BK428.out; go_wp2; go_meet
   case rel => exact ⟨_, (true), q_i, H', ⟨by first | omega | exact Nat.le_refl _⟩, ⟨q_b BK428.out⟩, ⟨bq⟩⟩
  ·rw [if_neg c4] at H; have c4b0 := decide_eq_false c4; have c4b1 : decide (l0_0.length < 1) = false := decide_eq_false (by omega); clear c4; (first | rw [c4b0] | (simp only [i64_w, i32_w]; rw [c4b0]) | skip); have H' := am H; clear H; obtain ⟨hcz6_0, hfz6_0⟩ := q_1 BK428.out; go_wp2; go_meet
   case rel => exact ⟨_, (decide ((l0_0.length : Int) > 3)), q_i, H', ⟨by first | omega | exact Nat.le_refl _⟩, ⟨q_b BK428.out⟩, ⟨bq⟩⟩
 case rest =>
  clear HC2; (try clear p2 c4 c4b0 c4b1 hcz5_0 hcz6_0 hfz5_0 hfz6_0); obtain ⟨kq, x14_1, rfl, HA, HJ1, BK428, HB⟩ := hcut
  cases kq with
  | zero => exact absurd HA.out (by simp [spec_LedgerFault.j0])
  | succ kj1 =>
   have H := HA.out; clear HA; simp only [spec_LedgerFault.j0] at H; by_cases c7 : x14_1 = true
   ·subst c7; have H1 : (some 2) = some r := by rw [if_pos rfl] at H; exact H
    clear H; have H := H1; clear H1; obtain rfl := Option.some.inj H; go_wp2; go_ret; exact ⟨q_e, bq⟩
   ·replace c7 := Bool.eq_false_iff.mpr c7; subst c7; have H1 : (spec_LedgerFault.l0 kj1 0 l0_0) = some r := by rw [if_neg (show ¬ (false = true) by decide)] at H; exact H
    clear H; have H := H1; clear H1; have H' := am H; clear H; go_wp2; go_loopg [3] kj1 (fun kq v3 w' => ∃ (x3_2 : Int), v3 = .int .i64 x3_2 ∧ Aside0 (spec_LedgerFault.l0 kq x3_2 l0_0 = some r) ∧ Aside0 (kq ≤ kj1) ∧ Aside0 (w'.heap[gb428]? = some (.cells #[(.slice A0_0 l0_0.length c0_0)] 26 (0, 0))) ∧ Aside0 (Below w.heap.size w w'))
    case atStart => exact ⟨(0), q_i, H', ⟨Nat.le_refl _⟩, ⟨q_b BK428.out⟩, ⟨bq⟩⟩
    case round =>
     clear H'; (try clear p2 c4 c4b0 c4b1 c7 hcz5_0 hcz6_0 hfz5_0 hfz6_0 p2); obtain ⟨x3_2, rfl, HA, HK2, BK428, HB⟩ := hrel
     cases gk with
     | zero => exact absurd HA.out (by simp [spec_LedgerFault.l0])
     | succ k2 =>
      have H := HA.out; clear HA; simp only [spec_LedgerFault.l0] at H; by_cases c8 : x3_2 < (l0_0.length : Int)
      ·rw [if_pos c8] at H; have c8b0 := decide_eq_true c8; clear c8; by_cases c9 : 0 ≤ x3_2
       ·rw [if_pos c9] at H; have c9b0 := decide_eq_true c9; clear c9; replace H := ob H; obtain ⟨t430, A100, H⟩ := H; replace H : (if t430 = 0 then (spec_LedgerFault.l0 k2 (wrap64 (x3_2 + 1)) l0_0) else (some t430)) = some r := H; have A10 := am A100; clear A100; by_cases c11 : t430 = 0
        ·rw [if_pos c11] at H; have c11b0 : (t430 == 0) = true := beq_iff_eq.mpr c11; have c11b1 : (t430 != 0) = false := bne_eq_false_iff_eq.mpr c11; clear c11; have H' := am H; clear H; obtain ⟨hcz12_0, hfz12_0⟩ := q_1 BK428.out; have p429 : 0 ≤ (x3_2 : Int) := q_d; have q429 : x3_2 < (l0_0.length : Int) := q_d; obtain ⟨ad429, A429_0, c429_0, e429, hx429_0, hl429_0, hi429_0⟩ := at_L3 HR0_0.out x3_2 p429 q429; cases e429; replace hx429_0 := q_x HB.out hx429_0; have HR429_0 := am hi429_0; have HC429_0 := am hl429_0; clear hi429_0 hl429_0; replace p429 := eq_true p429; replace q429 := eq_true q429; go_wp2_with (first | (refine q_go 34 (some 27) Try.func34 #[.slice A429_0 (rd_L3 l0_0 x3_2).length c429_0] ?_; (with_reducible refine (spec_BalancesFault.calls k2 _ _ (rd_L3 l0_0 x3_2) t430 _ ?side1 ?side2 A10.out).mono ?_); (case side1 => exact q_c ((Kd.C_below HR429_0.out HB.out))); (case side2 => exact HC429_0.out); rintro e w13 ⟨rfl, hb⟩; refine ⟨_, rfl, ?_⟩; have n0_ := am (blk_below (q_b BK428.out) hb); have n1_ := am (below_step bq hb); revert n0_ n1_; clear BK428 HB; intro BK428 HB; (try clear hb))); go_roundg k2
         case measure => have := HJ1.out; have := HK2.out; omega
         case rel => exact ⟨(wrap64 (x3_2 + 1)), q_i, H', ⟨by have := HJ1.out; have := HK2.out; omega⟩, ⟨q_b BK428.out⟩, ⟨bq⟩⟩
        ·rw [if_neg c11] at H; have c11b0 : (t430 == 0) = false := beq_eq_false_iff_ne.mpr c11; have c11b1 : (t430 != 0) = true := bne_iff_ne.mpr c11; obtain rfl := Option.some.inj H; obtain ⟨hcz14_0, hfz14_0⟩ := q_1 BK428.out; have p429 : 0 ≤ (x3_2 : Int) := q_d; have q429 : x3_2 < (l0_0.length : Int) := q_d; obtain ⟨ad429, A429_0, c429_0, e429, hx429_0, hl429_0, hi429_0⟩ := at_L3 HR0_0.out x3_2 p429 q429; cases e429; replace hx429_0 := q_x HB.out hx429_0; have HR429_0 := am hi429_0; have HC429_0 := am hl429_0; clear hi429_0 hl429_0; replace p429 := eq_true p429; replace q429 := eq_true q429; go_wp2_with (first | (refine q_go 34 (some 27) Try.func34 #[.slice A429_0 (rd_L3 l0_0 x3_2).length c429_0] ?_; (with_reducible refine (spec_BalancesFault.calls k2 _ _ (rd_L3 l0_0 x3_2) t430 _ ?side1 ?side2 A10.out).mono ?_); (case side1 => exact q_c ((Kd.C_below HR429_0.out HB.out))); (case side2 => exact HC429_0.out); rintro e w15 ⟨rfl, hb⟩; refine ⟨_, rfl, ?_⟩; have n0_ := am (blk_below (q_b BK428.out) hb); have n1_ := am (below_step bq hb); revert n0_ n1_; clear BK428 HB; intro BK428 HB; (try clear hb))); go_ret; exact ⟨q_e, bq⟩
       ·rw [if_neg c9] at H; exact absurd H (by simp)
      ·rw [if_neg c8] at H; have c8b0 := decide_eq_false c8; clear c8; obtain rfl := Option.some.inj H; obtain ⟨hcz16_0, hfz16_0⟩ := q_1 BK428.out; go_wp2; go_ret; exact ⟨q_e, bq⟩

/-! ### spec_l2Has: function 89 -/
def spec_l2Has.l0 : Nat → List (S104) → Int → Int → Int → Option (Int)
  | 0, _, _, _, _ => none
  | k + 1, x0, x1, x2, x7 => if x7 < (x0.length : Int) then (if 0 ≤ x7 then (if ((rd_T104 x0 x7).f0) = x1 then (if ((rd_T104 x0 x7).f1) = x2 then (some ((rd_T104 x0 x7).f2)) else (spec_l2Has.l0 k x0 x1 x2 (wrap64 (x7 + 1)))) else (spec_l2Has.l0 k x0 x1 x2 (wrap64 (x7 + 1)))) else (none)) else (some 0)
def spec_l2Has.f (k : Nat) (l0 : List (S104)) (a1 : Int) (a2 : Int) : Option (Int) := spec_l2Has.l0 k l0 a1 a2 0
theorem spec_l2Has.calls (k : Nat) (A0 : Option Addr) (c0 : Nat) (l0 : List (S104)) (a1 : Int) (a2 : Int) (r : Int) (w : World) (hr0 : Kd.C k104 w A0 l0.length l0) (hc0 : l0.length ≤ c0) (h : spec_l2Has.f k l0 a1 a2 = some r) :
  Calls Try.prog 89 #[.slice A0 l0.length c0, .int .i64 a1, .int .i64 a2] w fun e w' => e = .returned (.int .i64 r) ∧ Drawn0 w w' := by
 have HR0 := am hr0; have HC0 := am hc0; clear hr0 hc0; have H : (spec_l2Has.l0 k l0 a1 a2 0) = some r := h; clear h; have H' := am H; clear H; go_enter Try.func89, Try.ntmps89; go_wp2; go_loopg [7] k (fun kq v7 w' => ∃ (x7_1 : Int), v7 = .int .i64 x7_1 ∧ Aside0 (spec_l2Has.l0 kq l0 a1 a2 x7_1 = some r) ∧ Aside0 (kq ≤ k) ∧ Drawn0 w w')
 case atStart => exact ⟨(0), q_i, H', ⟨Nat.le_refl _⟩, q_0⟩
 case round =>
  clear H'; (try clear p2); obtain ⟨x7_1, rfl, HA, HK1, ⟨m1, rfl⟩⟩ := hrel
  cases gk with
  | zero => exact absurd HA.out (by simp [spec_l2Has.l0])
  | succ k1 =>
   have H := HA.out; clear HA; simp only [spec_l2Has.l0] at H; by_cases c4 : x7_1 < (l0.length : Int)
   ·rw [if_pos c4] at H; have c4b0 := decide_eq_true c4; clear c4; by_cases c5 : 0 ≤ x7_1
    ·rw [if_pos c5] at H; have c5b0 := decide_eq_true c5; clear c5; by_cases c6 : ((rd_T104 l0 x7_1).f0) = a1
     ·rw [if_pos c6] at H; have c6b0 : (((rd_T104 l0 x7_1).f0) == a1) = true := beq_iff_eq.mpr c6; have c6b1 : (((rd_T104 l0 x7_1).f0) != a1) = false := bne_eq_false_iff_eq.mpr c6; clear c6; by_cases c7 : ((rd_T104 l0 x7_1).f1) = a2
      ·rw [if_pos c7] at H; have c7b0 : (((rd_T104 l0 x7_1).f1) == a2) = true := beq_iff_eq.mpr c7; have c7b1 : (((rd_T104 l0 x7_1).f1) != a2) = false := bne_eq_false_iff_eq.mpr c7; clear c7; obtain rfl := Option.some.inj H; have p431 : 0 ≤ (x7_1 : Int) := q_d; have q431 : x7_1 < (l0.length : Int) := q_d; obtain ⟨ad431, e431, hx431_0, hx431_1, hx431_2⟩ := at_T104 HR0.out x7_1 p431 q431; cases e431; replace p431 := eq_true p431; replace q431 := eq_true q431; have p432 : 0 ≤ (x7_1 : Int) := q_d; have q432 : x7_1 < (l0.length : Int) := q_d; obtain ⟨ad432, e432, hx432_0, hx432_1, hx432_2⟩ := at_T104 HR0.out x7_1 p432 q432; obtain rfl : ad431 = ad432 := (by injection e432); replace p432 := eq_true p432; replace q432 := eq_true q432; have p433 : 0 ≤ (x7_1 : Int) := q_d; have q433 : x7_1 < (l0.length : Int) := q_d; obtain ⟨ad433, e433, hx433_0, hx433_1, hx433_2⟩ := at_T104 HR0.out x7_1 p433 q433; obtain rfl : ad431 = ad433 := (by injection e433); replace p433 := eq_true p433; replace q433 := eq_true q433; go_wp2; go_ret; exact ⟨by first | rfl | (simp; done) | (simp [*]; done), q_0⟩
      ·rw [if_neg c7] at H; have c7b0 : (((rd_T104 l0 x7_1).f1) == a2) = false := beq_eq_false_iff_ne.mpr c7; have c7b1 : (((rd_T104 l0 x7_1).f1) != a2) = true := bne_iff_ne.mpr c7; have H' := am H; clear H; have p431 : 0 ≤ (x7_1 : Int) := q_d; have q431 : x7_1 < (l0.length : Int) := q_d; obtain ⟨ad431, e431, hx431_0, hx431_1, hx431_2⟩ := at_T104 HR0.out x7_1 p431 q431; cases e431; replace p431 := eq_true p431; replace q431 := eq_true q431; have p432 : 0 ≤ (x7_1 : Int) := q_d; have q432 : x7_1 < (l0.length : Int) := q_d; obtain ⟨ad432, e432, hx432_0, hx432_1, hx432_2⟩ := at_T104 HR0.out x7_1 p432 q432; obtain rfl : ad431 = ad432 := (by injection e432); replace p432 := eq_true p432; replace q432 := eq_true q432; go_wp2; go_roundg k1
       case measure => have := HK1.out; omega
       case rel => exact ⟨(wrap64 (x7_1 + 1)), q_i, H', ⟨by have := HK1.out; omega⟩, q_0⟩
     ·rw [if_neg c6] at H; have c6b0 : (((rd_T104 l0 x7_1).f0) == a1) = false := beq_eq_false_iff_ne.mpr c6; have c6b1 : (((rd_T104 l0 x7_1).f0) != a1) = true := bne_iff_ne.mpr c6; have H' := am H; clear H; have p431 : 0 ≤ (x7_1 : Int) := q_d; have q431 : x7_1 < (l0.length : Int) := q_d; obtain ⟨ad431, e431, hx431_0, hx431_1, hx431_2⟩ := at_T104 HR0.out x7_1 p431 q431; cases e431; replace p431 := eq_true p431; replace q431 := eq_true q431; go_wp2; go_roundg k1
      case measure => have := HK1.out; omega
      case rel => exact ⟨(wrap64 (x7_1 + 1)), q_i, H', ⟨by have := HK1.out; omega⟩, q_0⟩
    ·rw [if_neg c5] at H; exact absurd H (by simp)
   ·rw [if_neg c4] at H; have c4b0 := decide_eq_false c4; clear c4; obtain rfl := Option.some.inj H; go_wp2; go_ret; exact ⟨by first | rfl | (simp; done) | (simp [*]; done), q_0⟩

end Go.Proofs.Ytanegggacfmkcaa.PFnSequels
