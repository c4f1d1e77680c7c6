/- Functions that a law reaches, as plain Lean functions, with the proof that the machine comes to their answers. No conditions. -/
import Derived.Test.YtanegggacfmkcaaPFnExactSettleAllx0
import Derived.Test.YtanegggacfmkcaaPFnExactSettleAllx1
namespace Go.Proofs.Ytanegggacfmkcaa.PFnExactSettleAll
open Go.RowKit Go.Proofs.YtanegggacfmkcaaW.PrintWords Go.Proofs.YtanegggacfmkcaaW.PrintLast Go.Proofs.YtanegggacfmkcaaW.PrintMore
attribute [local go_sem] max2_int min2_int max_two min_two max_three min_three max_four min_four   -- for this text's walks alone
set_option linter.unusedVariables false
set_option linter.unusedSimpArgs false
set_option maxHeartbeats 8000000
set_option maxRecDepth 100000

/-! ### impl_BalancesFault: function 36 -/
mutual
def impl_BalancesFault.l0 : Nat → List (S104) → List (S104) → Int → Int → Option (Int)
  | 0, _, _, _, _ => none
  | k + 1, x0, x8, x9, x10 => if x10 < x9 then (if 0 ≤ x10 then (if x10 < (x8.length : Int) then ((impl_isPlace.f ((rd_T104 x8 x10).f0) ((rd_T104 x8 x10).f1)).bind fun t117 => (if t117 = true then ((impl_within.f ((rd_T104 x8 x10).f2) 1 1000000000000).bind fun t118 => (impl_BalancesFault.j1 k x0 x10 x8 x9 x10 (!t118) ((rd_T104 x8 x10).f0) ((rd_T104 x8 x10).f1) ((rd_T104 x8 x10).f2))) else (impl_BalancesFault.j1 k x0 x10 x8 x9 x10 true ((rd_T104 x8 x10).f0) ((rd_T104 x8 x10).f1) ((rd_T104 x8 x10).f2)))) else (none)) else (none)) else (some 0)
def impl_BalancesFault.j1 : Nat → List (S104) → Int → List (S104) → Int → Int → Bool → Int → Int → Int → Option (Int)
  | 0, _, _, _, _, _, _, _, _, _ => none
  | k + 1, x0, x3, x8, x9, x10, x15, x117000, x117001, x117002 => if x15 = true then (some 3) else (if x3 > 0 then (if 0 ≤ (wrap64 (x3 - 1)) then (if (wrap64 (x3 - 1)) < (x0.length : Int) then ((impl_comparePlaces.f k ((rd_T104 x0 (wrap64 (x3 - 1))).f0) ((rd_T104 x0 (wrap64 (x3 - 1))).f1) ((rd_T104 x0 (wrap64 (x3 - 1))).f2) x117000 x117001 x117002).bind fun t120 => (if t120 ≥ 0 then (some 1) else (impl_BalancesFault.l0 k x0 x8 x9 (wrap64 (x10 + 1))))) else (none)) else (none)) else (impl_BalancesFault.l0 k x0 x8 x9 (wrap64 (x10 + 1))))
end
def impl_BalancesFault.f (k : Nat) (l0 : List (S104)) : Option (Int) := if (l0.length : Int) > 18 then (some 2) else (impl_BalancesFault.l0 k l0 l0 (l0.length : Int) 0)
def impl_BalancesFault.T8 : Bool × List (List Nat × List Nat) := (true, [([], []), ([0], [0]), ([1], [1]), ([2], [2]), ([2], [2]), ([4, 2], [2, 4]), ([3, 5, 2], [2, 3, 5]), ([6, 2], [2, 6]), ([2], [2]), ([7, 8, 2, 2], [2, 7, 8]), ([9, 2], [2, 9]), ([2, 10], [2, 10]), ([11, 9], [11])])
def impl_BalancesFault.B8 : List Nat := [0, 1, 3, 7, 7, 23, 63, 127, 7, 511, 1023, 2047, 4095]
theorem impl_BalancesFault.tab8 : rtab .any (opsOf Try.f36 8) = impl_BalancesFault.T8 := by kernel_rfl
theorem impl_BalancesFault.bits8 : waitsOk impl_BalancesFault.T8.2 impl_BalancesFault.B8 = true := by kernel_rfl
theorem impl_BalancesFault.calls (k : Nat) (A0 : Option Addr) (c0 : Nat) (l0 : List (S104)) (r : Int) (w : World) (hr0 : Kd.C k104 w A0 l0.length l0) (hc0 : l0.length ≤ c0) (h : impl_BalancesFault.f k l0 = some r) :
  Calls Try.prog 36 #[.slice A0 l0.length c0] w fun e w' => e = .returned (.int .i64 r) ∧ Below w.heap.size w w' := by
 have hu104 := Try.underlying104
 have HR0 := am hr0
 have HC0 := am hc0
 clear hr0 hc0
 have HB := am (Below.refl w.heap.size w)
 have H : (if (l0.length : Int) > 18 then (some 2) else (impl_BalancesFault.l0 k l0 l0 (l0.length : Int) 0)) = some r := h
 clear h
 by_cases c2 : (l0.length : Int) > 18
 ·rw [if_pos c2] at H
  have c2b0 := decide_eq_true c2
  have c2b1 : decide (18 < l0.length) = true := decide_eq_true (by omega)
  clear c2
  obtain rfl := Option.some.inj H
  go_enter Try.func36, Try.ntmps36
  go_wp2
  go_ret
  exact ⟨q_e, bq⟩
 ·rw [if_neg c2] at H
  have c2b0 := decide_eq_false c2
  have c2b1 : decide (18 < l0.length) = false := decide_eq_false (by omega)
  clear c2
  have H' := am H
  clear H
  go_enter Try.func36, Try.ntmps36
  go_wp2
  go_loopg [10] k (fun kq v10 w' => ∃ (x10_1 : Int), v10 = .int .i64 x10_1 ∧ Aside0 (impl_BalancesFault.l0 kq l0 l0 (l0.length : Int) x10_1 = some r) ∧ Aside0 (kq ≤ k) ∧ Aside0 (Below w.heap.size w w'))
  case atStart => exact ⟨(0), q_i, H', ⟨Nat.le_refl _⟩, ⟨bq⟩⟩
  case round =>
   clear H'
   (try clear c2); (try clear c2b0); (try clear c2b1); (try clear p2)
   obtain ⟨x10_1, rfl, HA, HK1, HB⟩ := hrel
   cases gk with
   | zero => exact absurd HA.out (by simp [impl_BalancesFault.l0])
   | succ k1 =>
    have H := HA.out
    clear HA
    simp only [impl_BalancesFault.l0] at H
    by_cases c3 : x10_1 < (l0.length : Int)
    ·rw [if_pos c3] at H
     have c3b0 := decide_eq_true c3
     clear c3
     by_cases c4 : 0 ≤ x10_1
     ·rw [if_pos c4] at H
      have c4b0 := decide_eq_true c4
      clear c4
      by_cases c5 : x10_1 < (l0.length : Int)
      ·rw [if_pos c5] at H
       have c5b0 := decide_eq_true c5
       clear c5
       have HC6 := am H
       clear H
       have p115 : 0 ≤ (x10_1 : Int) := q_d
       have q115 : x10_1 < (l0.length : Int) := q_d
       obtain ⟨ad115, e115, hx115_0, hx115_1, hx115_2⟩ := at_T104 HR0.out x10_1 p115 q115
       cases e115
       replace hx115_0 := q_x HB.out hx115_0
       replace hx115_1 := q_x HB.out hx115_1
       replace hx115_2 := q_x HB.out hx115_2
       replace p115 := eq_true p115
       replace q115 := eq_true q115
       go_upto_region 6 with (first | ((with_reducible refine gate_dst (N := 4) rfl ?_); refine q_box (N := 4) (cs := #[.int .i64 0, .int .i64 0, .int .i64 0]) (t := 104) ?_; intro gb116 hg w7 hbox hb; have n0_ := am (below_step bq hb); have n1_ := am (hbox); have n2_ := am ((q_g hg bq : w.heap.size ≤ gb116)); have n3_ := n2_; revert n0_ n1_ n2_ n3_; clear HB; intro HB BK116 GW116 GE116; clear hb hbox hg; obtain ⟨hcz8_0, hcz8_1, hcz8_2, hfz8_0, hfz8_1, hfz8_2⟩ := q_3 BK116.out))
       (try simp only [Act.put, List.setIfInBounds_toArray, List.set_cons_zero, List.set_cons_succ])
       go_cut [15] (fun v15 wc => ∃ (kq : Nat) (x15_5 : Bool), v15 = .bool x15_5 ∧ Aside0 (impl_BalancesFault.j1 kq l0 x10_1 l0 (l0.length : Int) x10_1 x15_5 ((rd_T104 l0 x10_1).f0) ((rd_T104 l0 x10_1).f1) ((rd_T104 l0 x10_1).f2) = some r) ∧ Aside0 (kq ≤ k1) ∧ Aside0 (wc.heap[gb116]? = some (.cells #[.int .i64 ((rd_T104 l0 x10_1).f0), .int .i64 ((rd_T104 l0 x10_1).f1), .int .i64 ((rd_T104 l0 x10_1).f2)] 104 (0, 0))) ∧ Aside0 (Below w.heap.size w wc))
       case first =>
        have H := HC6.out
        clear HC6
        replace H := ob H
        obtain ⟨t117, A90, H⟩ := H
        replace H : (if t117 = true then ((impl_within.f ((rd_T104 l0 x10_1).f2) 1 1000000000000).bind fun t118 => (impl_BalancesFault.j1 k1 l0 x10_1 l0 (l0.length : Int) x10_1 (!t118) ((rd_T104 l0 x10_1).f0) ((rd_T104 l0 x10_1).f1) ((rd_T104 l0 x10_1).f2))) else (impl_BalancesFault.j1 k1 l0 x10_1 l0 (l0.length : Int) x10_1 true ((rd_T104 l0 x10_1).f0) ((rd_T104 l0 x10_1).f1) ((rd_T104 l0 x10_1).f2))) = some r := H
        have A9 := am A90
        clear A90
        by_cases c10 : t117 = true
        ·subst c10
         have H1 : ((impl_within.f ((rd_T104 l0 x10_1).f2) 1 1000000000000).bind fun t118 => (impl_BalancesFault.j1 k1 l0 x10_1 l0 (l0.length : Int) x10_1 (!t118) ((rd_T104 l0 x10_1).f0) ((rd_T104 l0 x10_1).f1) ((rd_T104 l0 x10_1).f2))) = some r := by rw [if_pos rfl] at H; exact H
         clear H
         have H := H1
         clear H1
         replace H := ob H
         obtain ⟨t118, A110, H⟩ := H
         replace H : (impl_BalancesFault.j1 k1 l0 x10_1 l0 (l0.length : Int) x10_1 (!t118) ((rd_T104 l0 x10_1).f0) ((rd_T104 l0 x10_1).f1) ((rd_T104 l0 x10_1).f2)) = some r := H
         have A11 := am A110
         clear A110
         have H' := am H
         clear H
         obtain ⟨hcz12_0, hcz12_1, hcz12_2, hfz12_0, hfz12_1, hfz12_2⟩ := q_3 BK116.out
         go_wp2_with (first | ((with_reducible refine gate_callee (f := 83) rfl ?_); refine goesLq (some 20) rfl rfl Try.func83 (by kernel_rfl) rfl #[.int .i64 ((rd_T104 l0 x10_1).f0), .int .i64 ((rd_T104 l0 x10_1).f1)] rfl ?_; (with_reducible refine (impl_isPlace.calls ((rd_T104 l0 x10_1).f0) ((rd_T104 l0 x10_1).f1) true _ A9.out).mono ?_); rintro e w' ⟨rfl, ⟨nd, rfl⟩⟩; refine ⟨_, rfl, ?_⟩) | (go_at_call 65; (with_reducible refine (impl_within.calls ((rd_T104 l0 x10_1).f2) 1 1000000000000 t118 _ A11.out).mono ?_); rintro e w' ⟨rfl, ⟨nd, rfl⟩⟩))
         go_meet
         case rel => exact ⟨_, (!t118), q_i, H', ⟨by have := HK1.out; first | omega | exact Nat.le_refl _⟩, ⟨by (with_reducible repeat (first | refine blk_drewN ?_ _ | refine blk_drew ?_ | refine blk_alloc ?_ _)); refine blk_put (cs := #[.int .i64 ((rd_T104 l0 x10_1).f0), .int .i64 ((rd_T104 l0 x10_1).f1), .int .i64 0]) ?_ 2 _ rfl; (with_reducible repeat (first | refine blk_drewN ?_ _ | refine blk_drew ?_ | refine blk_alloc ?_ _)); refine blk_put (cs := #[.int .i64 ((rd_T104 l0 x10_1).f0), .int .i64 0, .int .i64 0]) ?_ 1 _ rfl; (with_reducible repeat (first | refine blk_drewN ?_ _ | refine blk_drew ?_ | refine blk_alloc ?_ _)); refine blk_put (cs := #[.int .i64 0, .int .i64 0, .int .i64 0]) ?_ 0 _ rfl; (with_reducible repeat (first | refine blk_drewN ?_ _ | refine blk_drew ?_ | refine blk_alloc ?_ _)); exact BK116.out⟩, ⟨bq⟩⟩
        ·replace c10 := Bool.eq_false_iff.mpr c10
         subst c10
         have H1 : (impl_BalancesFault.j1 k1 l0 x10_1 l0 (l0.length : Int) x10_1 true ((rd_T104 l0 x10_1).f0) ((rd_T104 l0 x10_1).f1) ((rd_T104 l0 x10_1).f2)) = some r := by rw [if_neg (show ¬ (false = true) by decide)] at H; exact H
         clear H
         have H := H1
         clear H1
         have H' := am H
         clear H
         obtain ⟨hcz13_0, hcz13_1, hcz13_2, hfz13_0, hfz13_1, hfz13_2⟩ := q_3 BK116.out
         go_wp2_with (first | ((with_reducible refine gate_callee (f := 83) rfl ?_); refine goesLq (some 20) rfl rfl Try.func83 (by kernel_rfl) rfl #[.int .i64 ((rd_T104 l0 x10_1).f0), .int .i64 ((rd_T104 l0 x10_1).f1)] rfl ?_; (with_reducible refine (impl_isPlace.calls ((rd_T104 l0 x10_1).f0) ((rd_T104 l0 x10_1).f1) false _ A9.out).mono ?_); rintro e w' ⟨rfl, ⟨nd, rfl⟩⟩; refine ⟨_, rfl, ?_⟩))
         go_meet
         case rel => exact ⟨_, (true), q_i, H', ⟨by have := HK1.out; first | omega | exact Nat.le_refl _⟩, ⟨by (with_reducible repeat (first | refine blk_drewN ?_ _ | refine blk_drew ?_ | refine blk_alloc ?_ _)); refine blk_put (cs := #[.int .i64 ((rd_T104 l0 x10_1).f0), .int .i64 ((rd_T104 l0 x10_1).f1), .int .i64 0]) ?_ 2 _ rfl; (with_reducible repeat (first | refine blk_drewN ?_ _ | refine blk_drew ?_ | refine blk_alloc ?_ _)); refine blk_put (cs := #[.int .i64 ((rd_T104 l0 x10_1).f0), .int .i64 0, .int .i64 0]) ?_ 1 _ rfl; (with_reducible repeat (first | refine blk_drewN ?_ _ | refine blk_drew ?_ | refine blk_alloc ?_ _)); refine blk_put (cs := #[.int .i64 0, .int .i64 0, .int .i64 0]) ?_ 0 _ rfl; (with_reducible repeat (first | refine blk_drewN ?_ _ | refine blk_drew ?_ | refine blk_alloc ?_ _)); exact BK116.out⟩, ⟨bq⟩⟩
       case rest =>
        clear HC6
        (try clear c1); (try clear p1); (try clear q1); (try clear hx1); (try clear c2); (try clear c2b0); (try clear c2b1); (try clear p2); (try clear c3); (try clear c3b0); (try clear c4); (try clear c4b0)
        (try clear c5); (try clear c5b0); (try clear c8); (try clear c10); (try clear p11); (try clear q11); (try clear hx11); (try clear hcz12_0); (try clear hcz12_1); (try clear hcz12_2); (try clear hcz13_0)
        (try clear hcz13_1); (try clear hcz13_2); (try clear hcz8_0); (try clear hcz8_1); (try clear hcz8_2); (try clear hfz12_0); (try clear hfz12_1); (try clear hfz12_2); (try clear hfz13_0); (try clear hfz13_1)
        (try clear hfz13_2); (try clear hfz8_0); (try clear hfz8_1); (try clear hfz8_2); (try clear hx115_0); (try clear hx115_1); (try clear hx115_2); (try clear p115); (try clear p2); (try clear q115)
        obtain ⟨kq, x15_5, rfl, HA, HJ5, BK116, HB⟩ := hcut
        cases kq with
        | zero => exact absurd HA.out (by simp [impl_BalancesFault.j1])
        | succ kj5 =>
         have H := HA.out
         clear HA
         simp only [impl_BalancesFault.j1] at H
         by_cases c14 : x15_5 = true
         ·subst c14
          have H1 : (some 3) = some r := by rw [if_pos rfl] at H; exact H
          clear H
          have H := H1
          clear H1
          obtain rfl := Option.some.inj H
          go_wp2
          go_ret
          exact ⟨q_e, bq⟩
         ·replace c14 := Bool.eq_false_iff.mpr c14
          subst c14
          have H1 : (if x10_1 > 0 then (if 0 ≤ (wrap64 (x10_1 - 1)) then (if (wrap64 (x10_1 - 1)) < (l0.length : Int) then ((impl_comparePlaces.f kj5 ((rd_T104 l0 (wrap64 (x10_1 - 1))).f0) ((rd_T104 l0 (wrap64 (x10_1 - 1))).f1) ((rd_T104 l0 (wrap64 (x10_1 - 1))).f2) ((rd_T104 l0 x10_1).f0) ((rd_T104 l0 x10_1).f1) ((rd_T104 l0 x10_1).f2)).bind fun t120 => (if t120 ≥ 0 then (some 1) else (impl_BalancesFault.l0 kj5 l0 l0 (l0.length : Int) (wrap64 (x10_1 + 1))))) else (none)) else (none)) else (impl_BalancesFault.l0 kj5 l0 l0 (l0.length : Int) (wrap64 (x10_1 + 1)))) = some r := by rw [if_neg (show ¬ (false = true) by decide)] at H; exact H
          clear H
          have H := H1
          clear H1
          by_cases c15 : x10_1 > 0
          ·rw [if_pos c15] at H
           have c15b0 := decide_eq_true c15
           clear c15
           obtain ⟨ji16, hji16⟩ : ∃ j_ : Int, (wrap64 (x10_1 - 1)) = j_ := ⟨_, rfl⟩
           replace H : (if 0 ≤ (ji16) then (if (ji16) < (l0.length : Int) then ((impl_comparePlaces.f kj5 ((rd_T104 l0 (ji16)).f0) ((rd_T104 l0 (ji16)).f1) ((rd_T104 l0 (ji16)).f2) ((rd_T104 l0 x10_1).f0) ((rd_T104 l0 x10_1).f1) ((rd_T104 l0 x10_1).f2)).bind fun t120 => (if t120 ≥ 0 then (some 1) else (impl_BalancesFault.l0 kj5 l0 l0 (l0.length : Int) (wrap64 (x10_1 + 1))))) else (none)) else (none)) = some r := by first | (rw [hji16] at H; exact H) | (simp only [hji16] at H ⊢; exact H)
           have hji16w : (IntKind.i64.wrap (x10_1 - 1)) = ji16 := (i64_w _).trans hji16
           by_cases c17 : 0 ≤ (ji16)
           ·rw [if_pos c17] at H
            have c17b0 := decide_eq_true c17
            clear c17
            by_cases c18 : (ji16) < (l0.length : Int)
            ·rw [if_pos c18] at H
             have c18b0 := decide_eq_true c18
             clear c18
             replace H := ob H
             obtain ⟨t120, A190, H⟩ := H
             replace H : (if t120 ≥ 0 then (some 1) else (impl_BalancesFault.l0 kj5 l0 l0 (l0.length : Int) (wrap64 (x10_1 + 1)))) = some r := H
             have A19 := am A190
             clear A190
             by_cases c20 : t120 ≥ 0
             ·rw [if_pos c20] at H
              have c20b0 := decide_eq_true c20
              clear c20
              obtain rfl := Option.some.inj H
              try go_wp2
              have n0_ := am (blk_drew BK116.out)
              have n1_ := am (below_drew1 HB.out)
              clear BK116
              clear HB
              have BK116 := n0_
              have HB := n1_
              clear n0_ n1_
              have p119 : 0 ≤ ((ji16) : Int) := q_d
              have q119 : (ji16) < (l0.length : Int) := q_d
              obtain ⟨ad119, e119, hx119_0, hx119_1, hx119_2⟩ := at_T104 HR0.out (ji16) p119 q119
              have hw119_2 := hx119_2
              have hw119_1 := hx119_1
              have hw119_0 := hx119_0
              obtain rfl : ad115 = ad119 := (by injection e119)
              replace hx119_0 := q_x HB.out hx119_0
              replace hx119_1 := q_x HB.out hx119_1
              replace hx119_2 := q_x HB.out hx119_2
              replace p119 := eq_true p119
              replace q119 := eq_true q119
              refine start_ (n := 13) (S := fun w' => w'.cell? ⟨gb116, 0, none⟩ = some (.int .i64 ((rd_T104 l0 x10_1).f0)) ∧ w'.cell? ⟨gb116, 1, none⟩ = some (.int .i64 ((rd_T104 l0 x10_1).f1)) ∧ w'.cell? ⟨gb116, 2, none⟩ = some (.int .i64 ((rd_T104 l0 x10_1).f2)) ∧ w'.cell? (ad115.add (((ji16)).toNat * 3)) = some (.int .i64 ((rd_T104 l0 (ji16)).f0)) ∧ w'.cell? ⟨(ad115.add (((ji16)).toNat * 3)).block, (ad115.add (((ji16)).toNat * 3)).off + 1, none⟩ = some (.int .i64 ((rd_T104 l0 (ji16)).f1)) ∧ w'.cell? ⟨(ad115.add (((ji16)).toNat * 3)).block, (ad115.add (((ji16)).toNat * 3)).off + 2, none⟩ = some (.int .i64 ((rd_T104 l0 (ji16)).f2))) (ds := []) #[false, false, false, false, false, false, false, false, false, false, false, false, false] (by kernel_rfl) rfl rfl ⟨q_z BK116.out 0, q_z BK116.out 1, q_z BK116.out 2, ((HB.out.cell (wb hw119_0)).trans hw119_0), ((HB.out.cell (wb hw119_1)).trans hw119_1), ((HB.out.cell (wb hw119_2)).trans hw119_2)⟩ (fun hHeld => ?_); refine with_tabW impl_BalancesFault.tab8 impl_BalancesFault.bits8 (fun HT_ HW_ => ?_)
              generalize wc.drew = w21 at BK116 HB hx119_0 hx119_1 hx119_2 hHeld ⊢
              refine q_p 0 (some 29) #[true, false, false, false, false, false, false, false, false, false, false, false, false] HT_.out ?_
              refine q_p 1 (some 30) #[true, true, false, false, false, false, false, false, false, false, false, false, false] HT_.out ?_
              refine q_p 2 (some 31) #[true, true, true, false, false, false, false, false, false, false, false, false, false] HT_.out ?_
              refine q_p 3 (some 32) #[true, true, true, true, false, false, false, false, false, false, false, false, false] HT_.out ?_
              refine q_p 4 (some 33) #[true, true, true, true, true, false, false, false, false, false, false, false, false] HT_.out ?_
              refine q_p 5 (some 34) #[true, true, true, true, true, true, false, false, false, false, false, false, false] HT_.out ?_
              refine q_p 6 (some 35) #[true, true, true, true, true, true, true, false, false, false, false, false, false] HT_.out ?_
              refine q_t 7 (some 36) #[true, true, true, true, true, true, true, true, false, false, false, false, false] HT_.out HW_.out hHeld ?_
              refine q_t 8 (some 37) #[true, true, true, true, true, true, true, true, true, false, false, false, false] HT_.out HW_.out hHeld ?_
              refine one_ (i := 9) (N := some 38) #[true, true, true, true, true, true, true, true, true, true, false, false, false] rfl rfl (one_of HT_.out (by kernel_rfl)) (by decide) (fun K hK => ?_)
              refine goes_ Try.func84 (by kernel_rfl) rfl #[.agg #[.int .i64 ((rd_T104 l0 (ji16)).f0), .int .i64 ((rd_T104 l0 (ji16)).f1), .int .i64 ((rd_T104 l0 (ji16)).f2)], .agg #[.int .i64 ((rd_T104 l0 x10_1).f0), .int .i64 ((rd_T104 l0 x10_1).f1), .int .i64 ((rd_T104 l0 x10_1).f2)]] (by rfl) rfl rfl (by (try simp only [List.map_toArray, List.map_cons, List.map_nil]); first | done | (simp only [hji16]; rfl) | rfl | (simp only [List.length_drop, List.length_take]; rfl)) ?_
              with_reducible refine (impl_comparePlaces.calls kj5 ((rd_T104 l0 (ji16)).f0) ((rd_T104 l0 (ji16)).f1) ((rd_T104 l0 (ji16)).f2) ((rd_T104 l0 x10_1).f0) ((rd_T104 l0 x10_1).f1) ((rd_T104 l0 x10_1).f2) t120 _ A19.out).mono ?_
              rintro e w22 ⟨rfl, hb⟩
              refine ⟨_, rfl, ?_⟩
              have n0_ := am (blk_below (q_b BK116.out) hb)
              have n1_ := am (below_step bq hb)
              clear BK116
              clear HB
              have BK116 := n0_
              have HB := n1_
              clear n0_ n1_
              (try clear hb)
              (try clear hb2)
              (try clear hk)
              (try clear hi)
              refine hK.out _ _ ⟨q_z BK116.out 0, q_z BK116.out 1, q_z BK116.out 2, ((HB.out.cell (wb hw119_0)).trans hw119_0), ((HB.out.cell (wb hw119_1)).trans hw119_1), ((HB.out.cell (wb hw119_2)).trans hw119_2)⟩ (fun hHeld => ?_)
              clear hK K
              refine norm_ (a' := ?_) ?_ ?_
              rotate_left
              ·show Act.put _ (some 38) _ = _
               simp only [Act.put, List.setIfInBounds_toArray, List.set_cons_zero, List.set_cons_succ, i64_w, i32_w]
               rfl
              refine q_p 10 (some 39) #[true, true, true, true, true, true, true, true, true, true, true, false, false] HT_.out ?_
              refine q_p 11 (some 40) #[true, true, true, true, true, true, true, true, true, true, true, true, false] HT_.out ?_
              refine q_p 12 (some 28) #[true, true, true, true, true, true, true, true, true, true, true, true, true] HT_.out ?_
              refine done_ (done_of HT_.out (by kernel_rfl)) ?_
              try go_wp2
              go_ret
              exact ⟨by first | rfl | (simp [errW_none, errW_some] <;> rfl) | (simp only [← hji16]; first | rfl | (simp [errW_none, errW_some] <;> rfl)) | (simp [*, errW_none, errW_some] <;> rfl), bq⟩
             ·rw [if_neg c20] at H
              have c20b0 := decide_eq_false c20
              clear c20
              have H' := am H
              clear H
              try go_wp2
              have n0_ := am (blk_drew BK116.out)
              have n1_ := am (below_drew1 HB.out)
              clear BK116
              clear HB
              have BK116 := n0_
              have HB := n1_
              clear n0_ n1_
              have p119 : 0 ≤ ((ji16) : Int) := q_d
              have q119 : (ji16) < (l0.length : Int) := q_d
              obtain ⟨ad119, e119, hx119_0, hx119_1, hx119_2⟩ := at_T104 HR0.out (ji16) p119 q119
              have hw119_2 := hx119_2
              have hw119_1 := hx119_1
              have hw119_0 := hx119_0
              obtain rfl : ad115 = ad119 := (by injection e119)
              replace hx119_0 := q_x HB.out hx119_0
              replace hx119_1 := q_x HB.out hx119_1
              replace hx119_2 := q_x HB.out hx119_2
              replace p119 := eq_true p119
              replace q119 := eq_true q119
              refine start_ (n := 13) (S := fun w' => w'.cell? ⟨gb116, 0, none⟩ = some (.int .i64 ((rd_T104 l0 x10_1).f0)) ∧ w'.cell? ⟨gb116, 1, none⟩ = some (.int .i64 ((rd_T104 l0 x10_1).f1)) ∧ w'.cell? ⟨gb116, 2, none⟩ = some (.int .i64 ((rd_T104 l0 x10_1).f2)) ∧ w'.cell? (ad115.add (((ji16)).toNat * 3)) = some (.int .i64 ((rd_T104 l0 (ji16)).f0)) ∧ w'.cell? ⟨(ad115.add (((ji16)).toNat * 3)).block, (ad115.add (((ji16)).toNat * 3)).off + 1, none⟩ = some (.int .i64 ((rd_T104 l0 (ji16)).f1)) ∧ w'.cell? ⟨(ad115.add (((ji16)).toNat * 3)).block, (ad115.add (((ji16)).toNat * 3)).off + 2, none⟩ = some (.int .i64 ((rd_T104 l0 (ji16)).f2))) (ds := []) #[false, false, false, false, false, false, false, false, false, false, false, false, false] (by kernel_rfl) rfl rfl ⟨q_z BK116.out 0, q_z BK116.out 1, q_z BK116.out 2, ((HB.out.cell (wb hw119_0)).trans hw119_0), ((HB.out.cell (wb hw119_1)).trans hw119_1), ((HB.out.cell (wb hw119_2)).trans hw119_2)⟩ (fun hHeld => ?_); refine with_tabW impl_BalancesFault.tab8 impl_BalancesFault.bits8 (fun HT_ HW_ => ?_)
              generalize wc.drew = w23 at BK116 HB hx119_0 hx119_1 hx119_2 hHeld ⊢
              refine q_p 0 (some 29) #[true, false, false, false, false, false, false, false, false, false, false, false, false] HT_.out ?_
              refine q_p 1 (some 30) #[true, true, false, false, false, false, false, false, false, false, false, false, false] HT_.out ?_
              refine q_p 2 (some 31) #[true, true, true, false, false, false, false, false, false, false, false, false, false] HT_.out ?_
              refine q_p 3 (some 32) #[true, true, true, true, false, false, false, false, false, false, false, false, false] HT_.out ?_
              refine q_p 4 (some 33) #[true, true, true, true, true, false, false, false, false, false, false, false, false] HT_.out ?_
              refine q_p 5 (some 34) #[true, true, true, true, true, true, false, false, false, false, false, false, false] HT_.out ?_
              refine q_p 6 (some 35) #[true, true, true, true, true, true, true, false, false, false, false, false, false] HT_.out ?_
              refine q_t 7 (some 36) #[true, true, true, true, true, true, true, true, false, false, false, false, false] HT_.out HW_.out hHeld ?_
              refine q_t 8 (some 37) #[true, true, true, true, true, true, true, true, true, false, false, false, false] HT_.out HW_.out hHeld ?_
              refine one_ (i := 9) (N := some 38) #[true, true, true, true, true, true, true, true, true, true, false, false, false] rfl rfl (one_of HT_.out (by kernel_rfl)) (by decide) (fun K hK => ?_)
              refine goes_ Try.func84 (by kernel_rfl) rfl #[.agg #[.int .i64 ((rd_T104 l0 (ji16)).f0), .int .i64 ((rd_T104 l0 (ji16)).f1), .int .i64 ((rd_T104 l0 (ji16)).f2)], .agg #[.int .i64 ((rd_T104 l0 x10_1).f0), .int .i64 ((rd_T104 l0 x10_1).f1), .int .i64 ((rd_T104 l0 x10_1).f2)]] (by rfl) rfl rfl (by (try simp only [List.map_toArray, List.map_cons, List.map_nil]); first | done | (simp only [hji16]; rfl) | rfl | (simp only [List.length_drop, List.length_take]; rfl)) ?_
              with_reducible refine (impl_comparePlaces.calls kj5 ((rd_T104 l0 (ji16)).f0) ((rd_T104 l0 (ji16)).f1) ((rd_T104 l0 (ji16)).f2) ((rd_T104 l0 x10_1).f0) ((rd_T104 l0 x10_1).f1) ((rd_T104 l0 x10_1).f2) t120 _ A19.out).mono ?_
              rintro e w24 ⟨rfl, hb⟩
              refine ⟨_, rfl, ?_⟩
              have n0_ := am (blk_below (q_b BK116.out) hb)
              have n1_ := am (below_step bq hb)
              clear BK116
              clear HB
              have BK116 := n0_
              have HB := n1_
              clear n0_ n1_
              (try clear hb)
              (try clear hb2)
              (try clear hk)
              (try clear hi)
              refine hK.out _ _ ⟨q_z BK116.out 0, q_z BK116.out 1, q_z BK116.out 2, ((HB.out.cell (wb hw119_0)).trans hw119_0), ((HB.out.cell (wb hw119_1)).trans hw119_1), ((HB.out.cell (wb hw119_2)).trans hw119_2)⟩ (fun hHeld => ?_)
              clear hK K
              refine norm_ (a' := ?_) ?_ ?_
              rotate_left
              ·show Act.put _ (some 38) _ = _
               simp only [Act.put, List.setIfInBounds_toArray, List.set_cons_zero, List.set_cons_succ, i64_w, i32_w]
               rfl
              refine q_p 10 (some 39) #[true, true, true, true, true, true, true, true, true, true, true, false, false] HT_.out ?_
              refine q_p 11 (some 40) #[true, true, true, true, true, true, true, true, true, true, true, true, false] HT_.out ?_
              refine q_p 12 (some 28) #[true, true, true, true, true, true, true, true, true, true, true, true, true] HT_.out ?_
              refine done_ (done_of HT_.out (by kernel_rfl)) ?_
              try go_wp2
              go_roundg kj5
              case measure => have := HK1.out; have := HJ5.out; omega
              case rel => exact ⟨(wrap64 (x10_1 + 1)), q_i, H', ⟨by have := HK1.out; have := HJ5.out; omega⟩, ⟨bq⟩⟩
            ·rw [if_neg c18] at H
             exact absurd H (by simp)
           ·rw [if_neg c17] at H
            exact absurd H (by simp)
          ·rw [if_neg c15] at H
           have c15b0 := decide_eq_false c15
           clear c15
           have H' := am H
           clear H
           try go_wp2
           have n0_ := am (blk_drew BK116.out)
           have n1_ := am (below_drew1 HB.out)
           clear BK116
           clear HB
           have BK116 := n0_
           have HB := n1_
           clear n0_ n1_
           refine start_ (n := 13) (S := fun w' => True) (ds := []) #[false, false, false, false, false, false, false, false, false, false, false, false, false] (by kernel_rfl) rfl rfl trivial (fun hHeld => ?_); refine with_tabW impl_BalancesFault.tab8 impl_BalancesFault.bits8 (fun HT_ HW_ => ?_)
           generalize wc.drew = w25 at BK116 HB hHeld ⊢
           refine q_p 0 (some 29) #[true, false, false, false, false, false, false, false, false, false, false, false, false] HT_.out ?_
           refine q_p 1 (some 30) #[true, true, false, false, false, false, false, false, false, false, false, false, false] HT_.out ?_
           refine q_p 2 (some 31) #[true, true, true, false, false, false, false, false, false, false, false, false, false] HT_.out ?_
           refine pure_ (i := 3) (N := some 32) (v := undef) (a' := ?_) #[true, true, true, true, false, false, false, false, false, false, false, false, false] rfl rfl (any_of HT_.out (by kernel_rfl)) (fun _ _ _ h => h) (Or.inr ⟨by rfl, rfl⟩) ?_ ?_
           rotate_left
           ·simp only [Act.put, List.setIfInBounds_toArray, List.set_cons_zero, List.set_cons_succ, i64_w, i32_w]
            rfl
           refine pure_ (i := 4) (N := some 33) (v := undef) (a' := ?_) #[true, true, true, true, true, false, false, false, false, false, false, false, false] rfl rfl (any_of HT_.out (by kernel_rfl)) (fun _ _ _ h => h) (Or.inr ⟨by rfl, rfl⟩) ?_ ?_
           rotate_left
           ·simp only [Act.put, List.setIfInBounds_toArray, List.set_cons_zero, List.set_cons_succ, i64_w, i32_w]
            rfl
           refine pure_ (i := 5) (N := some 34) (v := undef) (a' := ?_) #[true, true, true, true, true, true, false, false, false, false, false, false, false] rfl rfl (any_of HT_.out (by kernel_rfl)) (fun _ _ _ h => h) (Or.inr ⟨by rfl, rfl⟩) ?_ ?_
           rotate_left
           ·simp only [Act.put, List.setIfInBounds_toArray, List.set_cons_zero, List.set_cons_succ, i64_w, i32_w]
            rfl
           refine pure_ (i := 6) (N := some 35) (v := undef) (a' := ?_) #[true, true, true, true, true, true, true, false, false, false, false, false, false] rfl rfl (any_of HT_.out (by kernel_rfl)) (fun _ _ _ h => h) (Or.inr ⟨by rfl, rfl⟩) ?_ ?_
           rotate_left
           ·simp only [Act.put, List.setIfInBounds_toArray, List.set_cons_zero, List.set_cons_succ, i64_w, i32_w]
            rfl
           refine pure_ (i := 7) (N := some 36) (v := undef) (a' := ?_) #[true, true, true, true, true, true, true, true, false, false, false, false, false] rfl rfl (any_of HT_.out (by kernel_rfl)) (fun _ _ _ h => h) (Or.inr ⟨by rfl, rfl⟩) ?_ ?_
           rotate_left
           ·simp only [Act.put, List.setIfInBounds_toArray, List.set_cons_zero, List.set_cons_succ, i64_w, i32_w]
            rfl
           refine pure_ (i := 8) (N := some 37) (v := undef) (a' := ?_) #[true, true, true, true, true, true, true, true, true, false, false, false, false] rfl rfl (any_of HT_.out (by kernel_rfl)) (fun _ _ _ h => h) (Or.inr ⟨by rfl, rfl⟩) ?_ ?_
           rotate_left
           ·simp only [Act.put, List.setIfInBounds_toArray, List.set_cons_zero, List.set_cons_succ, i64_w, i32_w]
            rfl
           refine pure_ (i := 9) (N := some 38) (v := undef) (a' := ?_) #[true, true, true, true, true, true, true, true, true, true, false, false, false] rfl rfl (any_of HT_.out (by kernel_rfl)) (fun _ _ _ h => h) (Or.inr ⟨by rfl, rfl⟩) ?_ ?_
           rotate_left
           ·simp only [Act.put, List.setIfInBounds_toArray, List.set_cons_zero, List.set_cons_succ, i64_w, i32_w]
            rfl
           refine pure_ (i := 10) (N := some 39) (v := undef) (a' := ?_) #[true, true, true, true, true, true, true, true, true, true, true, false, false] rfl rfl (any_of HT_.out (by kernel_rfl)) (fun _ _ _ h => h) (Or.inr ⟨by rfl, rfl⟩) ?_ ?_
           rotate_left
           ·simp only [Act.put, List.setIfInBounds_toArray, List.set_cons_zero, List.set_cons_succ, i64_w, i32_w]
            rfl
           refine q_p 11 (some 40) #[true, true, true, true, true, true, true, true, true, true, true, true, false] HT_.out ?_
           refine q_p 12 (some 28) #[true, true, true, true, true, true, true, true, true, true, true, true, true] HT_.out ?_
           refine done_ (done_of HT_.out (by kernel_rfl)) ?_
           try go_wp2
           go_roundg kj5
           case measure => have := HK1.out; have := HJ5.out; omega
           case rel => exact ⟨(wrap64 (x10_1 + 1)), q_i, H', ⟨by have := HK1.out; have := HJ5.out; omega⟩, ⟨bq⟩⟩
      ·rw [if_neg c5] at H
       exact absurd H (by simp)
     ·rw [if_neg c4] at H
      exact absurd H (by simp)
    ·rw [if_neg c3] at H
     have c3b0 := decide_eq_false c3
     clear c3
     obtain rfl := Option.some.inj H
     go_wp2
     go_ret
     exact ⟨q_e, bq⟩

/-! ### impl_size_impl_Balance: function 66 -/
def impl_size_impl_Balance.f (l0 : List (List (S104))) : Option (Int) := some (l0.length : Int)
theorem impl_size_impl_Balance.calls (A0 : Option Addr) (c0 : Nat) (l0 : List (List (S104))) (r : Int) (w : World) (hr0 : Kd.C (Kd.slice 104 k104) w A0 l0.length l0) (hc0 : l0.length ≤ c0) (h : impl_size_impl_Balance.f l0 = some r) :
  Calls Try.prog 66 #[.slice A0 l0.length c0] w fun e w' => e = .returned (.int .i64 r) ∧ Drawn0 w w' := by
 have HR0 := am hr0
 have HC0 := am hc0
 clear hr0 hc0
 have H : (some (l0.length : Int)) = some r := h
 clear h
 obtain rfl := Option.some.inj H
 go_enter Try.func66, Try.ntmps66
 go_wp2
 go_ret
 exact ⟨by first | rfl | (simp; done) | (simp [*]; done), q_0⟩

/-! ### impl_LedgerFault: function 17 -/
def impl_LedgerFault.l0 : Nat → List (List (S104)) → Int → Int → Option (Int)
  | 0, _, _, _ => none
  | k + 1, x12, x13, x14 => if x14 < x13 then (if 0 ≤ x14 then (if x14 < (x12.length : Int) then ((impl_BalancesFault.f k (rd_L2 x12 x14)).bind fun t125 => (if t125 = 0 then (impl_LedgerFault.l0 k x12 x13 (wrap64 (x14 + 1))) else (some t125))) else (none)) else (none)) else (some 0)
def impl_LedgerFault.f (k : Nat) (l0_0 : List (List (S104))) : Option (Int) := (impl_size_impl_Balance.f l0_0).bind fun t122 => ((impl_within.f t122 1 3).bind fun t123 => (if t123 = true then (impl_LedgerFault.l0 k l0_0 (l0_0.length : Int) 0) else (some 2)))
theorem impl_LedgerFault.calls (k : Nat) (A0_0 : Option Addr) (c0_0 : Nat) (l0_0 : List (List (S104))) (r : Int) (w : World) (hr0_0 : Kd.C (Kd.slice 104 k104) w A0_0 l0_0.length l0_0) (hc0_0 : l0_0.length ≤ c0_0) (h : impl_LedgerFault.f k l0_0 = some r) :
  Calls Try.prog 17 #[.agg #[.slice A0_0 l0_0.length c0_0]] w fun e w' => e = .returned (.int .i64 r) ∧ Below w.heap.size w w' := by
 have hu26 := Try.underlying26
 have HR0_0 := am hr0_0
 have HC0_0 := am hc0_0
 clear hr0_0 hc0_0
 have HB := am (Below.refl w.heap.size w)
 have H : ((impl_size_impl_Balance.f l0_0).bind fun t122 => ((impl_within.f t122 1 3).bind fun t123 => (if t123 = true then (impl_LedgerFault.l0 k l0_0 (l0_0.length : Int) 0) else (some 2)))) = some r := h
 clear h
 replace H := ob H
 obtain ⟨t122, A20, H⟩ := H
 replace H : ((impl_within.f t122 1 3).bind fun t123 => (if t123 = true then (impl_LedgerFault.l0 k l0_0 (l0_0.length : Int) 0) else (some 2))) = some r := H
 have A2 := am A20
 clear A20
 replace H := ob H
 obtain ⟨t123, A30, H⟩ := H
 replace H : (if t123 = true then (impl_LedgerFault.l0 k l0_0 (l0_0.length : Int) 0) else (some 2)) = some r := H
 have A3 := am A30
 clear A30
 by_cases c4 : t123 = true
 ·subst c4
  have H1 : (impl_LedgerFault.l0 k l0_0 (l0_0.length : Int) 0) = some r := by rw [if_pos rfl] at H; exact H
  clear H
  have H := H1
  clear H1
  have H' := am H
  clear H
  go_enter Try.func17, Try.ntmps17
  go_wp2_with (first | ((with_reducible refine gate_dst (N := 1) rfl ?_); refine q_box (N := 1) (cs := #[.slice A0_0 l0_0.length c0_0]) (t := 26) ?_; intro gb121 hg w5 hbox hb; have n0_ := am (below_step bq hb); have n1_ := am (hbox); have n2_ := am ((q_g hg bq : w.heap.size ≤ gb121)); have n3_ := n2_; revert n0_ n1_ n2_ n3_; clear HB; intro HB BK121 GW121 GE121; clear hb hbox hg; obtain ⟨hcz6_0, hfz6_0⟩ := q_1 BK121.out) | ((with_reducible refine gate_callee (f := 66) rfl ?_); refine goesLq (some 8) rfl rfl Try.func66 (by kernel_rfl) rfl #[.slice A0_0 l0_0.length c0_0] rfl ?_; (with_reducible refine (impl_size_impl_Balance.calls _ _ l0_0 t122 _ ?side1 ?side2 A2.out).mono ?_); (case side1 => exact q_c ((Kd.C_below HR0_0.out HB.out))); (case side2 => exact HC0_0.out); rintro e w' ⟨rfl, ⟨nd, rfl⟩⟩; refine ⟨_, rfl, ?_⟩) | ((with_reducible refine gate_callee (f := 65) rfl ?_); refine goesLq (some 9) rfl rfl Try.func65 (by kernel_rfl) rfl #[.int .i64 t122, .int .i64 1, .int .i64 3] rfl ?_; (with_reducible refine (impl_within.calls t122 1 3 true _ A3.out).mono ?_); rintro e w' ⟨rfl, ⟨nd, rfl⟩⟩; refine ⟨_, rfl, ?_⟩))
  go_loopg [14] k (fun kq v14 w' => ∃ (x14_1 : Int), v14 = .int .i64 x14_1 ∧ Aside0 (impl_LedgerFault.l0 kq l0_0 (l0_0.length : Int) x14_1 = some r) ∧ Aside0 (kq ≤ k) ∧ Aside0 (w'.heap[gb121]? = some (.cells #[(.slice A0_0 l0_0.length c0_0)] 26 (0, 0))) ∧ Aside0 (Below w.heap.size w w'))
  case atStart => exact ⟨(0), q_i, H', ⟨Nat.le_refl _⟩, ⟨q_b BK121.out⟩, ⟨bq⟩⟩
  case round =>
   clear H'
   (try clear c1); (try clear p2); (try clear c4); (try clear c6); (try clear hcz6_0); (try clear hfz6_0)
   obtain ⟨x14_1, rfl, HA, HK1, BK121, HB⟩ := hrel
   cases gk with
   | zero => exact absurd HA.out (by simp [impl_LedgerFault.l0])
   | succ k1 =>
    have H := HA.out
    clear HA
    simp only [impl_LedgerFault.l0] at H
    by_cases c7 : x14_1 < (l0_0.length : Int)
    ·rw [if_pos c7] at H
     have c7b0 := decide_eq_true c7
     clear c7
     by_cases c8 : 0 ≤ x14_1
     ·rw [if_pos c8] at H
      have c8b0 := decide_eq_true c8
      clear c8
      by_cases c9 : x14_1 < (l0_0.length : Int)
      ·rw [if_pos c9] at H
       have c9b0 := decide_eq_true c9
       clear c9
       replace H := ob H
       obtain ⟨t125, A100, H⟩ := H
       replace H : (if t125 = 0 then (impl_LedgerFault.l0 k1 l0_0 (l0_0.length : Int) (wrap64 (x14_1 + 1))) else (some t125)) = some r := H
       have A10 := am A100
       clear A100
       by_cases c11 : t125 = 0
       ·rw [if_pos c11] at H
        have c11b0 : (t125 == 0) = true := beq_iff_eq.mpr c11
        have c11b1 : (t125 != 0) = false := bne_eq_false_iff_eq.mpr c11
        clear c11
        have H' := am H
        clear H
        have p124 : 0 ≤ (x14_1 : Int) := q_d
        have q124 : x14_1 < (l0_0.length : Int) := q_d
        obtain ⟨ad124, A124_0, c124_0, e124, hx124_0, hl124_0, hi124_0⟩ := at_L2 HR0_0.out x14_1 p124 q124
        cases e124
        replace hx124_0 := q_x HB.out hx124_0
        have HR124_0 := am hi124_0
        have HC124_0 := am hl124_0
        clear hi124_0 hl124_0
        replace p124 := eq_true p124
        replace q124 := eq_true q124
        go_wp2_with (first | ((with_reducible refine gate_callee (f := 36) rfl ?_); refine goesLq (some 19) rfl rfl Try.func36 (by kernel_rfl) rfl #[.slice A124_0 (rd_L2 l0_0 x14_1).length c124_0] rfl ?_; (with_reducible refine (impl_BalancesFault.calls k1 _ _ (rd_L2 l0_0 x14_1) t125 _ ?side1 ?side2 A10.out).mono ?_); (case side1 => exact q_c ((Kd.C_below HR124_0.out HB.out))); (case side2 => exact HC124_0.out); rintro e w12 ⟨rfl, hb⟩; refine ⟨_, rfl, ?_⟩; have n0_ := am (blk_below (q_b BK121.out) hb); have n1_ := am (below_step bq hb); revert n0_ n1_; clear BK121 HB; intro BK121 HB; (try clear hb); (try clear hb2); (try clear hk); (try clear hi)))
        go_roundg k1
        case measure => have := HK1.out; omega
        case rel => exact ⟨(wrap64 (x14_1 + 1)), q_i, H', ⟨by have := HK1.out; omega⟩, ⟨q_b BK121.out⟩, ⟨bq⟩⟩
       ·rw [if_neg c11] at H
        have c11b0 : (t125 == 0) = false := beq_eq_false_iff_ne.mpr c11
        have c11b1 : (t125 != 0) = true := bne_iff_ne.mpr c11
        obtain rfl := Option.some.inj H
        have p124 : 0 ≤ (x14_1 : Int) := q_d
        have q124 : x14_1 < (l0_0.length : Int) := q_d
        obtain ⟨ad124, A124_0, c124_0, e124, hx124_0, hl124_0, hi124_0⟩ := at_L2 HR0_0.out x14_1 p124 q124
        cases e124
        replace hx124_0 := q_x HB.out hx124_0
        have HR124_0 := am hi124_0
        have HC124_0 := am hl124_0
        clear hi124_0 hl124_0
        replace p124 := eq_true p124
        replace q124 := eq_true q124
        go_wp2_with (first | ((with_reducible refine gate_callee (f := 36) rfl ?_); refine goesLq (some 19) rfl rfl Try.func36 (by kernel_rfl) rfl #[.slice A124_0 (rd_L2 l0_0 x14_1).length c124_0] rfl ?_; (with_reducible refine (impl_BalancesFault.calls k1 _ _ (rd_L2 l0_0 x14_1) t125 _ ?side1 ?side2 A10.out).mono ?_); (case side1 => exact q_c ((Kd.C_below HR124_0.out HB.out))); (case side2 => exact HC124_0.out); rintro e w13 ⟨rfl, hb⟩; refine ⟨_, rfl, ?_⟩; have n0_ := am (blk_below (q_b BK121.out) hb); have n1_ := am (below_step bq hb); revert n0_ n1_; clear BK121 HB; intro BK121 HB; (try clear hb); (try clear hb2); (try clear hk); (try clear hi)))
        go_ret
        exact ⟨q_e, bq⟩
      ·rw [if_neg c9] at H
       exact absurd H (by simp)
     ·rw [if_neg c8] at H
      exact absurd H (by simp)
    ·rw [if_neg c7] at H
     have c7b0 := decide_eq_false c7
     clear c7
     obtain rfl := Option.some.inj H
     go_wp2
     go_ret
     exact ⟨q_e, bq⟩
 ·replace c4 := Bool.eq_false_iff.mpr c4
  subst c4
  have H1 : (some 2) = some r := by rw [if_neg (show ¬ (false = true) by decide)] at H; exact H
  clear H
  have H := H1
  clear H1
  obtain rfl := Option.some.inj H
  go_enter Try.func17, Try.ntmps17
  go_wp2_with (first | ((with_reducible refine gate_dst (N := 1) rfl ?_); refine q_box (N := 1) (cs := #[.slice A0_0 l0_0.length c0_0]) (t := 26) ?_; intro gb121 hg w14 hbox hb; have n0_ := am (below_step bq hb); have n1_ := am (hbox); have n2_ := am ((q_g hg bq : w.heap.size ≤ gb121)); have n3_ := n2_; revert n0_ n1_ n2_ n3_; clear HB; intro HB BK121 GW121 GE121; clear hb hbox hg; obtain ⟨hcz15_0, hfz15_0⟩ := q_1 BK121.out) | ((with_reducible refine gate_callee (f := 66) rfl ?_); refine goesLq (some 8) rfl rfl Try.func66 (by kernel_rfl) rfl #[.slice A0_0 l0_0.length c0_0] rfl ?_; (with_reducible refine (impl_size_impl_Balance.calls _ _ l0_0 t122 _ ?side1 ?side2 A2.out).mono ?_); (case side1 => exact q_c ((Kd.C_below HR0_0.out HB.out))); (case side2 => exact HC0_0.out); rintro e w' ⟨rfl, ⟨nd, rfl⟩⟩; refine ⟨_, rfl, ?_⟩) | ((with_reducible refine gate_callee (f := 65) rfl ?_); refine goesLq (some 9) rfl rfl Try.func65 (by kernel_rfl) rfl #[.int .i64 t122, .int .i64 1, .int .i64 3] rfl ?_; (with_reducible refine (impl_within.calls t122 1 3 false _ A3.out).mono ?_); rintro e w' ⟨rfl, ⟨nd, rfl⟩⟩; refine ⟨_, rfl, ?_⟩))
  go_ret
  exact ⟨q_e, bq⟩

/-! ### slices_Clone_impl_Balance: function 98 -/
def slices_Clone_impl_Balance.f (l0 : List (S104)) : Option ((List (S104))) := (some (([] : List (S104)) : List (S104))).bind fun y126 => (if y126.length + l0.length < 5864062014805 then (some (y126 ++ l0)) else (none))
theorem slices_Clone_impl_Balance.calls (A0 : Option Addr) (c0 : Nat) (l0 : List (S104)) (r : List (S104)) (w : World) (hr0 : Kd.C k104 w A0 l0.length l0) (hc0 : l0.length ≤ c0) (h : slices_Clone_impl_Balance.f l0 = some r) :
  Calls Try.prog 98 #[.slice A0 l0.length c0] w fun e w' => ∃ v0_ : Value, e = .returned (v0_) ∧ Kd.R k104 104 w' w.heap.size (fun _ => True) v0_ r ∧ Below w.heap.size w w' := by
 cases A0 with
 | none =>
  have hz : l0 = [] := by
   by_cases h0 : 0 < l0.length
   ·obtain ⟨ad, e_, _⟩ := hr0.2.2 h0
    cases e_
   ·exact List.length_eq_zero_iff.1 (by omega)
  subst hz
  have hr : r = [] := by
   have h2 : slices_Clone_impl_Balance.f [] = some [] := by first | rfl | decide | (simp only [Option.bind_some, List.append_nil]; rfl)
   rw [h2] at h
   exact (Option.some.inj h).symm
  subst hr
  have hnil : ∀ W, (binOp .eql 64 (.slice none 0 c0) (.slice none 0 0)).run Try.prog W = .ok (.bool true) W := fun W => Lib.run_eql_slice_nil_nil W _ _ Try.underlying64
  show Calls Try.prog 98 #[.slice none 0 c0] w _
  go_enter Try.func98, Try.ntmps98
  go_wp2
  go_ret
  exact ⟨_, rfl, Kd.R_nil _ _ _ _ _, by repeat (first | exact Below.refl _ _ | apply below_drew1)⟩
 | some ad0 =>
  have hnil : ∀ W, (binOp .eql 64 (.slice (some ad0) l0.length c0) (.slice none 0 0)).run Try.prog W = .ok (.bool false) W := fun W => Lib.run_eql_slice_some_nil W _ _ _ Try.underlying64
  have HR0 := am hr0
  have HC0 := am hc0
  clear hr0 hc0
  have HB := am (Below.refl w.heap.size w)
  have H : ((some (([] : List (S104)) : List (S104))).bind fun y126 => (if y126.length + l0.length < 5864062014805 then (some (y126 ++ l0)) else (none))) = some r := h
  clear h
  obtain ⟨y126, hy126⟩ : ∃ y_ : List (S104), y_ = (([] : List (S104))) := ⟨_, rfl⟩
  replace H : (if y126.length + l0.length < 5864062014805 then (some (y126 ++ l0)) else (none)) = some r := q_h hy126 H
  have Ny126 := am hy126
  clear hy126
  by_cases c2 : y126.length + l0.length < 5864062014805
  ·rw [if_pos c2] at H
   have LMc2 := am c2
   clear c2
   obtain ⟨y129, hy129⟩ : ∃ y_ : List (S104), y_ = (y126 ++ l0) := ⟨_, rfl⟩
   replace H : (some y129) = some r := q_h hy129 H
   have Ny129 := am hy129
   clear hy129
   obtain rfl := Option.some.inj H
   go_enter Try.func98, Try.ntmps98
   go_wp2_with (first | ((with_reducible refine gate_dst (N := 5) rfl ?_); refine Kd.R_lit k104 _ 104 ?hg (N := 5) ?hd (xs := ([] : List (S104))) (inner := []) (ok := fun _ => True) (okp := fun _ => True) ?hr ?hp (fun _ hk => hk) trivial (Below.refl _ _) (Nat.le_refl _) (by simp) ?_; (case hd => rfl); (case hg => rfl); (case hr => first | (go_simp; done) | (go_simp; rfl)); (case hp => exact (Reps.none _ _)); intro v127 w3 ho4 hb hg_ hnew_; clear hg_ hnew_; (first | rw [← Ny126.out] at ho4 | (simp only [Int.reduceToNat] at ho4; rw [← Ny126.out] at ho4)); have n0_ := am (Kd.R_lower ho4 (below_size bq)); have n1_ := am (below_step bq hb); revert n0_ n1_; clear HB; intro HO128 HB; clear hb ho4) | ((with_reducible refine gate_builtin (b := .append) (xs := #[.tmp 5, .tmp 6]) rfl ?_); at_builtin; refine Kd.R_append_rows k104 (w0 := w) w.heap.size rfl (.tmp 5) (.tmp 6) 64 104 (.agg #[(.int .i64 0), (.int .i64 0), (.int .i64 0)]) 24 rfl Try.underlying64 info104 rfl (by decide) (by omega) v127 y126 l0 _ _ _ (fun _ => True) (fun _ => False) rfl rfl ?aO ?aR (fun _ _ h => h) (fun _ h => h.elim) ?aF ?aB ?aS ?aL ?_; (case aR => repeat (first | exact (Kd.C_below HR0.out HB.out) | (with_reducible refine Kd.C_alloc ?_ _) | (with_reducible refine Kd.C_drewN ?_ _) | (with_reducible refine Kd.C_drew ?_))); (case aB => exact bq); (case aF => exact (fun _ _ => trivial)); (case aO => exact (q_r (HO128.out))); (case aS => exact (below_size bq)); (case aL => have := LMc2.out; omega); intro v130 w5 ho hb hg hat; rw [← Ny129.out] at ho; have n0_ := am (hb); have n1_ := am (ho); revert n0_ n1_; clear HB HO128; intro HB HO131; clear ho hb hg hat))
   go_ret
   exact ⟨_, q_e, q_r (HO131.out), bq⟩
  ·rw [if_neg c2] at H
   exact absurd H (by simp)


end Go.Proofs.Ytanegggacfmkcaa.PFnExactSettleAll
