/- Functions that a law reaches, as plain Lean functions, with the proof that the machine comes to their answers. No conditions. -/
import Derived.Test.YtdhlcnlcpjlliaaPFnTablesx0
import Derived.Test.YtdhlcnlcpjlliaaPFnTablesx3
import Derived.Test.YtdhlcnlcpjlliaaPFnTablesx4
import Derived.Test.YtdhlcnlcpjlliaaPFnTablesx12
namespace Go.Proofs.Ytdhlcnlcpjlliaa.PFnTables
open Go.RowKit Go.Proofs.YtdhlcnlcpjlliaaW.PrintWords Go.Proofs.YtdhlcnlcpjlliaaW.PrintLast Go.Proofs.YtdhlcnlcpjlliaaW.PrintMore
attribute [local go_sem] max2_int min2_int max_two min_two max_three min_three max_four min_four   -- for this text's walks alone
set_option linter.unusedVariables false
set_option linter.unusedSimpArgs false
set_option maxHeartbeats 8000000
set_option maxRecDepth 100000

/-! ### spec_TableFault: function 16 -/
def spec_TableFault.l0 : Nat → List (S49) → Int → Option (Int)
  | 0, _, _ => none
  | k + 1, x0, x3 => if x3 < (x0.length : Int) then (if 0 ≤ x3 then ((spec_RowFault.f k ((rd_T49 x0 x3).f0) ((rd_T49 x0 x3).f1) ((rd_T49 x0 x3).f2) ((rd_T49 x0 x3).f3)).bind fun t360 => (if t360 = 0 then (if x3 > 0 then (if 0 ≤ (wrap64 (x3 - 1)) then (if (wrap64 (x3 - 1)) < (x0.length : Int) then ((spec_l5Ahead.f ((rd_T49 x0 (wrap64 (x3 - 1))).f0) ((rd_T49 x0 (wrap64 (x3 - 1))).f1) ((rd_T49 x0 (wrap64 (x3 - 1))).f2) ((rd_T49 x0 (wrap64 (x3 - 1))).f3) ((rd_T49 x0 x3).f0) ((rd_T49 x0 x3).f1) ((rd_T49 x0 x3).f2) ((rd_T49 x0 x3).f3)).bind fun t363 => (if t363 = true then (spec_TableFault.l0 k x0 (wrap64 (x3 + 1))) else (some 1))) else (none)) else (none)) else (spec_TableFault.l0 k x0 (wrap64 (x3 + 1)))) else (some t360))) else (none)) else (some 0)
def spec_TableFault.f (k : Nat) (l0 : List (S49)) : Option (Int) := if (l0.length : Int) > 200 then (some 2) else (spec_TableFault.l0 k l0 0)
def spec_TableFault.T9 : Bool × List (List Nat × List Nat) := (true, [([], []), ([0], [0]), ([1], [1]), ([2], [2]), ([2], [2]), ([4, 2], [2, 4]), ([3, 5, 2], [2, 3, 5]), ([6, 2], [2, 6]), ([2], [2]), ([2], [2]), ([8, 9, 2], [2, 8, 9]), ([10, 2], [2, 10]), ([7, 11, 2, 2], [2, 7, 11]), ([12, 2], [2, 12]), ([2, 13], [2, 13])])
def spec_TableFault.B9 : List Nat := [0, 1, 3, 7, 7, 23, 63, 127, 7, 7, 775, 1799, 4095, 8191, 16383]
theorem spec_TableFault.tab9 : rtab .any (opsOf Try.f16 9) = spec_TableFault.T9 := by kernel_rfl
theorem spec_TableFault.bits9 : waitsOk spec_TableFault.T9.2 spec_TableFault.B9 = true := by kernel_rfl
theorem spec_TableFault.calls (k : Nat) (A0 : Option Addr) (c0 : Nat) (l0 : List (S49)) (r : Int) (w : World) (hr0 : Kd.C k49 w A0 l0.length l0) (hc0 : l0.length ≤ c0) (h : spec_TableFault.f k l0 = some r) :
  Calls Try.prog 16 #[.slice A0 l0.length c0] w fun e w' => e = .returned (.int .i64 r) ∧ Below w.heap.size w w' := by
 have hu49 := Try.underlying49
 have HR0 := am hr0
 have HC0 := am hc0
 clear hr0 hc0
 have HB := am (Below.refl w.heap.size w)
 have H : (if (l0.length : Int) > 200 then (some 2) else (spec_TableFault.l0 k l0 0)) = some r := h
 clear h
 by_cases c2 : (l0.length : Int) > 200
 ·rw [if_pos c2] at H
  have c2b0 := decide_eq_true c2
  have c2b1 : decide (200 < l0.length) = true := decide_eq_true (by omega)
  clear c2
  obtain rfl := Option.some.inj H
  go_enter Try.func16, Try.ntmps16
  go_wp2
  go_ret
  exact ⟨q_e, bq⟩
 ·rw [if_neg c2] at H
  have c2b0 := decide_eq_false c2
  have c2b1 : decide (200 < l0.length) = false := decide_eq_false (by omega)
  clear c2
  have H' := am H
  clear H
  go_enter Try.func16, Try.ntmps16
  go_wp2
  go_loopg [3] k (fun kq v3 w' => ∃ (x3_1 : Int), v3 = .int .i64 x3_1 ∧ Aside0 (spec_TableFault.l0 kq l0 x3_1 = some r) ∧ Aside0 (kq ≤ k) ∧ Aside0 (Below w.heap.size w w'))
  case atStart => exact ⟨(0), q_i, H', ⟨Nat.le_refl _⟩, ⟨bq⟩⟩
  case round =>
   clear H'
   (try clear c1); (try clear c2); (try clear c2b0); (try clear c2b1); (try clear p2)
   obtain ⟨x3_1, rfl, HA, HK1, HB⟩ := hrel
   cases gk with
   | zero => exact absurd HA.out (by simp [spec_TableFault.l0])
   | succ k1 =>
    have H := HA.out
    clear HA
    simp only [spec_TableFault.l0] at H
    by_cases c3 : x3_1 < (l0.length : Int)
    ·rw [if_pos c3] at H
     have c3b0 := decide_eq_true c3
     clear c3
     by_cases c4 : 0 ≤ x3_1
     ·rw [if_pos c4] at H
      have c4b0 := decide_eq_true c4
      clear c4
      replace H := ob H
      obtain ⟨t360, A50, H⟩ := H
      replace H : (if t360 = 0 then (if x3_1 > 0 then (if 0 ≤ (wrap64 (x3_1 - 1)) then (if (wrap64 (x3_1 - 1)) < (l0.length : Int) then ((spec_l5Ahead.f ((rd_T49 l0 (wrap64 (x3_1 - 1))).f0) ((rd_T49 l0 (wrap64 (x3_1 - 1))).f1) ((rd_T49 l0 (wrap64 (x3_1 - 1))).f2) ((rd_T49 l0 (wrap64 (x3_1 - 1))).f3) ((rd_T49 l0 x3_1).f0) ((rd_T49 l0 x3_1).f1) ((rd_T49 l0 x3_1).f2) ((rd_T49 l0 x3_1).f3)).bind fun t363 => (if t363 = true then (spec_TableFault.l0 k1 l0 (wrap64 (x3_1 + 1))) else (some 1))) else (none)) else (none)) else (spec_TableFault.l0 k1 l0 (wrap64 (x3_1 + 1)))) else (some t360)) = some r := H
      have A5 := am A50
      clear A50
      by_cases c6 : t360 = 0
      ·rw [if_pos c6] at H
       have c6b0 : (t360 == 0) = true := beq_iff_eq.mpr c6
       have c6b1 : (t360 != 0) = false := bne_eq_false_iff_eq.mpr c6
       clear c6
       by_cases c7 : x3_1 > 0
       ·rw [if_pos c7] at H
        have c7b0 := decide_eq_true c7
        clear c7
        obtain ⟨ji8, hji8⟩ : ∃ j_ : Int, (wrap64 (x3_1 - 1)) = j_ := ⟨_, rfl⟩
        replace H : (if 0 ≤ (ji8) then (if (ji8) < (l0.length : Int) then ((spec_l5Ahead.f ((rd_T49 l0 (ji8)).f0) ((rd_T49 l0 (ji8)).f1) ((rd_T49 l0 (ji8)).f2) ((rd_T49 l0 (ji8)).f3) ((rd_T49 l0 x3_1).f0) ((rd_T49 l0 x3_1).f1) ((rd_T49 l0 x3_1).f2) ((rd_T49 l0 x3_1).f3)).bind fun t363 => (if t363 = true then (spec_TableFault.l0 k1 l0 (wrap64 (x3_1 + 1))) else (some 1))) else (none)) else (none)) = some r := by first | (rw [hji8] at H; exact H) | (simp only [hji8] at H ⊢; exact H)
        (try rw [hji8] at A5)
        have hji8w : (IntKind.i64.wrap (x3_1 - 1)) = ji8 := (i64_w _).trans hji8
        by_cases c9 : 0 ≤ (ji8)
        ·rw [if_pos c9] at H
         have c9b0 := decide_eq_true c9
         clear c9
         by_cases c10 : (ji8) < (l0.length : Int)
         ·rw [if_pos c10] at H
          have c10b0 := decide_eq_true c10
          clear c10
          replace H := ob H
          obtain ⟨t363, A110, H⟩ := H
          replace H : (if t363 = true then (spec_TableFault.l0 k1 l0 (wrap64 (x3_1 + 1))) else (some 1)) = some r := H
          have A11 := am A110
          clear A110
          by_cases c12 : t363 = true
          ·subst c12
           have H1 : (spec_TableFault.l0 k1 l0 (wrap64 (x3_1 + 1))) = some r := by rw [if_pos rfl] at H; exact H
           clear H
           have H := H1
           clear H1
           have H' := am H
           clear H
           have p359 : 0 ≤ (x3_1 : Int) := q_d
           have q359 : x3_1 < (l0.length : Int) := q_d
           obtain ⟨ad359, e359, hx359_0, hx359_1, hx359_2, hx359_3⟩ := at_T49 HR0.out x3_1 p359 q359
           cases e359
           replace hx359_0 := q_x HB.out hx359_0
           replace hx359_1 := q_x HB.out hx359_1
           replace hx359_2 := q_x HB.out hx359_2
           replace hx359_3 := q_x HB.out hx359_3
           replace p359 := eq_true p359
           replace q359 := eq_true q359
           try go_wp2_with (first | ((with_reducible refine gate_callee (f := 63) rfl ?_); refine goesLq (some 18) rfl rfl Try.func63 (by kernel_rfl) rfl #[.agg #[.string ((rd_T49 l0 x3_1).f0), .int .i64 ((rd_T49 l0 x3_1).f1), .string ((rd_T49 l0 x3_1).f2), .bool ((rd_T49 l0 x3_1).f3)]] rfl ?_; (with_reducible refine (spec_RowFault.calls k1 ((rd_T49 l0 x3_1).f0) ((rd_T49 l0 x3_1).f1) ((rd_T49 l0 x3_1).f2) ((rd_T49 l0 x3_1).f3) t360 _ A5.out).mono ?_); rintro e w13 ⟨rfl, hb⟩; refine ⟨_, rfl, ?_⟩; have n0_ := am (below_step bq hb); revert n0_; clear HB; intro HB; (try clear hb); (try clear hb2); (try clear hk); (try clear hi)))
           have n0_ := am (below_drew1 HB.out)
           clear HB
           have HB := n0_
           clear n0_
           have p361 : 0 ≤ ((ji8) : Int) := q_d
           have q361 : (ji8) < (l0.length : Int) := q_d
           obtain ⟨ad361, e361, hx361_0, hx361_1, hx361_2, hx361_3⟩ := at_T49 HR0.out (ji8) p361 q361
           have hw361_3 := hx361_3
           have hw361_2 := hx361_2
           have hw361_1 := hx361_1
           have hw361_0 := hx361_0
           obtain rfl : ad359 = ad361 := (by injection e361)
           replace hx361_0 := q_x HB.out hx361_0
           replace hx361_1 := q_x HB.out hx361_1
           replace hx361_2 := q_x HB.out hx361_2
           replace hx361_3 := q_x HB.out hx361_3
           replace p361 := eq_true p361
           replace q361 := eq_true q361
           have p362 : 0 ≤ (x3_1 : Int) := q_d
           have q362 : x3_1 < (l0.length : Int) := q_d
           obtain ⟨ad362, e362, hx362_0, hx362_1, hx362_2, hx362_3⟩ := at_T49 HR0.out x3_1 p362 q362
           have hw362_3 := hx362_3
           have hw362_2 := hx362_2
           have hw362_1 := hx362_1
           have hw362_0 := hx362_0
           obtain rfl : ad359 = ad362 := (by injection e362)
           replace hx362_0 := q_x HB.out hx362_0
           replace hx362_1 := q_x HB.out hx362_1
           replace hx362_2 := q_x HB.out hx362_2
           replace hx362_3 := q_x HB.out hx362_3
           replace p362 := eq_true p362
           replace q362 := eq_true q362
           refine start_ (n := 15) (S := fun w' => w'.cell? (ad359.add (((ji8)).toNat * 4)) = some (.string ((rd_T49 l0 (ji8)).f0)) ∧ w'.cell? ⟨(ad359.add (((ji8)).toNat * 4)).block, (ad359.add (((ji8)).toNat * 4)).off + 1, none⟩ = some (.int .i64 ((rd_T49 l0 (ji8)).f1)) ∧ w'.cell? ⟨(ad359.add (((ji8)).toNat * 4)).block, (ad359.add (((ji8)).toNat * 4)).off + 2, none⟩ = some (.string ((rd_T49 l0 (ji8)).f2)) ∧ w'.cell? ⟨(ad359.add (((ji8)).toNat * 4)).block, (ad359.add (((ji8)).toNat * 4)).off + 3, none⟩ = some (.bool ((rd_T49 l0 (ji8)).f3)) ∧ w'.cell? (ad359.add ((x3_1).toNat * 4)) = some (.string ((rd_T49 l0 x3_1).f0)) ∧ w'.cell? ⟨(ad359.add ((x3_1).toNat * 4)).block, (ad359.add ((x3_1).toNat * 4)).off + 1, none⟩ = some (.int .i64 ((rd_T49 l0 x3_1).f1)) ∧ w'.cell? ⟨(ad359.add ((x3_1).toNat * 4)).block, (ad359.add ((x3_1).toNat * 4)).off + 2, none⟩ = some (.string ((rd_T49 l0 x3_1).f2)) ∧ w'.cell? ⟨(ad359.add ((x3_1).toNat * 4)).block, (ad359.add ((x3_1).toNat * 4)).off + 3, none⟩ = some (.bool ((rd_T49 l0 x3_1).f3))) (ds := []) #[false, false, false, false, false, false, false, false, false, false, false, false, false, false, false] (by kernel_rfl) rfl rfl ⟨((HB.out.cell (wb hw361_0)).trans hw361_0), ((HB.out.cell (wb hw361_1)).trans hw361_1), ((HB.out.cell (wb hw361_2)).trans hw361_2), ((HB.out.cell (wb hw361_3)).trans hw361_3), ((HB.out.cell (wb hw362_0)).trans hw362_0), ((HB.out.cell (wb hw362_1)).trans hw362_1), ((HB.out.cell (wb hw362_2)).trans hw362_2), ((HB.out.cell (wb hw362_3)).trans hw362_3)⟩ (fun hHeld => ?_); refine with_tabW spec_TableFault.tab9 spec_TableFault.bits9 (fun HT_ HW_ => ?_)
           generalize w13.drew = w14 at HB hx361_0 hx361_1 hx361_2 hx361_3 hx362_0 hx362_1 hx362_2 hx362_3 hHeld ⊢
           refine q_p 0 (some 22) #[true, false, false, false, false, false, false, false, false, false, false, false, false, false, false] HT_.out ?_
           refine q_p 1 (some 23) #[true, true, false, false, false, false, false, false, false, false, false, false, false, false, false] HT_.out ?_
           refine q_p 2 (some 24) #[true, true, true, false, false, false, false, false, false, false, false, false, false, false, false] HT_.out ?_
           refine q_p 3 (some 25) #[true, true, true, true, false, false, false, false, false, false, false, false, false, false, false] HT_.out ?_
           refine q_p 4 (some 26) #[true, true, true, true, true, false, false, false, false, false, false, false, false, false, false] HT_.out ?_
           refine q_p 5 (some 27) #[true, true, true, true, true, true, false, false, false, false, false, false, false, false, false] HT_.out ?_
           refine q_p 6 (some 28) #[true, true, true, true, true, true, true, false, false, false, false, false, false, false, false] HT_.out ?_
           refine q_p 8 (some 30) #[true, true, true, true, true, true, true, false, true, false, false, false, false, false, false] HT_.out ?_
           refine q_p 9 (some 31) #[true, true, true, true, true, true, true, false, true, true, false, false, false, false, false] HT_.out ?_
           refine q_p 10 (some 32) #[true, true, true, true, true, true, true, false, true, true, true, false, false, false, false] HT_.out ?_
           refine q_t 7 (some 29) #[true, true, true, true, true, true, true, true, true, true, true, false, false, false, false] HT_.out HW_.out hHeld ?_
           refine q_t 11 (some 33) #[true, true, true, true, true, true, true, true, true, true, true, true, false, false, false] HT_.out HW_.out hHeld ?_
           refine one_ (i := 12) (N := some 34) #[true, true, true, true, true, true, true, true, true, true, true, true, true, false, false] rfl rfl (one_of HT_.out (by kernel_rfl)) (by decide) (fun K hK => ?_)
           refine goes_ Try.func64 (by kernel_rfl) rfl #[.agg #[.string ((rd_T49 l0 (ji8)).f0), .int .i64 ((rd_T49 l0 (ji8)).f1), .string ((rd_T49 l0 (ji8)).f2), .bool ((rd_T49 l0 (ji8)).f3)], .agg #[.string ((rd_T49 l0 x3_1).f0), .int .i64 ((rd_T49 l0 x3_1).f1), .string ((rd_T49 l0 x3_1).f2), .bool ((rd_T49 l0 x3_1).f3)]] (by rfl) rfl rfl (by (try simp only [List.map_toArray, List.map_cons, List.map_nil]); first | done | (simp only [hji8]; rfl) | rfl | (simp only [List.length_drop, List.length_take]; rfl)) ?_
           with_reducible refine (spec_l5Ahead.calls ((rd_T49 l0 (ji8)).f0) ((rd_T49 l0 (ji8)).f1) ((rd_T49 l0 (ji8)).f2) ((rd_T49 l0 (ji8)).f3) ((rd_T49 l0 x3_1).f0) ((rd_T49 l0 x3_1).f1) ((rd_T49 l0 x3_1).f2) ((rd_T49 l0 x3_1).f3) true _ A11.out).mono ?_
           rintro e w15 ⟨rfl, hb⟩
           refine ⟨_, rfl, ?_⟩
           have n0_ := am (below_step bq hb)
           clear HB
           have HB := n0_
           clear n0_
           (try clear hb)
           (try clear hb2)
           (try clear hk)
           (try clear hi)
           refine hK.out _ _ ⟨((HB.out.cell (wb hw361_0)).trans hw361_0), ((HB.out.cell (wb hw361_1)).trans hw361_1), ((HB.out.cell (wb hw361_2)).trans hw361_2), ((HB.out.cell (wb hw361_3)).trans hw361_3), ((HB.out.cell (wb hw362_0)).trans hw362_0), ((HB.out.cell (wb hw362_1)).trans hw362_1), ((HB.out.cell (wb hw362_2)).trans hw362_2), ((HB.out.cell (wb hw362_3)).trans hw362_3)⟩ (fun hHeld => ?_)
           clear hK K
           refine norm_ (a' := ?_) ?_ ?_
           rotate_left
           ·show Act.put _ (some 34) _ = _
            simp only [Act.put, List.setIfInBounds_toArray, List.set_cons_zero, List.set_cons_succ, i64_w, i32_w]
            rfl
           refine q_p 13 (some 35) #[true, true, true, true, true, true, true, true, true, true, true, true, true, true, false] HT_.out ?_
           refine q_p 14 (some 36) #[true, true, true, true, true, true, true, true, true, true, true, true, true, true, true] HT_.out ?_
           refine done_ (done_of HT_.out (by kernel_rfl)) ?_
           try go_wp2
           go_roundg k1
           case measure => have := HK1.out; omega
           case rel => exact ⟨(wrap64 (x3_1 + 1)), q_i, H', ⟨by have := HK1.out; omega⟩, ⟨bq⟩⟩
          ·replace c12 := Bool.eq_false_iff.mpr c12
           subst c12
           have H1 : (some 1) = some r := by rw [if_neg (show ¬ (false = true) by decide)] at H; exact H
           clear H
           have H := H1
           clear H1
           obtain rfl := Option.some.inj H
           have p359 : 0 ≤ (x3_1 : Int) := q_d
           have q359 : x3_1 < (l0.length : Int) := q_d
           obtain ⟨ad359, e359, hx359_0, hx359_1, hx359_2, hx359_3⟩ := at_T49 HR0.out x3_1 p359 q359
           cases e359
           replace hx359_0 := q_x HB.out hx359_0
           replace hx359_1 := q_x HB.out hx359_1
           replace hx359_2 := q_x HB.out hx359_2
           replace hx359_3 := q_x HB.out hx359_3
           replace p359 := eq_true p359
           replace q359 := eq_true q359
           try go_wp2_with (first | ((with_reducible refine gate_callee (f := 63) rfl ?_); refine goesLq (some 18) rfl rfl Try.func63 (by kernel_rfl) rfl #[.agg #[.string ((rd_T49 l0 x3_1).f0), .int .i64 ((rd_T49 l0 x3_1).f1), .string ((rd_T49 l0 x3_1).f2), .bool ((rd_T49 l0 x3_1).f3)]] rfl ?_; (with_reducible refine (spec_RowFault.calls k1 ((rd_T49 l0 x3_1).f0) ((rd_T49 l0 x3_1).f1) ((rd_T49 l0 x3_1).f2) ((rd_T49 l0 x3_1).f3) t360 _ A5.out).mono ?_); rintro e w16 ⟨rfl, hb⟩; refine ⟨_, rfl, ?_⟩; have n0_ := am (below_step bq hb); revert n0_; clear HB; intro HB; (try clear hb); (try clear hb2); (try clear hk); (try clear hi)))
           have n0_ := am (below_drew1 HB.out)
           clear HB
           have HB := n0_
           clear n0_
           have p361 : 0 ≤ ((ji8) : Int) := q_d
           have q361 : (ji8) < (l0.length : Int) := q_d
           obtain ⟨ad361, e361, hx361_0, hx361_1, hx361_2, hx361_3⟩ := at_T49 HR0.out (ji8) p361 q361
           have hw361_3 := hx361_3
           have hw361_2 := hx361_2
           have hw361_1 := hx361_1
           have hw361_0 := hx361_0
           obtain rfl : ad359 = ad361 := (by injection e361)
           replace hx361_0 := q_x HB.out hx361_0
           replace hx361_1 := q_x HB.out hx361_1
           replace hx361_2 := q_x HB.out hx361_2
           replace hx361_3 := q_x HB.out hx361_3
           replace p361 := eq_true p361
           replace q361 := eq_true q361
           have p362 : 0 ≤ (x3_1 : Int) := q_d
           have q362 : x3_1 < (l0.length : Int) := q_d
           obtain ⟨ad362, e362, hx362_0, hx362_1, hx362_2, hx362_3⟩ := at_T49 HR0.out x3_1 p362 q362
           have hw362_3 := hx362_3
           have hw362_2 := hx362_2
           have hw362_1 := hx362_1
           have hw362_0 := hx362_0
           obtain rfl : ad359 = ad362 := (by injection e362)
           replace hx362_0 := q_x HB.out hx362_0
           replace hx362_1 := q_x HB.out hx362_1
           replace hx362_2 := q_x HB.out hx362_2
           replace hx362_3 := q_x HB.out hx362_3
           replace p362 := eq_true p362
           replace q362 := eq_true q362
           refine start_ (n := 15) (S := fun w' => w'.cell? (ad359.add (((ji8)).toNat * 4)) = some (.string ((rd_T49 l0 (ji8)).f0)) ∧ w'.cell? ⟨(ad359.add (((ji8)).toNat * 4)).block, (ad359.add (((ji8)).toNat * 4)).off + 1, none⟩ = some (.int .i64 ((rd_T49 l0 (ji8)).f1)) ∧ w'.cell? ⟨(ad359.add (((ji8)).toNat * 4)).block, (ad359.add (((ji8)).toNat * 4)).off + 2, none⟩ = some (.string ((rd_T49 l0 (ji8)).f2)) ∧ w'.cell? ⟨(ad359.add (((ji8)).toNat * 4)).block, (ad359.add (((ji8)).toNat * 4)).off + 3, none⟩ = some (.bool ((rd_T49 l0 (ji8)).f3)) ∧ w'.cell? (ad359.add ((x3_1).toNat * 4)) = some (.string ((rd_T49 l0 x3_1).f0)) ∧ w'.cell? ⟨(ad359.add ((x3_1).toNat * 4)).block, (ad359.add ((x3_1).toNat * 4)).off + 1, none⟩ = some (.int .i64 ((rd_T49 l0 x3_1).f1)) ∧ w'.cell? ⟨(ad359.add ((x3_1).toNat * 4)).block, (ad359.add ((x3_1).toNat * 4)).off + 2, none⟩ = some (.string ((rd_T49 l0 x3_1).f2)) ∧ w'.cell? ⟨(ad359.add ((x3_1).toNat * 4)).block, (ad359.add ((x3_1).toNat * 4)).off + 3, none⟩ = some (.bool ((rd_T49 l0 x3_1).f3))) (ds := []) #[false, false, false, false, false, false, false, false, false, false, false, false, false, false, false] (by kernel_rfl) rfl rfl ⟨((HB.out.cell (wb hw361_0)).trans hw361_0), ((HB.out.cell (wb hw361_1)).trans hw361_1), ((HB.out.cell (wb hw361_2)).trans hw361_2), ((HB.out.cell (wb hw361_3)).trans hw361_3), ((HB.out.cell (wb hw362_0)).trans hw362_0), ((HB.out.cell (wb hw362_1)).trans hw362_1), ((HB.out.cell (wb hw362_2)).trans hw362_2), ((HB.out.cell (wb hw362_3)).trans hw362_3)⟩ (fun hHeld => ?_); refine with_tabW spec_TableFault.tab9 spec_TableFault.bits9 (fun HT_ HW_ => ?_)
           generalize w16.drew = w17 at HB hx361_0 hx361_1 hx361_2 hx361_3 hx362_0 hx362_1 hx362_2 hx362_3 hHeld ⊢
           refine q_p 0 (some 22) #[true, false, false, false, false, false, false, false, false, false, false, false, false, false, false] HT_.out ?_
           refine q_p 1 (some 23) #[true, true, false, false, false, false, false, false, false, false, false, false, false, false, false] HT_.out ?_
           refine q_p 2 (some 24) #[true, true, true, false, false, false, false, false, false, false, false, false, false, false, false] HT_.out ?_
           refine q_p 3 (some 25) #[true, true, true, true, false, false, false, false, false, false, false, false, false, false, false] HT_.out ?_
           refine q_p 4 (some 26) #[true, true, true, true, true, false, false, false, false, false, false, false, false, false, false] HT_.out ?_
           refine q_p 5 (some 27) #[true, true, true, true, true, true, false, false, false, false, false, false, false, false, false] HT_.out ?_
           refine q_p 6 (some 28) #[true, true, true, true, true, true, true, false, false, false, false, false, false, false, false] HT_.out ?_
           refine q_p 8 (some 30) #[true, true, true, true, true, true, true, false, true, false, false, false, false, false, false] HT_.out ?_
           refine q_p 9 (some 31) #[true, true, true, true, true, true, true, false, true, true, false, false, false, false, false] HT_.out ?_
           refine q_p 10 (some 32) #[true, true, true, true, true, true, true, false, true, true, true, false, false, false, false] HT_.out ?_
           refine q_t 7 (some 29) #[true, true, true, true, true, true, true, true, true, true, true, false, false, false, false] HT_.out HW_.out hHeld ?_
           refine q_t 11 (some 33) #[true, true, true, true, true, true, true, true, true, true, true, true, false, false, false] HT_.out HW_.out hHeld ?_
           refine one_ (i := 12) (N := some 34) #[true, true, true, true, true, true, true, true, true, true, true, true, true, false, false] rfl rfl (one_of HT_.out (by kernel_rfl)) (by decide) (fun K hK => ?_)
           refine goes_ Try.func64 (by kernel_rfl) rfl #[.agg #[.string ((rd_T49 l0 (ji8)).f0), .int .i64 ((rd_T49 l0 (ji8)).f1), .string ((rd_T49 l0 (ji8)).f2), .bool ((rd_T49 l0 (ji8)).f3)], .agg #[.string ((rd_T49 l0 x3_1).f0), .int .i64 ((rd_T49 l0 x3_1).f1), .string ((rd_T49 l0 x3_1).f2), .bool ((rd_T49 l0 x3_1).f3)]] (by rfl) rfl rfl (by (try simp only [List.map_toArray, List.map_cons, List.map_nil]); first | done | (simp only [hji8]; rfl) | rfl | (simp only [List.length_drop, List.length_take]; rfl)) ?_
           with_reducible refine (spec_l5Ahead.calls ((rd_T49 l0 (ji8)).f0) ((rd_T49 l0 (ji8)).f1) ((rd_T49 l0 (ji8)).f2) ((rd_T49 l0 (ji8)).f3) ((rd_T49 l0 x3_1).f0) ((rd_T49 l0 x3_1).f1) ((rd_T49 l0 x3_1).f2) ((rd_T49 l0 x3_1).f3) false _ A11.out).mono ?_
           rintro e w18 ⟨rfl, hb⟩
           refine ⟨_, rfl, ?_⟩
           have n0_ := am (below_step bq hb)
           clear HB
           have HB := n0_
           clear n0_
           (try clear hb)
           (try clear hb2)
           (try clear hk)
           (try clear hi)
           refine hK.out _ _ ⟨((HB.out.cell (wb hw361_0)).trans hw361_0), ((HB.out.cell (wb hw361_1)).trans hw361_1), ((HB.out.cell (wb hw361_2)).trans hw361_2), ((HB.out.cell (wb hw361_3)).trans hw361_3), ((HB.out.cell (wb hw362_0)).trans hw362_0), ((HB.out.cell (wb hw362_1)).trans hw362_1), ((HB.out.cell (wb hw362_2)).trans hw362_2), ((HB.out.cell (wb hw362_3)).trans hw362_3)⟩ (fun hHeld => ?_)
           clear hK K
           refine norm_ (a' := ?_) ?_ ?_
           rotate_left
           ·show Act.put _ (some 34) _ = _
            simp only [Act.put, List.setIfInBounds_toArray, List.set_cons_zero, List.set_cons_succ, i64_w, i32_w]
            rfl
           refine q_p 13 (some 35) #[true, true, true, true, true, true, true, true, true, true, true, true, true, true, false] HT_.out ?_
           refine q_p 14 (some 36) #[true, true, true, true, true, true, true, true, true, true, true, true, true, true, true] HT_.out ?_
           refine done_ (done_of HT_.out (by kernel_rfl)) ?_
           try go_wp2
           go_ret
           exact ⟨by first | rfl | (simp [errW_none, errW_some] <;> rfl) | (simp only [← hji8]; first | rfl | (simp [errW_none, errW_some] <;> rfl)) | (simp [*, errW_none, errW_some] <;> rfl), bq⟩
         ·rw [if_neg c10] at H
          exact absurd H (by simp)
        ·rw [if_neg c9] at H
         exact absurd H (by simp)
       ·rw [if_neg c7] at H
        have c7b0 := decide_eq_false c7
        clear c7
        have H' := am H
        clear H
        have p359 : 0 ≤ (x3_1 : Int) := q_d
        have q359 : x3_1 < (l0.length : Int) := q_d
        obtain ⟨ad359, e359, hx359_0, hx359_1, hx359_2, hx359_3⟩ := at_T49 HR0.out x3_1 p359 q359
        cases e359
        replace hx359_0 := q_x HB.out hx359_0
        replace hx359_1 := q_x HB.out hx359_1
        replace hx359_2 := q_x HB.out hx359_2
        replace hx359_3 := q_x HB.out hx359_3
        replace p359 := eq_true p359
        replace q359 := eq_true q359
        try go_wp2_with (first | ((with_reducible refine gate_callee (f := 63) rfl ?_); refine goesLq (some 18) rfl rfl Try.func63 (by kernel_rfl) rfl #[.agg #[.string ((rd_T49 l0 x3_1).f0), .int .i64 ((rd_T49 l0 x3_1).f1), .string ((rd_T49 l0 x3_1).f2), .bool ((rd_T49 l0 x3_1).f3)]] rfl ?_; (with_reducible refine (spec_RowFault.calls k1 ((rd_T49 l0 x3_1).f0) ((rd_T49 l0 x3_1).f1) ((rd_T49 l0 x3_1).f2) ((rd_T49 l0 x3_1).f3) t360 _ A5.out).mono ?_); rintro e w19 ⟨rfl, hb⟩; refine ⟨_, rfl, ?_⟩; have n0_ := am (below_step bq hb); revert n0_; clear HB; intro HB; (try clear hb); (try clear hb2); (try clear hk); (try clear hi)))
        have n0_ := am (below_drew1 HB.out)
        clear HB
        have HB := n0_
        clear n0_
        refine start_ (n := 15) (S := fun w' => True) (ds := []) #[false, false, false, false, false, false, false, false, false, false, false, false, false, false, false] (by kernel_rfl) rfl rfl trivial (fun hHeld => ?_); refine with_tabW spec_TableFault.tab9 spec_TableFault.bits9 (fun HT_ HW_ => ?_)
        generalize w19.drew = w20 at HB hHeld ⊢
        refine q_p 0 (some 22) #[true, false, false, false, false, false, false, false, false, false, false, false, false, false, false] HT_.out ?_
        refine q_p 1 (some 23) #[true, true, false, false, false, false, false, false, false, false, false, false, false, false, false] HT_.out ?_
        refine q_p 2 (some 24) #[true, true, true, false, false, false, false, false, false, false, false, false, false, false, false] HT_.out ?_
        refine pure_ (i := 3) (N := some 25) (v := undef) (a' := ?_) #[true, true, true, true, false, false, false, false, false, false, false, false, false, false, false] rfl rfl (any_of HT_.out (by kernel_rfl)) (fun _ _ _ h => h) (Or.inr ⟨by rfl, rfl⟩) ?_ ?_
        rotate_left
        ·simp only [Act.put, List.setIfInBounds_toArray, List.set_cons_zero, List.set_cons_succ, i64_w, i32_w]
         rfl
        refine pure_ (i := 4) (N := some 26) (v := undef) (a' := ?_) #[true, true, true, true, true, false, false, false, false, false, false, false, false, false, false] rfl rfl (any_of HT_.out (by kernel_rfl)) (fun _ _ _ h => h) (Or.inr ⟨by rfl, rfl⟩) ?_ ?_
        rotate_left
        ·simp only [Act.put, List.setIfInBounds_toArray, List.set_cons_zero, List.set_cons_succ, i64_w, i32_w]
         rfl
        refine pure_ (i := 5) (N := some 27) (v := undef) (a' := ?_) #[true, true, true, true, true, true, false, false, false, false, false, false, false, false, false] rfl rfl (any_of HT_.out (by kernel_rfl)) (fun _ _ _ h => h) (Or.inr ⟨by rfl, rfl⟩) ?_ ?_
        rotate_left
        ·simp only [Act.put, List.setIfInBounds_toArray, List.set_cons_zero, List.set_cons_succ, i64_w, i32_w]
         rfl
        refine pure_ (i := 6) (N := some 28) (v := undef) (a' := ?_) #[true, true, true, true, true, true, true, false, false, false, false, false, false, false, false] rfl rfl (any_of HT_.out (by kernel_rfl)) (fun _ _ _ h => h) (Or.inr ⟨by rfl, rfl⟩) ?_ ?_
        rotate_left
        ·simp only [Act.put, List.setIfInBounds_toArray, List.set_cons_zero, List.set_cons_succ, i64_w, i32_w]
         rfl
        refine pure_ (i := 7) (N := some 29) (v := undef) (a' := ?_) #[true, true, true, true, true, true, true, true, false, false, false, false, false, false, false] rfl rfl (any_of HT_.out (by kernel_rfl)) (fun _ _ _ h => h) (Or.inr ⟨by rfl, rfl⟩) ?_ ?_
        rotate_left
        ·simp only [Act.put, List.setIfInBounds_toArray, List.set_cons_zero, List.set_cons_succ, i64_w, i32_w]
         rfl
        refine pure_ (i := 8) (N := some 30) (v := undef) (a' := ?_) #[true, true, true, true, true, true, true, true, true, false, false, false, false, false, false] rfl rfl (any_of HT_.out (by kernel_rfl)) (fun _ _ _ h => h) (Or.inr ⟨by rfl, rfl⟩) ?_ ?_
        rotate_left
        ·simp only [Act.put, List.setIfInBounds_toArray, List.set_cons_zero, List.set_cons_succ, i64_w, i32_w]
         rfl
        refine pure_ (i := 9) (N := some 31) (v := undef) (a' := ?_) #[true, true, true, true, true, true, true, true, true, true, false, false, false, false, false] rfl rfl (any_of HT_.out (by kernel_rfl)) (fun _ _ _ h => h) (Or.inr ⟨by rfl, rfl⟩) ?_ ?_
        rotate_left
        ·simp only [Act.put, List.setIfInBounds_toArray, List.set_cons_zero, List.set_cons_succ, i64_w, i32_w]
         rfl
        refine pure_ (i := 10) (N := some 32) (v := undef) (a' := ?_) #[true, true, true, true, true, true, true, true, true, true, true, false, false, false, false] rfl rfl (any_of HT_.out (by kernel_rfl)) (fun _ _ _ h => h) (Or.inr ⟨by rfl, rfl⟩) ?_ ?_
        rotate_left
        ·simp only [Act.put, List.setIfInBounds_toArray, List.set_cons_zero, List.set_cons_succ, i64_w, i32_w]
         rfl
        refine pure_ (i := 11) (N := some 33) (v := undef) (a' := ?_) #[true, true, true, true, true, true, true, true, true, true, true, true, false, false, false] rfl rfl (any_of HT_.out (by kernel_rfl)) (fun _ _ _ h => h) (Or.inr ⟨by rfl, rfl⟩) ?_ ?_
        rotate_left
        ·simp only [Act.put, List.setIfInBounds_toArray, List.set_cons_zero, List.set_cons_succ, i64_w, i32_w]
         rfl
        refine pure_ (i := 12) (N := some 34) (v := undef) (a' := ?_) #[true, true, true, true, true, true, true, true, true, true, true, true, true, false, false] rfl rfl (any_of HT_.out (by kernel_rfl)) (fun _ _ _ h => h) (Or.inr ⟨by rfl, rfl⟩) ?_ ?_
        rotate_left
        ·simp only [Act.put, List.setIfInBounds_toArray, List.set_cons_zero, List.set_cons_succ, i64_w, i32_w]
         rfl
        refine pure_ (i := 13) (N := some 35) (v := undef) (a' := ?_) #[true, true, true, true, true, true, true, true, true, true, true, true, true, true, false] rfl rfl (any_of HT_.out (by kernel_rfl)) (fun _ _ _ h => h) (Or.inr ⟨by rfl, rfl⟩) ?_ ?_
        rotate_left
        ·simp only [Act.put, List.setIfInBounds_toArray, List.set_cons_zero, List.set_cons_succ, i64_w, i32_w]
         rfl
        refine q_p 14 (some 36) #[true, true, true, true, true, true, true, true, true, true, true, true, true, true, true] HT_.out ?_
        refine done_ (done_of HT_.out (by kernel_rfl)) ?_
        try go_wp2
        go_roundg k1
        case measure => have := HK1.out; omega
        case rel => exact ⟨(wrap64 (x3_1 + 1)), q_i, H', ⟨by have := HK1.out; omega⟩, ⟨bq⟩⟩
      ·rw [if_neg c6] at H
       have c6b0 : (t360 == 0) = false := beq_eq_false_iff_ne.mpr c6
       have c6b1 : (t360 != 0) = true := bne_iff_ne.mpr c6
       obtain rfl := Option.some.inj H
       have p359 : 0 ≤ (x3_1 : Int) := q_d
       have q359 : x3_1 < (l0.length : Int) := q_d
       obtain ⟨ad359, e359, hx359_0, hx359_1, hx359_2, hx359_3⟩ := at_T49 HR0.out x3_1 p359 q359
       cases e359
       replace hx359_0 := q_x HB.out hx359_0
       replace hx359_1 := q_x HB.out hx359_1
       replace hx359_2 := q_x HB.out hx359_2
       replace hx359_3 := q_x HB.out hx359_3
       replace p359 := eq_true p359
       replace q359 := eq_true q359
       go_wp2_with (first | ((with_reducible refine gate_callee (f := 63) rfl ?_); refine goesLq (some 18) rfl rfl Try.func63 (by kernel_rfl) rfl #[.agg #[.string ((rd_T49 l0 x3_1).f0), .int .i64 ((rd_T49 l0 x3_1).f1), .string ((rd_T49 l0 x3_1).f2), .bool ((rd_T49 l0 x3_1).f3)]] rfl ?_; (with_reducible refine (spec_RowFault.calls k1 ((rd_T49 l0 x3_1).f0) ((rd_T49 l0 x3_1).f1) ((rd_T49 l0 x3_1).f2) ((rd_T49 l0 x3_1).f3) t360 _ A5.out).mono ?_); rintro e w21 ⟨rfl, hb⟩; refine ⟨_, rfl, ?_⟩; have n0_ := am (below_step bq hb); revert n0_; clear HB; intro HB; (try clear hb); (try clear hb2); (try clear hk); (try clear hi)))
       go_ret
       exact ⟨q_e, bq⟩
     ·rw [if_neg c4] at H
      exact absurd H (by simp)
    ·rw [if_neg c3] at H
     have c3b0 := decide_eq_false c3
     clear c3
     obtain rfl := Option.some.inj H
     go_wp2
     go_ret
     exact ⟨q_e, bq⟩

/-! ### spec_l5Merge: function 103 -/
mutual
def spec_l5Merge.l0 : Nat → List (List (S49)) → List (S49) → Int → Option ((List (S49)))
  | 0, _, _, _ => none
  | k + 1, x0, x3, x4 => if x4 < (x0.length : Int) then (spec_l5Merge.l1 k x0 x3 x4 0) else (some x3)
def spec_l5Merge.l1 : Nat → List (List (S49)) → List (S49) → Int → Int → Option ((List (S49)))
  | 0, _, _, _, _ => none
  | k + 1, x0, x3, x4, x5 => if 0 ≤ x4 then (if x4 < (x0.length : Int) then (if x5 < ((rd_L5 x0 x4).length : Int) then (if 0 ≤ x5 then ((spec_l5Put.f k x3 ((rd_T49 (rd_L5 x0 x4) x5).f0) ((rd_T49 (rd_L5 x0 x4) x5).f1) ((rd_T49 (rd_L5 x0 x4) x5).f2) ((rd_T49 (rd_L5 x0 x4) x5).f3)).bind fun t370 => (spec_l5Merge.l1 k x0 t370 x4 (wrap64 (x5 + 1)))) else (none)) else (spec_l5Merge.l0 k x0 x3 (wrap64 (x4 + 1)))) else (none)) else (none)
end
def spec_l5Merge.f (k : Nat) (l0 : List (List (S49))) : Option ((List (S49))) := spec_l5Merge.l0 k l0 (([] : List (S49))) 0
theorem spec_l5Merge.calls (k : Nat) (A0 : Option Addr) (c0 : Nat) (l0 : List (List (S49))) (r : List (S49)) (w : World) (hr0 : Kd.C (Kd.slice 49 k49) w A0 l0.length l0) (hc0 : l0.length ≤ c0) (h : spec_l5Merge.f k l0 = some r) :
  Calls Try.prog 103 #[.slice A0 l0.length c0] w fun e w' => ∃ v0_ : Value, e = .returned (v0_) ∧ Kd.R k49 49 w' w.heap.size (fun _ => True) v0_ r ∧ Below w.heap.size w w' := by
 have hu49 := Try.underlying49
 have HR0 := am hr0
 have HC0 := am hc0
 clear hr0 hc0
 have HB := am (Below.refl w.heap.size w)
 have H : (spec_l5Merge.l0 k l0 (([] : List (S49))) 0) = some r := h
 clear h
 obtain ⟨y364, hy364⟩ : ∃ y_ : List (S49), y_ = (([] : List (S49))) := ⟨_, rfl⟩
 replace H : (spec_l5Merge.l0 k l0 y364 0) = some r := q_h hy364 H
 have Ny364 := am hy364
 clear hy364
 have H' := am H
 clear H
 go_enter Try.func103, Try.ntmps103
 go_wp2_with (first | ((with_reducible refine gate_dst (N := 6) rfl ?_); refine Kd.R_lit k49 _ 49 ?hg (N := 6) ?hd (xs := ([] : List (S49))) (inner := []) (ok := fun _ => True) (okp := fun _ => True) ?hr ?hp (fun _ hk => hk) trivial (Below.refl _ _) (Nat.le_refl _) (by simp) ?_; (case hd => rfl); (case hg => rfl); (case hr => first | (go_simp; done) | (go_simp; rfl)); (case hp => exact (Reps.none _ _)); intro v365 w2 ho3 hb hg_ hnew_; clear hg_ hnew_; (first | rw [← Ny364.out] at ho3 | (simp only [Int.reduceToNat] at ho3; rw [← Ny364.out] at ho3)); have n0_ := am (Kd.R_lower ho3 (below_size bq)); have n1_ := am (below_step bq hb); revert n0_ n1_; clear HB; intro HO366 HB; clear hb ho3))
 go_loopg [3, 4] k (fun kq v3 v4 w' => ∃ (x3_1 : List (S49)) (x4_1 : Int), v4 = .int .i64 x4_1 ∧ Aside0 (spec_l5Merge.l0 kq l0 x3_1 x4_1 = some r) ∧ Aside0 (kq ≤ k) ∧ Aside0 (Kd.R k49 49 w' w.heap.size (fun _ => True) v3 x3_1) ∧ Aside0 (Below w.heap.size w w'))
 case atStart => exact ⟨(y364), (0), q_i, H', ⟨Nat.le_refl _⟩, ⟨q_r (HO366.out)⟩, ⟨bq⟩⟩
 case round =>
  clear H'
  (try clear c1); (try clear p2)
  obtain ⟨x3_1, x4_1, rfl, HA, HK1, HO_3, HB⟩ := hrel
  cases gk with
  | zero => exact absurd HA.out (by simp [spec_l5Merge.l0])
  | succ k1 =>
   have H := HA.out
   clear HA
   simp only [spec_l5Merge.l0] at H
   by_cases c4 : x4_1 < (l0.length : Int)
   ·rw [if_pos c4] at H
    have c4b0 := decide_eq_true c4
    clear c4
    have H' := am H
    clear H
    go_wp2
    go_loopg [3, 5] k1 (fun kq v3 v5 w' => ∃ (x3_2 : List (S49)) (x5_2 : Int), v5 = .int .i64 x5_2 ∧ Aside0 (spec_l5Merge.l1 kq l0 x3_2 x4_1 x5_2 = some r) ∧ Aside0 (kq ≤ k1) ∧ Aside0 (Kd.R k49 49 w' w.heap.size (fun _ => True) v3 x3_2) ∧ Aside0 (Below w.heap.size w w'))
    case atStart => exact ⟨(x3_1), (0), q_i, H', ⟨Nat.le_refl _⟩, ⟨q_r (HO_3.out)⟩, ⟨bq⟩⟩
    case round =>
     clear H'
     (try clear c1); (try clear p2); (try clear c4); (try clear c4b0); (try clear p2)
     obtain ⟨x3_2, x5_2, rfl, HA, HK2, HO_3, HB⟩ := hrel
     cases gk with
     | zero => exact absurd HA.out (by simp [spec_l5Merge.l1])
     | succ k2 =>
      have H := HA.out
      clear HA
      simp only [spec_l5Merge.l1] at H
      by_cases c5 : 0 ≤ x4_1
      ·rw [if_pos c5] at H
       have c5b0 := decide_eq_true c5
       clear c5
       by_cases c6 : x4_1 < (l0.length : Int)
       ·rw [if_pos c6] at H
        have c6b0 := decide_eq_true c6
        clear c6
        by_cases c7 : x5_2 < ((rd_L5 l0 x4_1).length : Int)
        ·rw [if_pos c7] at H
         have c7b0 := decide_eq_true c7
         clear c7
         by_cases c8 : 0 ≤ x5_2
         ·rw [if_pos c8] at H
          have c8b0 := decide_eq_true c8
          clear c8
          replace H := ob H
          obtain ⟨t370, A90, H⟩ := H
          replace H : (spec_l5Merge.l1 k2 l0 t370 x4_1 (wrap64 (x5_2 + 1))) = some r := H
          have A9 := am A90
          clear A90
          have H' := am H
          clear H
          have p367 : 0 ≤ (x4_1 : Int) := q_d
          have q367 : x4_1 < (l0.length : Int) := q_d
          obtain ⟨ad367, A367_0, c367_0, e367, hx367_0, hl367_0, hi367_0⟩ := at_L5 HR0.out x4_1 p367 q367
          cases e367
          replace hx367_0 := q_x HB.out hx367_0
          have HR367_0 := am hi367_0
          have HC367_0 := am hl367_0
          clear hi367_0 hl367_0
          replace p367 := eq_true p367
          replace q367 := eq_true q367
          have p368 : 0 ≤ (x4_1 : Int) := q_d
          have q368 : x4_1 < (l0.length : Int) := q_d
          obtain ⟨ad368, A368_0, c368_0, e368, hx368_0, hl368_0, hi368_0⟩ := at_L5 HR0.out x4_1 p368 q368
          obtain rfl : ad367 = ad368 := (by injection e368)
          replace hx368_0 := q_x HB.out hx368_0
          have HR368_0 := am hi368_0
          have HC368_0 := am hl368_0
          clear hi368_0 hl368_0
          replace p368 := eq_true p368
          replace q368 := eq_true q368
          have ea_ := Option.some.inj (hx367_0.symm.trans hx368_0)
          injection ea_ with ea_ en_ ec_
          subst ea_
          subst ec_
          clear en_
          have p369 : 0 ≤ (x5_2 : Int) := q_d
          have q369 : x5_2 < ((rd_L5 l0 x4_1).length : Int) := q_d
          obtain ⟨ad369, e369, hx369_0, hx369_1, hx369_2, hx369_3⟩ := at_T49 HR368_0.out x5_2 p369 q369
          cases e369
          replace hx369_0 := q_x HB.out hx369_0
          replace hx369_1 := q_x HB.out hx369_1
          replace hx369_2 := q_x HB.out hx369_2
          replace hx369_3 := q_x HB.out hx369_3
          replace p369 := eq_true p369
          replace q369 := eq_true q369
          obtain ⟨Ao10, co10, eo10⟩ := Kd.R_slice HO_3.out
          subst eo10
          go_wp2_with (first | ((with_reducible refine gate_callee (f := 115) rfl ?_); refine goesLq (some 30) rfl rfl Try.func115 (by kernel_rfl) rfl #[.slice Ao10 x3_2.length co10, .agg #[.string ((rd_T49 (rd_L5 l0 x4_1) x5_2).f0), .int .i64 ((rd_T49 (rd_L5 l0 x4_1) x5_2).f1), .string ((rd_T49 (rd_L5 l0 x4_1) x5_2).f2), .bool ((rd_T49 (rd_L5 l0 x4_1) x5_2).f3)]] rfl ?_; (with_reducible refine (spec_l5Put.calls k2 (fun k_ => some k_ = (.slice Ao10 x3_2.length co10 : Value).ownBlock) (.slice Ao10 x3_2.length co10) x3_2 ((rd_T49 (rd_L5 l0 x4_1) x5_2).f0) ((rd_T49 (rd_L5 l0 x4_1) x5_2).f1) ((rd_T49 (rd_L5 l0 x4_1) x5_2).f2) ((rd_T49 (rd_L5 l0 x4_1) x5_2).f3) t370 w _ ?side1 ?side2 A9.out).mono ?_); (case side1 => repeat (first | (with_reducible first | exact HB.out | apply below_alloc | apply pw_below_drewN | apply below_drew1) | exact HB.out)); (case side2 => exact Kd.R_tight rfl HO_3.out); rintro e w11 ⟨v371, rfl, ho0, hb, hkp⟩; refine ⟨_, rfl, ?_⟩; have n0_ := am (Kd.R_mono (ok' := fun k_ => True) ho0 (fun k_ hk_ => trivial)); have n1_ := am (hb); revert n0_ n1_; clear HB HO_3; intro HO372 HB; (try clear hb); (try clear hkp); (try clear ho0)))
          go_roundg k2
          case measure => have := HK1.out; have := HK2.out; omega
          case rel => exact ⟨(t370), (wrap64 (x5_2 + 1)), q_i, H', ⟨by have := HK1.out; have := HK2.out; omega⟩, ⟨q_r (HO372.out)⟩, ⟨bq⟩⟩
         ·rw [if_neg c8] at H
          exact absurd H (by simp)
        ·rw [if_neg c7] at H
         have c7b0 := decide_eq_false c7
         clear c7
         have H' := am H
         clear H
         have p367 : 0 ≤ (x4_1 : Int) := q_d
         have q367 : x4_1 < (l0.length : Int) := q_d
         obtain ⟨ad367, A367_0, c367_0, e367, hx367_0, hl367_0, hi367_0⟩ := at_L5 HR0.out x4_1 p367 q367
         cases e367
         replace hx367_0 := q_x HB.out hx367_0
         have HR367_0 := am hi367_0
         have HC367_0 := am hl367_0
         clear hi367_0 hl367_0
         replace p367 := eq_true p367
         replace q367 := eq_true q367
         go_wp2
         go_roundg k2
         case measure => have := HK1.out; have := HK2.out; omega
         case rel => exact ⟨(x3_2), (wrap64 (x4_1 + 1)), q_i, H', ⟨by have := HK1.out; have := HK2.out; omega⟩, ⟨q_r (HO_3.out)⟩, ⟨bq⟩⟩
       ·rw [if_neg c6] at H
        exact absurd H (by simp)
      ·rw [if_neg c5] at H
       exact absurd H (by simp)
   ·rw [if_neg c4] at H
    have c4b0 := decide_eq_false c4
    clear c4
    obtain rfl := Option.some.inj H
    go_wp2
    go_ret
    exact ⟨_, q_e, q_r (HO_3.out), bq⟩

end Go.Proofs.Ytdhlcnlcpjlliaa.PFnTables
