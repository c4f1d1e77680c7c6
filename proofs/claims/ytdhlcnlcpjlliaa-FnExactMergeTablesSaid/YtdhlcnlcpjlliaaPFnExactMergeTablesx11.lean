/- Functions that a law reaches, as plain Lean functions, with the proof that the machine comes to their answers. No conditions. -/
import Derived.Test.YtdhlcnlcpjlliaaPFnExactMergeTablesx0
import Derived.Test.YtdhlcnlcpjlliaaPFnExactMergeTablesx10
namespace Go.Proofs.Ytdhlcnlcpjlliaa.PFnExactMergeTables
open Go.RowKit Go.Proofs.YtdhlcnlcpjlliaaW.PrintWords Go.Proofs.YtdhlcnlcpjlliaaW.PrintLast Go.Proofs.YtdhlcnlcpjlliaaW.PrintMore
attribute [local go_sem] max2_int min2_int max_two min_two max_three min_three max_four min_four   -- for this text's walks alone
set_option linter.unusedVariables false
set_option linter.unusedSimpArgs false
set_option maxHeartbeats 8000000
set_option maxRecDepth 100000

/-! ### spec_TableFault: function 16 -/
def spec_TableFault.l0 : Nat → List (S49) → Int → Option (Int)
  | 0, _, _ => none
  | k + 1, x0, x3 => if x3 < (x0.length : Int) then (if 0 ≤ x3 then ((spec_RowFault.f k ((rd_T49 x0 x3).f0) ((rd_T49 x0 x3).f1) ((rd_T49 x0 x3).f2) ((rd_T49 x0 x3).f3)).bind fun t239 => (if t239 = 0 then (if x3 > 0 then (if 0 ≤ (wrap64 (x3 - 1)) then (if (wrap64 (x3 - 1)) < (x0.length : Int) then ((spec_l5Ahead.f ((rd_T49 x0 (wrap64 (x3 - 1))).f0) ((rd_T49 x0 (wrap64 (x3 - 1))).f1) ((rd_T49 x0 (wrap64 (x3 - 1))).f2) ((rd_T49 x0 (wrap64 (x3 - 1))).f3) ((rd_T49 x0 x3).f0) ((rd_T49 x0 x3).f1) ((rd_T49 x0 x3).f2) ((rd_T49 x0 x3).f3)).bind fun t242 => (if t242 = true then (spec_TableFault.l0 k x0 (wrap64 (x3 + 1))) else (some 1))) else (none)) else (none)) else (spec_TableFault.l0 k x0 (wrap64 (x3 + 1)))) else (some t239))) else (none)) else (some 0)
def spec_TableFault.f (k : Nat) (l0 : List (S49)) : Option (Int) := if (l0.length : Int) > 200 then (some 2) else (spec_TableFault.l0 k l0 0)
def spec_TableFault.T9 : Bool × List (List Nat × List Nat) := (true, [([], []), ([0], [0]), ([1], [1]), ([2], [2]), ([2], [2]), ([4, 2], [2, 4]), ([3, 5, 2], [2, 3, 5]), ([6, 2], [2, 6]), ([2], [2]), ([2], [2]), ([8, 9, 2], [2, 8, 9]), ([10, 2], [2, 10]), ([7, 11, 2, 2], [2, 7, 11]), ([12, 2], [2, 12]), ([2, 13], [2, 13])])
def spec_TableFault.B9 : List Nat := [0, 1, 3, 7, 7, 23, 63, 127, 7, 7, 775, 1799, 4095, 8191, 16383]
theorem spec_TableFault.tab9 : rtab .any (opsOf Try.f16 9) = spec_TableFault.T9 := by kernel_rfl
theorem spec_TableFault.bits9 : waitsOk spec_TableFault.T9.2 spec_TableFault.B9 = true := by kernel_rfl
theorem spec_TableFault.calls (k : Nat) (A0 : Option Addr) (c0 : Nat) (l0 : List (S49)) (r : Int) (w : World) (hr0 : Kd.C k49 w A0 l0.length l0) (hc0 : l0.length ≤ c0) (h : spec_TableFault.f k l0 = some r) :
  Calls Try.prog 16 #[.slice A0 l0.length c0] w fun e w' => e = .returned (.int .i64 r) ∧ Below w.heap.size w w' := by
 have hu49 := Try.underlying49
 have HR0 := am hr0
 have HC0 := am hc0
 clear hr0 hc0
 have HB := am (Below.refl w.heap.size w)
 have H : (if (l0.length : Int) > 200 then (some 2) else (spec_TableFault.l0 k l0 0)) = some r := h
 clear h
 by_cases c2 : (l0.length : Int) > 200
 ·rw [if_pos c2] at H
  have c2b0 := decide_eq_true c2
  have c2b1 : decide (200 < l0.length) = true := decide_eq_true (by omega)
  clear c2
  obtain rfl := Option.some.inj H
  go_enter Try.func16, Try.ntmps16
  go_wp2
  go_ret
  exact ⟨q_e, bq⟩
 ·rw [if_neg c2] at H
  have c2b0 := decide_eq_false c2
  have c2b1 : decide (200 < l0.length) = false := decide_eq_false (by omega)
  clear c2
  have H' := am H
  clear H
  go_enter Try.func16, Try.ntmps16
  go_wp2
  go_loopg [3] k (fun kq v3 w' => ∃ (x3_1 : Int), v3 = .int .i64 x3_1 ∧ Aside0 (spec_TableFault.l0 kq l0 x3_1 = some r) ∧ Aside0 (kq ≤ k) ∧ Aside0 (Below w.heap.size w w'))
  case atStart => exact ⟨(0), q_i, H', ⟨Nat.le_refl _⟩, ⟨bq⟩⟩
  case round =>
   clear H'
   (try clear c1); (try clear c2); (try clear c2b0); (try clear c2b1); (try clear p2)
   obtain ⟨x3_1, rfl, HA, HK1, HB⟩ := hrel
   cases gk with
   | zero => exact absurd HA.out (by simp [spec_TableFault.l0])
   | succ k1 =>
    have H := HA.out
    clear HA
    simp only [spec_TableFault.l0] at H
    by_cases c3 : x3_1 < (l0.length : Int)
    ·rw [if_pos c3] at H
     have c3b0 := decide_eq_true c3
     clear c3
     by_cases c4 : 0 ≤ x3_1
     ·rw [if_pos c4] at H
      have c4b0 := decide_eq_true c4
      clear c4
      replace H := ob H
      obtain ⟨t239, A50, H⟩ := H
      replace H : (if t239 = 0 then (if x3_1 > 0 then (if 0 ≤ (wrap64 (x3_1 - 1)) then (if (wrap64 (x3_1 - 1)) < (l0.length : Int) then ((spec_l5Ahead.f ((rd_T49 l0 (wrap64 (x3_1 - 1))).f0) ((rd_T49 l0 (wrap64 (x3_1 - 1))).f1) ((rd_T49 l0 (wrap64 (x3_1 - 1))).f2) ((rd_T49 l0 (wrap64 (x3_1 - 1))).f3) ((rd_T49 l0 x3_1).f0) ((rd_T49 l0 x3_1).f1) ((rd_T49 l0 x3_1).f2) ((rd_T49 l0 x3_1).f3)).bind fun t242 => (if t242 = true then (spec_TableFault.l0 k1 l0 (wrap64 (x3_1 + 1))) else (some 1))) else (none)) else (none)) else (spec_TableFault.l0 k1 l0 (wrap64 (x3_1 + 1)))) else (some t239)) = some r := H
      have A5 := am A50
      clear A50
      by_cases c6 : t239 = 0
      ·rw [if_pos c6] at H
       have c6b0 : (t239 == 0) = true := beq_iff_eq.mpr c6
       have c6b1 : (t239 != 0) = false := bne_eq_false_iff_eq.mpr c6
       clear c6
       by_cases c7 : x3_1 > 0
       ·rw [if_pos c7] at H
        have c7b0 := decide_eq_true c7
        clear c7
        obtain ⟨ji8, hji8⟩ : ∃ j_ : Int, (wrap64 (x3_1 - 1)) = j_ := ⟨_, rfl⟩
        replace H : (if 0 ≤ (ji8) then (if (ji8) < (l0.length : Int) then ((spec_l5Ahead.f ((rd_T49 l0 (ji8)).f0) ((rd_T49 l0 (ji8)).f1) ((rd_T49 l0 (ji8)).f2) ((rd_T49 l0 (ji8)).f3) ((rd_T49 l0 x3_1).f0) ((rd_T49 l0 x3_1).f1) ((rd_T49 l0 x3_1).f2) ((rd_T49 l0 x3_1).f3)).bind fun t242 => (if t242 = true then (spec_TableFault.l0 k1 l0 (wrap64 (x3_1 + 1))) else (some 1))) else (none)) else (none)) = some r := by first | (rw [hji8] at H; exact H) | (simp only [hji8] at H ⊢; exact H)
        (try rw [hji8] at A5)
        have hji8w : (IntKind.i64.wrap (x3_1 - 1)) = ji8 := (i64_w _).trans hji8
        by_cases c9 : 0 ≤ (ji8)
        ·rw [if_pos c9] at H
         have c9b0 := decide_eq_true c9
         clear c9
         by_cases c10 : (ji8) < (l0.length : Int)
         ·rw [if_pos c10] at H
          have c10b0 := decide_eq_true c10
          clear c10
          replace H := ob H
          obtain ⟨t242, A110, H⟩ := H
          replace H : (if t242 = true then (spec_TableFault.l0 k1 l0 (wrap64 (x3_1 + 1))) else (some 1)) = some r := H
          have A11 := am A110
          clear A110
          by_cases c12 : t242 = true
          ·subst c12
           have H1 : (spec_TableFault.l0 k1 l0 (wrap64 (x3_1 + 1))) = some r := by rw [if_pos rfl] at H; exact H
           clear H
           have H := H1
           clear H1
           have H' := am H
           clear H
           have p238 : 0 ≤ (x3_1 : Int) := q_d
           have q238 : x3_1 < (l0.length : Int) := q_d
           obtain ⟨ad238, e238, hx238_0, hx238_1, hx238_2, hx238_3⟩ := at_T49 HR0.out x3_1 p238 q238
           cases e238
           replace hx238_0 := q_x HB.out hx238_0
           replace hx238_1 := q_x HB.out hx238_1
           replace hx238_2 := q_x HB.out hx238_2
           replace hx238_3 := q_x HB.out hx238_3
           replace p238 := eq_true p238
           replace q238 := eq_true q238
           try go_wp2_with (first | ((with_reducible refine gate_callee (f := 63) rfl ?_); refine goesLq (some 18) rfl rfl Try.func63 (by kernel_rfl) rfl #[.agg #[.string ((rd_T49 l0 x3_1).f0), .int .i64 ((rd_T49 l0 x3_1).f1), .string ((rd_T49 l0 x3_1).f2), .bool ((rd_T49 l0 x3_1).f3)]] rfl ?_; (with_reducible refine (spec_RowFault.calls k1 ((rd_T49 l0 x3_1).f0) ((rd_T49 l0 x3_1).f1) ((rd_T49 l0 x3_1).f2) ((rd_T49 l0 x3_1).f3) t239 _ A5.out).mono ?_); rintro e w13 ⟨rfl, hb⟩; refine ⟨_, rfl, ?_⟩; have n0_ := am (below_step bq hb); revert n0_; clear HB; intro HB; (try clear hb); (try clear hb2); (try clear hk); (try clear hi)))
           have n0_ := am (below_drew1 HB.out)
           clear HB
           have HB := n0_
           clear n0_
           have p240 : 0 ≤ ((ji8) : Int) := q_d
           have q240 : (ji8) < (l0.length : Int) := q_d
           obtain ⟨ad240, e240, hx240_0, hx240_1, hx240_2, hx240_3⟩ := at_T49 HR0.out (ji8) p240 q240
           have hw240_3 := hx240_3
           have hw240_2 := hx240_2
           have hw240_1 := hx240_1
           have hw240_0 := hx240_0
           obtain rfl : ad238 = ad240 := (by injection e240)
           replace hx240_0 := q_x HB.out hx240_0
           replace hx240_1 := q_x HB.out hx240_1
           replace hx240_2 := q_x HB.out hx240_2
           replace hx240_3 := q_x HB.out hx240_3
           replace p240 := eq_true p240
           replace q240 := eq_true q240
           have p241 : 0 ≤ (x3_1 : Int) := q_d
           have q241 : x3_1 < (l0.length : Int) := q_d
           obtain ⟨ad241, e241, hx241_0, hx241_1, hx241_2, hx241_3⟩ := at_T49 HR0.out x3_1 p241 q241
           have hw241_3 := hx241_3
           have hw241_2 := hx241_2
           have hw241_1 := hx241_1
           have hw241_0 := hx241_0
           obtain rfl : ad238 = ad241 := (by injection e241)
           replace hx241_0 := q_x HB.out hx241_0
           replace hx241_1 := q_x HB.out hx241_1
           replace hx241_2 := q_x HB.out hx241_2
           replace hx241_3 := q_x HB.out hx241_3
           replace p241 := eq_true p241
           replace q241 := eq_true q241
           refine start_ (n := 15) (S := fun w' => w'.cell? (ad238.add (((ji8)).toNat * 4)) = some (.string ((rd_T49 l0 (ji8)).f0)) ∧ w'.cell? ⟨(ad238.add (((ji8)).toNat * 4)).block, (ad238.add (((ji8)).toNat * 4)).off + 1, none⟩ = some (.int .i64 ((rd_T49 l0 (ji8)).f1)) ∧ w'.cell? ⟨(ad238.add (((ji8)).toNat * 4)).block, (ad238.add (((ji8)).toNat * 4)).off + 2, none⟩ = some (.string ((rd_T49 l0 (ji8)).f2)) ∧ w'.cell? ⟨(ad238.add (((ji8)).toNat * 4)).block, (ad238.add (((ji8)).toNat * 4)).off + 3, none⟩ = some (.bool ((rd_T49 l0 (ji8)).f3)) ∧ w'.cell? (ad238.add ((x3_1).toNat * 4)) = some (.string ((rd_T49 l0 x3_1).f0)) ∧ w'.cell? ⟨(ad238.add ((x3_1).toNat * 4)).block, (ad238.add ((x3_1).toNat * 4)).off + 1, none⟩ = some (.int .i64 ((rd_T49 l0 x3_1).f1)) ∧ w'.cell? ⟨(ad238.add ((x3_1).toNat * 4)).block, (ad238.add ((x3_1).toNat * 4)).off + 2, none⟩ = some (.string ((rd_T49 l0 x3_1).f2)) ∧ w'.cell? ⟨(ad238.add ((x3_1).toNat * 4)).block, (ad238.add ((x3_1).toNat * 4)).off + 3, none⟩ = some (.bool ((rd_T49 l0 x3_1).f3))) (ds := []) #[false, false, false, false, false, false, false, false, false, false, false, false, false, false, false] (by kernel_rfl) rfl rfl ⟨((HB.out.cell (wb hw240_0)).trans hw240_0), ((HB.out.cell (wb hw240_1)).trans hw240_1), ((HB.out.cell (wb hw240_2)).trans hw240_2), ((HB.out.cell (wb hw240_3)).trans hw240_3), ((HB.out.cell (wb hw241_0)).trans hw241_0), ((HB.out.cell (wb hw241_1)).trans hw241_1), ((HB.out.cell (wb hw241_2)).trans hw241_2), ((HB.out.cell (wb hw241_3)).trans hw241_3)⟩ (fun hHeld => ?_); refine with_tabW spec_TableFault.tab9 spec_TableFault.bits9 (fun HT_ HW_ => ?_)
           generalize w13.drew = w14 at HB hx240_0 hx240_1 hx240_2 hx240_3 hx241_0 hx241_1 hx241_2 hx241_3 hHeld ⊢
           refine q_p 0 (some 22) #[true, false, false, false, false, false, false, false, false, false, false, false, false, false, false] HT_.out ?_
           refine q_p 1 (some 23) #[true, true, false, false, false, false, false, false, false, false, false, false, false, false, false] HT_.out ?_
           refine q_p 2 (some 24) #[true, true, true, false, false, false, false, false, false, false, false, false, false, false, false] HT_.out ?_
           refine q_p 3 (some 25) #[true, true, true, true, false, false, false, false, false, false, false, false, false, false, false] HT_.out ?_
           refine q_p 4 (some 26) #[true, true, true, true, true, false, false, false, false, false, false, false, false, false, false] HT_.out ?_
           refine q_p 5 (some 27) #[true, true, true, true, true, true, false, false, false, false, false, false, false, false, false] HT_.out ?_
           refine q_p 6 (some 28) #[true, true, true, true, true, true, true, false, false, false, false, false, false, false, false] HT_.out ?_
           refine q_p 8 (some 30) #[true, true, true, true, true, true, true, false, true, false, false, false, false, false, false] HT_.out ?_
           refine q_p 9 (some 31) #[true, true, true, true, true, true, true, false, true, true, false, false, false, false, false] HT_.out ?_
           refine q_p 10 (some 32) #[true, true, true, true, true, true, true, false, true, true, true, false, false, false, false] HT_.out ?_
           refine q_t 7 (some 29) #[true, true, true, true, true, true, true, true, true, true, true, false, false, false, false] HT_.out HW_.out hHeld ?_
           refine q_t 11 (some 33) #[true, true, true, true, true, true, true, true, true, true, true, true, false, false, false] HT_.out HW_.out hHeld ?_
           refine one_ (i := 12) (N := some 34) #[true, true, true, true, true, true, true, true, true, true, true, true, true, false, false] rfl rfl (one_of HT_.out (by kernel_rfl)) (by decide) (fun K hK => ?_)
           refine goes_ Try.func64 (by kernel_rfl) rfl #[.agg #[.string ((rd_T49 l0 (ji8)).f0), .int .i64 ((rd_T49 l0 (ji8)).f1), .string ((rd_T49 l0 (ji8)).f2), .bool ((rd_T49 l0 (ji8)).f3)], .agg #[.string ((rd_T49 l0 x3_1).f0), .int .i64 ((rd_T49 l0 x3_1).f1), .string ((rd_T49 l0 x3_1).f2), .bool ((rd_T49 l0 x3_1).f3)]] (by rfl) rfl rfl (by (try simp only [List.map_toArray, List.map_cons, List.map_nil]); first | done | (simp only [hji8]; rfl) | rfl | (simp only [List.length_drop, List.length_take]; rfl)) ?_
           with_reducible refine (spec_l5Ahead.calls ((rd_T49 l0 (ji8)).f0) ((rd_T49 l0 (ji8)).f1) ((rd_T49 l0 (ji8)).f2) ((rd_T49 l0 (ji8)).f3) ((rd_T49 l0 x3_1).f0) ((rd_T49 l0 x3_1).f1) ((rd_T49 l0 x3_1).f2) ((rd_T49 l0 x3_1).f3) true _ A11.out).mono ?_
           rintro e w15 ⟨rfl, hb⟩
           refine ⟨_, rfl, ?_⟩
           have n0_ := am (below_step bq hb)
           clear HB
           have HB := n0_
           clear n0_
           (try clear hb)
           (try clear hb2)
           (try clear hk)
           (try clear hi)
           refine hK.out _ _ ⟨((HB.out.cell (wb hw240_0)).trans hw240_0), ((HB.out.cell (wb hw240_1)).trans hw240_1), ((HB.out.cell (wb hw240_2)).trans hw240_2), ((HB.out.cell (wb hw240_3)).trans hw240_3), ((HB.out.cell (wb hw241_0)).trans hw241_0), ((HB.out.cell (wb hw241_1)).trans hw241_1), ((HB.out.cell (wb hw241_2)).trans hw241_2), ((HB.out.cell (wb hw241_3)).trans hw241_3)⟩ (fun hHeld => ?_)
           clear hK K
           refine norm_ (a' := ?_) ?_ ?_
           rotate_left
           ·show Act.put _ (some 34) _ = _
            simp only [Act.put, List.setIfInBounds_toArray, List.set_cons_zero, List.set_cons_succ, i64_w, i32_w]
            rfl
           refine q_p 13 (some 35) #[true, true, true, true, true, true, true, true, true, true, true, true, true, true, false] HT_.out ?_
           refine q_p 14 (some 36) #[true, true, true, true, true, true, true, true, true, true, true, true, true, true, true] HT_.out ?_
           refine done_ (done_of HT_.out (by kernel_rfl)) ?_
           try go_wp2
           go_roundg k1
           case measure => have := HK1.out; omega
           case rel => exact ⟨(wrap64 (x3_1 + 1)), q_i, H', ⟨by have := HK1.out; omega⟩, ⟨bq⟩⟩
          ·replace c12 := Bool.eq_false_iff.mpr c12
           subst c12
           have H1 : (some 1) = some r := by rw [if_neg (show ¬ (false = true) by decide)] at H; exact H
           clear H
           have H := H1
           clear H1
           obtain rfl := Option.some.inj H
           have p238 : 0 ≤ (x3_1 : Int) := q_d
           have q238 : x3_1 < (l0.length : Int) := q_d
           obtain ⟨ad238, e238, hx238_0, hx238_1, hx238_2, hx238_3⟩ := at_T49 HR0.out x3_1 p238 q238
           cases e238
           replace hx238_0 := q_x HB.out hx238_0
           replace hx238_1 := q_x HB.out hx238_1
           replace hx238_2 := q_x HB.out hx238_2
           replace hx238_3 := q_x HB.out hx238_3
           replace p238 := eq_true p238
           replace q238 := eq_true q238
           try go_wp2_with (first | ((with_reducible refine gate_callee (f := 63) rfl ?_); refine goesLq (some 18) rfl rfl Try.func63 (by kernel_rfl) rfl #[.agg #[.string ((rd_T49 l0 x3_1).f0), .int .i64 ((rd_T49 l0 x3_1).f1), .string ((rd_T49 l0 x3_1).f2), .bool ((rd_T49 l0 x3_1).f3)]] rfl ?_; (with_reducible refine (spec_RowFault.calls k1 ((rd_T49 l0 x3_1).f0) ((rd_T49 l0 x3_1).f1) ((rd_T49 l0 x3_1).f2) ((rd_T49 l0 x3_1).f3) t239 _ A5.out).mono ?_); rintro e w16 ⟨rfl, hb⟩; refine ⟨_, rfl, ?_⟩; have n0_ := am (below_step bq hb); revert n0_; clear HB; intro HB; (try clear hb); (try clear hb2); (try clear hk); (try clear hi)))
           have n0_ := am (below_drew1 HB.out)
           clear HB
           have HB := n0_
           clear n0_
           have p240 : 0 ≤ ((ji8) : Int) := q_d
           have q240 : (ji8) < (l0.length : Int) := q_d
           obtain ⟨ad240, e240, hx240_0, hx240_1, hx240_2, hx240_3⟩ := at_T49 HR0.out (ji8) p240 q240
           have hw240_3 := hx240_3
           have hw240_2 := hx240_2
           have hw240_1 := hx240_1
           have hw240_0 := hx240_0
           obtain rfl : ad238 = ad240 := (by injection e240)
           replace hx240_0 := q_x HB.out hx240_0
           replace hx240_1 := q_x HB.out hx240_1
           replace hx240_2 := q_x HB.out hx240_2
           replace hx240_3 := q_x HB.out hx240_3
           replace p240 := eq_true p240
           replace q240 := eq_true q240
           have p241 : 0 ≤ (x3_1 : Int) := q_d
           have q241 : x3_1 < (l0.length : Int) := q_d
           obtain ⟨ad241, e241, hx241_0, hx241_1, hx241_2, hx241_3⟩ := at_T49 HR0.out x3_1 p241 q241
           have hw241_3 := hx241_3
           have hw241_2 := hx241_2
           have hw241_1 := hx241_1
           have hw241_0 := hx241_0
           obtain rfl : ad238 = ad241 := (by injection e241)
           replace hx241_0 := q_x HB.out hx241_0
           replace hx241_1 := q_x HB.out hx241_1
           replace hx241_2 := q_x HB.out hx241_2
           replace hx241_3 := q_x HB.out hx241_3
           replace p241 := eq_true p241
           replace q241 := eq_true q241
           refine start_ (n := 15) (S := fun w' => w'.cell? (ad238.add (((ji8)).toNat * 4)) = some (.string ((rd_T49 l0 (ji8)).f0)) ∧ w'.cell? ⟨(ad238.add (((ji8)).toNat * 4)).block, (ad238.add (((ji8)).toNat * 4)).off + 1, none⟩ = some (.int .i64 ((rd_T49 l0 (ji8)).f1)) ∧ w'.cell? ⟨(ad238.add (((ji8)).toNat * 4)).block, (ad238.add (((ji8)).toNat * 4)).off + 2, none⟩ = some (.string ((rd_T49 l0 (ji8)).f2)) ∧ w'.cell? ⟨(ad238.add (((ji8)).toNat * 4)).block, (ad238.add (((ji8)).toNat * 4)).off + 3, none⟩ = some (.bool ((rd_T49 l0 (ji8)).f3)) ∧ w'.cell? (ad238.add ((x3_1).toNat * 4)) = some (.string ((rd_T49 l0 x3_1).f0)) ∧ w'.cell? ⟨(ad238.add ((x3_1).toNat * 4)).block, (ad238.add ((x3_1).toNat * 4)).off + 1, none⟩ = some (.int .i64 ((rd_T49 l0 x3_1).f1)) ∧ w'.cell? ⟨(ad238.add ((x3_1).toNat * 4)).block, (ad238.add ((x3_1).toNat * 4)).off + 2, none⟩ = some (.string ((rd_T49 l0 x3_1).f2)) ∧ w'.cell? ⟨(ad238.add ((x3_1).toNat * 4)).block, (ad238.add ((x3_1).toNat * 4)).off + 3, none⟩ = some (.bool ((rd_T49 l0 x3_1).f3))) (ds := []) #[false, false, false, false, false, false, false, false, false, false, false, false, false, false, false] (by kernel_rfl) rfl rfl ⟨((HB.out.cell (wb hw240_0)).trans hw240_0), ((HB.out.cell (wb hw240_1)).trans hw240_1), ((HB.out.cell (wb hw240_2)).trans hw240_2), ((HB.out.cell (wb hw240_3)).trans hw240_3), ((HB.out.cell (wb hw241_0)).trans hw241_0), ((HB.out.cell (wb hw241_1)).trans hw241_1), ((HB.out.cell (wb hw241_2)).trans hw241_2), ((HB.out.cell (wb hw241_3)).trans hw241_3)⟩ (fun hHeld => ?_); refine with_tabW spec_TableFault.tab9 spec_TableFault.bits9 (fun HT_ HW_ => ?_)
           generalize w16.drew = w17 at HB hx240_0 hx240_1 hx240_2 hx240_3 hx241_0 hx241_1 hx241_2 hx241_3 hHeld ⊢
           refine q_p 0 (some 22) #[true, false, false, false, false, false, false, false, false, false, false, false, false, false, false] HT_.out ?_
           refine q_p 1 (some 23) #[true, true, false, false, false, false, false, false, false, false, false, false, false, false, false] HT_.out ?_
           refine q_p 2 (some 24) #[true, true, true, false, false, false, false, false, false, false, false, false, false, false, false] HT_.out ?_
           refine q_p 3 (some 25) #[true, true, true, true, false, false, false, false, false, false, false, false, false, false, false] HT_.out ?_
           refine q_p 4 (some 26) #[true, true, true, true, true, false, false, false, false, false, false, false, false, false, false] HT_.out ?_
           refine q_p 5 (some 27) #[true, true, true, true, true, true, false, false, false, false, false, false, false, false, false] HT_.out ?_
           refine q_p 6 (some 28) #[true, true, true, true, true, true, true, false, false, false, false, false, false, false, false] HT_.out ?_
           refine q_p 8 (some 30) #[true, true, true, true, true, true, true, false, true, false, false, false, false, false, false] HT_.out ?_
           refine q_p 9 (some 31) #[true, true, true, true, true, true, true, false, true, true, false, false, false, false, false] HT_.out ?_
           refine q_p 10 (some 32) #[true, true, true, true, true, true, true, false, true, true, true, false, false, false, false] HT_.out ?_
           refine q_t 7 (some 29) #[true, true, true, true, true, true, true, true, true, true, true, false, false, false, false] HT_.out HW_.out hHeld ?_
           refine q_t 11 (some 33) #[true, true, true, true, true, true, true, true, true, true, true, true, false, false, false] HT_.out HW_.out hHeld ?_
           refine one_ (i := 12) (N := some 34) #[true, true, true, true, true, true, true, true, true, true, true, true, true, false, false] rfl rfl (one_of HT_.out (by kernel_rfl)) (by decide) (fun K hK => ?_)
           refine goes_ Try.func64 (by kernel_rfl) rfl #[.agg #[.string ((rd_T49 l0 (ji8)).f0), .int .i64 ((rd_T49 l0 (ji8)).f1), .string ((rd_T49 l0 (ji8)).f2), .bool ((rd_T49 l0 (ji8)).f3)], .agg #[.string ((rd_T49 l0 x3_1).f0), .int .i64 ((rd_T49 l0 x3_1).f1), .string ((rd_T49 l0 x3_1).f2), .bool ((rd_T49 l0 x3_1).f3)]] (by rfl) rfl rfl (by (try simp only [List.map_toArray, List.map_cons, List.map_nil]); first | done | (simp only [hji8]; rfl) | rfl | (simp only [List.length_drop, List.length_take]; rfl)) ?_
           with_reducible refine (spec_l5Ahead.calls ((rd_T49 l0 (ji8)).f0) ((rd_T49 l0 (ji8)).f1) ((rd_T49 l0 (ji8)).f2) ((rd_T49 l0 (ji8)).f3) ((rd_T49 l0 x3_1).f0) ((rd_T49 l0 x3_1).f1) ((rd_T49 l0 x3_1).f2) ((rd_T49 l0 x3_1).f3) false _ A11.out).mono ?_
           rintro e w18 ⟨rfl, hb⟩
           refine ⟨_, rfl, ?_⟩
           have n0_ := am (below_step bq hb)
           clear HB
           have HB := n0_
           clear n0_
           (try clear hb)
           (try clear hb2)
           (try clear hk)
           (try clear hi)
           refine hK.out _ _ ⟨((HB.out.cell (wb hw240_0)).trans hw240_0), ((HB.out.cell (wb hw240_1)).trans hw240_1), ((HB.out.cell (wb hw240_2)).trans hw240_2), ((HB.out.cell (wb hw240_3)).trans hw240_3), ((HB.out.cell (wb hw241_0)).trans hw241_0), ((HB.out.cell (wb hw241_1)).trans hw241_1), ((HB.out.cell (wb hw241_2)).trans hw241_2), ((HB.out.cell (wb hw241_3)).trans hw241_3)⟩ (fun hHeld => ?_)
           clear hK K
           refine norm_ (a' := ?_) ?_ ?_
           rotate_left
           ·show Act.put _ (some 34) _ = _
            simp only [Act.put, List.setIfInBounds_toArray, List.set_cons_zero, List.set_cons_succ, i64_w, i32_w]
            rfl
           refine q_p 13 (some 35) #[true, true, true, true, true, true, true, true, true, true, true, true, true, true, false] HT_.out ?_
           refine q_p 14 (some 36) #[true, true, true, true, true, true, true, true, true, true, true, true, true, true, true] HT_.out ?_
           refine done_ (done_of HT_.out (by kernel_rfl)) ?_
           try go_wp2
           go_ret
           exact ⟨by first | rfl | (simp [errW_none, errW_some] <;> rfl) | (simp only [← hji8]; first | rfl | (simp [errW_none, errW_some] <;> rfl)) | (simp [*, errW_none, errW_some] <;> rfl), bq⟩
         ·rw [if_neg c10] at H
          exact absurd H (by simp)
        ·rw [if_neg c9] at H
         exact absurd H (by simp)
       ·rw [if_neg c7] at H
        have c7b0 := decide_eq_false c7
        clear c7
        have H' := am H
        clear H
        have p238 : 0 ≤ (x3_1 : Int) := q_d
        have q238 : x3_1 < (l0.length : Int) := q_d
        obtain ⟨ad238, e238, hx238_0, hx238_1, hx238_2, hx238_3⟩ := at_T49 HR0.out x3_1 p238 q238
        cases e238
        replace hx238_0 := q_x HB.out hx238_0
        replace hx238_1 := q_x HB.out hx238_1
        replace hx238_2 := q_x HB.out hx238_2
        replace hx238_3 := q_x HB.out hx238_3
        replace p238 := eq_true p238
        replace q238 := eq_true q238
        try go_wp2_with (first | ((with_reducible refine gate_callee (f := 63) rfl ?_); refine goesLq (some 18) rfl rfl Try.func63 (by kernel_rfl) rfl #[.agg #[.string ((rd_T49 l0 x3_1).f0), .int .i64 ((rd_T49 l0 x3_1).f1), .string ((rd_T49 l0 x3_1).f2), .bool ((rd_T49 l0 x3_1).f3)]] rfl ?_; (with_reducible refine (spec_RowFault.calls k1 ((rd_T49 l0 x3_1).f0) ((rd_T49 l0 x3_1).f1) ((rd_T49 l0 x3_1).f2) ((rd_T49 l0 x3_1).f3) t239 _ A5.out).mono ?_); rintro e w19 ⟨rfl, hb⟩; refine ⟨_, rfl, ?_⟩; have n0_ := am (below_step bq hb); revert n0_; clear HB; intro HB; (try clear hb); (try clear hb2); (try clear hk); (try clear hi)))
        have n0_ := am (below_drew1 HB.out)
        clear HB
        have HB := n0_
        clear n0_
        refine start_ (n := 15) (S := fun w' => True) (ds := []) #[false, false, false, false, false, false, false, false, false, false, false, false, false, false, false] (by kernel_rfl) rfl rfl trivial (fun hHeld => ?_); refine with_tabW spec_TableFault.tab9 spec_TableFault.bits9 (fun HT_ HW_ => ?_)
        generalize w19.drew = w20 at HB hHeld ⊢
        refine q_p 0 (some 22) #[true, false, false, false, false, false, false, false, false, false, false, false, false, false, false] HT_.out ?_
        refine q_p 1 (some 23) #[true, true, false, false, false, false, false, false, false, false, false, false, false, false, false] HT_.out ?_
        refine q_p 2 (some 24) #[true, true, true, false, false, false, false, false, false, false, false, false, false, false, false] HT_.out ?_
        refine pure_ (i := 3) (N := some 25) (v := undef) (a' := ?_) #[true, true, true, true, false, false, false, false, false, false, false, false, false, false, false] rfl rfl (any_of HT_.out (by kernel_rfl)) (fun _ _ _ h => h) (Or.inr ⟨by rfl, rfl⟩) ?_ ?_
        rotate_left
        ·simp only [Act.put, List.setIfInBounds_toArray, List.set_cons_zero, List.set_cons_succ, i64_w, i32_w]
         rfl
        refine pure_ (i := 4) (N := some 26) (v := undef) (a' := ?_) #[true, true, true, true, true, false, false, false, false, false, false, false, false, false, false] rfl rfl (any_of HT_.out (by kernel_rfl)) (fun _ _ _ h => h) (Or.inr ⟨by rfl, rfl⟩) ?_ ?_
        rotate_left
        ·simp only [Act.put, List.setIfInBounds_toArray, List.set_cons_zero, List.set_cons_succ, i64_w, i32_w]
         rfl
        refine pure_ (i := 5) (N := some 27) (v := undef) (a' := ?_) #[true, true, true, true, true, true, false, false, false, false, false, false, false, false, false] rfl rfl (any_of HT_.out (by kernel_rfl)) (fun _ _ _ h => h) (Or.inr ⟨by rfl, rfl⟩) ?_ ?_
        rotate_left
        ·simp only [Act.put, List.setIfInBounds_toArray, List.set_cons_zero, List.set_cons_succ, i64_w, i32_w]
         rfl
        refine pure_ (i := 6) (N := some 28) (v := undef) (a' := ?_) #[true, true, true, true, true, true, true, false, false, false, false, false, false, false, false] rfl rfl (any_of HT_.out (by kernel_rfl)) (fun _ _ _ h => h) (Or.inr ⟨by rfl, rfl⟩) ?_ ?_
        rotate_left
        ·simp only [Act.put, List.setIfInBounds_toArray, List.set_cons_zero, List.set_cons_succ, i64_w, i32_w]
         rfl
        refine pure_ (i := 7) (N := some 29) (v := undef) (a' := ?_) #[true, true, true, true, true, true, true, true, false, false, false, false, false, false, false] rfl rfl (any_of HT_.out (by kernel_rfl)) (fun _ _ _ h => h) (Or.inr ⟨by rfl, rfl⟩) ?_ ?_
        rotate_left
        ·simp only [Act.put, List.setIfInBounds_toArray, List.set_cons_zero, List.set_cons_succ, i64_w, i32_w]
         rfl
        refine pure_ (i := 8) (N := some 30) (v := undef) (a' := ?_) #[true, true, true, true, true, true, true, true, true, false, false, false, false, false, false] rfl rfl (any_of HT_.out (by kernel_rfl)) (fun _ _ _ h => h) (Or.inr ⟨by rfl, rfl⟩) ?_ ?_
        rotate_left
        ·simp only [Act.put, List.setIfInBounds_toArray, List.set_cons_zero, List.set_cons_succ, i64_w, i32_w]
         rfl
        refine pure_ (i := 9) (N := some 31) (v := undef) (a' := ?_) #[true, true, true, true, true, true, true, true, true, true, false, false, false, false, false] rfl rfl (any_of HT_.out (by kernel_rfl)) (fun _ _ _ h => h) (Or.inr ⟨by rfl, rfl⟩) ?_ ?_
        rotate_left
        ·simp only [Act.put, List.setIfInBounds_toArray, List.set_cons_zero, List.set_cons_succ, i64_w, i32_w]
         rfl
        refine pure_ (i := 10) (N := some 32) (v := undef) (a' := ?_) #[true, true, true, true, true, true, true, true, true, true, true, false, false, false, false] rfl rfl (any_of HT_.out (by kernel_rfl)) (fun _ _ _ h => h) (Or.inr ⟨by rfl, rfl⟩) ?_ ?_
        rotate_left
        ·simp only [Act.put, List.setIfInBounds_toArray, List.set_cons_zero, List.set_cons_succ, i64_w, i32_w]
         rfl
        refine pure_ (i := 11) (N := some 33) (v := undef) (a' := ?_) #[true, true, true, true, true, true, true, true, true, true, true, true, false, false, false] rfl rfl (any_of HT_.out (by kernel_rfl)) (fun _ _ _ h => h) (Or.inr ⟨by rfl, rfl⟩) ?_ ?_
        rotate_left
        ·simp only [Act.put, List.setIfInBounds_toArray, List.set_cons_zero, List.set_cons_succ, i64_w, i32_w]
         rfl
        refine pure_ (i := 12) (N := some 34) (v := undef) (a' := ?_) #[true, true, true, true, true, true, true, true, true, true, true, true, true, false, false] rfl rfl (any_of HT_.out (by kernel_rfl)) (fun _ _ _ h => h) (Or.inr ⟨by rfl, rfl⟩) ?_ ?_
        rotate_left
        ·simp only [Act.put, List.setIfInBounds_toArray, List.set_cons_zero, List.set_cons_succ, i64_w, i32_w]
         rfl
        refine pure_ (i := 13) (N := some 35) (v := undef) (a' := ?_) #[true, true, true, true, true, true, true, true, true, true, true, true, true, true, false] rfl rfl (any_of HT_.out (by kernel_rfl)) (fun _ _ _ h => h) (Or.inr ⟨by rfl, rfl⟩) ?_ ?_
        rotate_left
        ·simp only [Act.put, List.setIfInBounds_toArray, List.set_cons_zero, List.set_cons_succ, i64_w, i32_w]
         rfl
        refine q_p 14 (some 36) #[true, true, true, true, true, true, true, true, true, true, true, true, true, true, true] HT_.out ?_
        refine done_ (done_of HT_.out (by kernel_rfl)) ?_
        try go_wp2
        go_roundg k1
        case measure => have := HK1.out; omega
        case rel => exact ⟨(wrap64 (x3_1 + 1)), q_i, H', ⟨by have := HK1.out; omega⟩, ⟨bq⟩⟩
      ·rw [if_neg c6] at H
       have c6b0 : (t239 == 0) = false := beq_eq_false_iff_ne.mpr c6
       have c6b1 : (t239 != 0) = true := bne_iff_ne.mpr c6
       obtain rfl := Option.some.inj H
       have p238 : 0 ≤ (x3_1 : Int) := q_d
       have q238 : x3_1 < (l0.length : Int) := q_d
       obtain ⟨ad238, e238, hx238_0, hx238_1, hx238_2, hx238_3⟩ := at_T49 HR0.out x3_1 p238 q238
       cases e238
       replace hx238_0 := q_x HB.out hx238_0
       replace hx238_1 := q_x HB.out hx238_1
       replace hx238_2 := q_x HB.out hx238_2
       replace hx238_3 := q_x HB.out hx238_3
       replace p238 := eq_true p238
       replace q238 := eq_true q238
       go_wp2_with (first | ((with_reducible refine gate_callee (f := 63) rfl ?_); refine goesLq (some 18) rfl rfl Try.func63 (by kernel_rfl) rfl #[.agg #[.string ((rd_T49 l0 x3_1).f0), .int .i64 ((rd_T49 l0 x3_1).f1), .string ((rd_T49 l0 x3_1).f2), .bool ((rd_T49 l0 x3_1).f3)]] rfl ?_; (with_reducible refine (spec_RowFault.calls k1 ((rd_T49 l0 x3_1).f0) ((rd_T49 l0 x3_1).f1) ((rd_T49 l0 x3_1).f2) ((rd_T49 l0 x3_1).f3) t239 _ A5.out).mono ?_); rintro e w21 ⟨rfl, hb⟩; refine ⟨_, rfl, ?_⟩; have n0_ := am (below_step bq hb); revert n0_; clear HB; intro HB; (try clear hb); (try clear hb2); (try clear hk); (try clear hi)))
       go_ret
       exact ⟨q_e, bq⟩
     ·rw [if_neg c4] at H
      exact absurd H (by simp)
    ·rw [if_neg c3] at H
     have c3b0 := decide_eq_false c3
     clear c3
     obtain rfl := Option.some.inj H
     go_wp2
     go_ret
     exact ⟨q_e, bq⟩

end Go.Proofs.Ytdhlcnlcpjlliaa.PFnExactMergeTables
