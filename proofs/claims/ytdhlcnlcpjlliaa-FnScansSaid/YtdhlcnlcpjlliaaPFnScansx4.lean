/- The functions that a law reaches, each as a plain Lean function with the proof that the machine comes to its answer: written by program (the kit's print, turned by wip/gen). No conditions. -/
import Derived.Test.YtdhlcnlcpjlliaaPFnScansx0
import Derived.Test.YtdhlcnlcpjlliaaPFnScansx3
namespace Go.Proofs.Ytdhlcnlcpjlliaa.PFnScans
open Go.RowKit Go.Proofs.YtdhlcnlcpjlliaaW.PrintWords Go.Proofs.YtdhlcnlcpjlliaaW.PrintLast Go.Proofs.YtdhlcnlcpjlliaaW.PrintMore
attribute [local go_sem] max2_int min2_int max_two min_two max_three min_three max_four min_four   -- for this text's walks alone
set_option linter.unusedVariables false
set_option linter.unusedSimpArgs false

/-! ### spec_TableFault: function 16 -/
def spec_TableFault.l0 : Nat → List (S49) → Int → Option (Int)
  | 0, _, _ => none
  | k + 1, x0, x3 => if x3 < (x0.length : Int) then (if 0 ≤ x3 then ((spec_RowFault.f k ((rd_T49 x0 x3).f0) ((rd_T49 x0 x3).f1) ((rd_T49 x0 x3).f2) ((rd_T49 x0 x3).f3)).bind fun t141 => (if t141 = 0 then (if x3 > 0 then (if 0 ≤ (wrap64 (x3 - 1)) then (if (wrap64 (x3 - 1)) < (x0.length : Int) then ((spec_l5Ahead.f ((rd_T49 x0 (wrap64 (x3 - 1))).f0) ((rd_T49 x0 (wrap64 (x3 - 1))).f1) ((rd_T49 x0 (wrap64 (x3 - 1))).f2) ((rd_T49 x0 (wrap64 (x3 - 1))).f3) ((rd_T49 x0 x3).f0) ((rd_T49 x0 x3).f1) ((rd_T49 x0 x3).f2) ((rd_T49 x0 x3).f3)).bind fun t144 => (if t144 = true then (spec_TableFault.l0 k x0 (wrap64 (x3 + 1))) else (some 1))) else (none)) else (none)) else (spec_TableFault.l0 k x0 (wrap64 (x3 + 1)))) else (some t141))) else (none)) else (some 0)
def spec_TableFault.f (k : Nat) (l0 : List (S49)) : Option (Int) := if (l0.length : Int) > 200 then (some 2) else (spec_TableFault.l0 k l0 0)
def spec_TableFault.T9 : Bool × List (List Nat × List Nat) := (true, [([], []), ([0], [0]), ([1], [1]), ([2], [2]), ([2], [2]), ([4, 2], [2, 4]), ([3, 5, 2], [2, 3, 5]), ([6, 2], [2, 6]), ([2], [2]), ([2], [2]), ([8, 9, 2], [2, 8, 9]), ([10, 2], [2, 10]), ([7, 11, 2, 2], [2, 7, 11]), ([12, 2], [2, 12]), ([2, 13], [2, 13])])
def spec_TableFault.B9 : List Nat := [0, 1, 3, 7, 7, 23, 63, 127, 7, 7, 775, 1799, 4095, 8191, 16383]
theorem spec_TableFault.tab9 : rtab .any (opsOf Try.f16 9) = spec_TableFault.T9 := by kernel_rfl
theorem spec_TableFault.bits9 : waitsOk spec_TableFault.T9.2 spec_TableFault.B9 = true := by kernel_rfl
set_option maxHeartbeats 8000000 in
set_option maxRecDepth 100000 in
theorem spec_TableFault.calls (k : Nat) (A0 : Option Addr) (c0 : Nat) (l0 : List (S49)) (r : Int) (w : World) (hr0 : Kd.C k49 w A0 l0.length l0) (hc0 : l0.length ≤ c0) (h : spec_TableFault.f k l0 = some r) :
  Calls Try.prog 16 #[.slice A0 l0.length c0] w fun e w' => e = .returned (.int .i64 r) ∧ Below w.heap.size w w' := by
 have hu49 := Try.underlying49
 have HR0 := Aside0.mk hr0
 have HC0 := Aside0.mk hc0
 clear hr0 hc0
 have HB := Aside0.mk (Below.refl w.heap.size w)
 have H : (if (l0.length : Int) > 200 then (some 2) else (spec_TableFault.l0 k l0 0)) = some r := h
 clear h
 by_cases c2 : (l0.length : Int) > 200
 ·rw [if_pos c2] at H
  have c2b0 := decide_eq_true c2
  have c2b1 : decide (200 < l0.length) = true := decide_eq_true (by omega)
  clear c2
  obtain rfl := Option.some.inj H
  go_enter Try.func16, Try.ntmps16
  go_wp2
  go_ret
  exact ⟨q_e, bq⟩
 ·rw [if_neg c2] at H
  have c2b0 := decide_eq_false c2
  have c2b1 : decide (200 < l0.length) = false := decide_eq_false (by omega)
  clear c2
  have H' := Aside0.mk H
  clear H
  go_enter Try.func16, Try.ntmps16
  go_wp2
  go_loopg [3] k (fun kq v3 w' => ∃ (x3_1 : Int), v3 = .int .i64 x3_1 ∧ Aside0 (spec_TableFault.l0 kq l0 x3_1 = some r) ∧ Aside0 (kq ≤ k) ∧ Aside0 (Below w.heap.size w w'))
  case atStart => exact ⟨(0), q_i, H', ⟨Nat.le_refl _⟩, ⟨bq⟩⟩
  case round =>
   clear H'
   (try clear c1); (try clear c2); (try clear c2b0); (try clear c2b1); (try clear p2)
   obtain ⟨x3_1, rfl, HA, HK1, HB⟩ := hrel
   cases gk with
   | zero => exact absurd HA.out (by simp [spec_TableFault.l0])
   | succ k1 =>
    have H := HA.out
    clear HA
    simp only [spec_TableFault.l0] at H
    by_cases c3 : x3_1 < (l0.length : Int)
    ·rw [if_pos c3] at H
     have c3b0 := decide_eq_true c3
     clear c3
     by_cases c4 : 0 ≤ x3_1
     ·rw [if_pos c4] at H
      have c4b0 := decide_eq_true c4
      clear c4
      replace H := Option.bind_eq_some_iff.mp H
      obtain ⟨t141, A50, H⟩ := H
      replace H : (if t141 = 0 then (if x3_1 > 0 then (if 0 ≤ (wrap64 (x3_1 - 1)) then (if (wrap64 (x3_1 - 1)) < (l0.length : Int) then ((spec_l5Ahead.f ((rd_T49 l0 (wrap64 (x3_1 - 1))).f0) ((rd_T49 l0 (wrap64 (x3_1 - 1))).f1) ((rd_T49 l0 (wrap64 (x3_1 - 1))).f2) ((rd_T49 l0 (wrap64 (x3_1 - 1))).f3) ((rd_T49 l0 x3_1).f0) ((rd_T49 l0 x3_1).f1) ((rd_T49 l0 x3_1).f2) ((rd_T49 l0 x3_1).f3)).bind fun t144 => (if t144 = true then (spec_TableFault.l0 k1 l0 (wrap64 (x3_1 + 1))) else (some 1))) else (none)) else (none)) else (spec_TableFault.l0 k1 l0 (wrap64 (x3_1 + 1)))) else (some t141)) = some r := H
      have A5 := Aside0.mk A50
      clear A50
      by_cases c6 : t141 = 0
      ·rw [if_pos c6] at H
       have c6b0 : (t141 == 0) = true := beq_iff_eq.mpr c6
       have c6b1 : (t141 != 0) = false := bne_eq_false_iff_eq.mpr c6
       clear c6
       by_cases c7 : x3_1 > 0
       ·rw [if_pos c7] at H
        have c7b0 := decide_eq_true c7
        clear c7
        obtain ⟨ji8, hji8⟩ : ∃ j_ : Int, (wrap64 (x3_1 - 1)) = j_ := ⟨_, rfl⟩
        replace H : (if 0 ≤ (ji8) then (if (ji8) < (l0.length : Int) then ((spec_l5Ahead.f ((rd_T49 l0 (ji8)).f0) ((rd_T49 l0 (ji8)).f1) ((rd_T49 l0 (ji8)).f2) ((rd_T49 l0 (ji8)).f3) ((rd_T49 l0 x3_1).f0) ((rd_T49 l0 x3_1).f1) ((rd_T49 l0 x3_1).f2) ((rd_T49 l0 x3_1).f3)).bind fun t144 => (if t144 = true then (spec_TableFault.l0 k1 l0 (wrap64 (x3_1 + 1))) else (some 1))) else (none)) else (none)) = some r := by first | (rw [hji8] at H; exact H) | (simp only [hji8] at H ⊢; exact H)
        (try rw [hji8] at A5)
        have hji8w : (IntKind.i64.wrap (x3_1 - 1)) = ji8 := (i64_w _).trans hji8
        by_cases c9 : 0 ≤ (ji8)
        ·rw [if_pos c9] at H
         have c9b0 := decide_eq_true c9
         clear c9
         by_cases c10 : (ji8) < (l0.length : Int)
         ·rw [if_pos c10] at H
          have c10b0 := decide_eq_true c10
          clear c10
          replace H := Option.bind_eq_some_iff.mp H
          obtain ⟨t144, A110, H⟩ := H
          replace H : (if t144 = true then (spec_TableFault.l0 k1 l0 (wrap64 (x3_1 + 1))) else (some 1)) = some r := H
          have A11 := Aside0.mk A110
          clear A110
          by_cases c12 : t144 = true
          ·subst c12
           have H1 : (spec_TableFault.l0 k1 l0 (wrap64 (x3_1 + 1))) = some r := by rw [if_pos rfl] at H; exact H
           clear H
           have H := H1
           clear H1
           have H' := Aside0.mk H
           clear H
           have p140 : 0 ≤ (x3_1 : Int) := q_d
           have q140 : x3_1 < (l0.length : Int) := q_d
           obtain ⟨ad140, e140, hx140_0, hx140_1, hx140_2, hx140_3⟩ := at_T49 HR0.out x3_1 p140 q140
           cases e140
           replace hx140_0 := q_x HB.out hx140_0
           replace hx140_1 := q_x HB.out hx140_1
           replace hx140_2 := q_x HB.out hx140_2
           replace hx140_3 := q_x HB.out hx140_3
           replace p140 := eq_true p140
           replace q140 := eq_true q140
           try go_wp2_with (first | ((with_reducible refine gate_callee (f := 63) rfl ?_); refine goesLq (some 18) rfl rfl Try.func63 (by kernel_rfl) rfl #[.agg #[.string ((rd_T49 l0 x3_1).f0), .int .i64 ((rd_T49 l0 x3_1).f1), .string ((rd_T49 l0 x3_1).f2), .bool ((rd_T49 l0 x3_1).f3)]] rfl ?_; (with_reducible refine (spec_RowFault.calls k1 ((rd_T49 l0 x3_1).f0) ((rd_T49 l0 x3_1).f1) ((rd_T49 l0 x3_1).f2) ((rd_T49 l0 x3_1).f3) t141 _ A5.out).mono ?_); rintro e w13 ⟨rfl, hb⟩; refine ⟨_, rfl, ?_⟩; have n0_ := Aside0.mk (below_step bq hb); revert n0_; clear HB; intro HB; (try clear hb); (try clear hb2); (try clear hk); (try clear hi)))
           have n0_ := Aside0.mk (below_drew1 HB.out)
           clear HB
           have HB := n0_
           clear n0_
           have p142 : 0 ≤ ((ji8) : Int) := q_d
           have q142 : (ji8) < (l0.length : Int) := q_d
           obtain ⟨ad142, e142, hx142_0, hx142_1, hx142_2, hx142_3⟩ := at_T49 HR0.out (ji8) p142 q142
           have hw142_3 := hx142_3
           have hw142_2 := hx142_2
           have hw142_1 := hx142_1
           have hw142_0 := hx142_0
           obtain rfl : ad140 = ad142 := (by injection e142)
           replace hx142_0 := q_x HB.out hx142_0
           replace hx142_1 := q_x HB.out hx142_1
           replace hx142_2 := q_x HB.out hx142_2
           replace hx142_3 := q_x HB.out hx142_3
           replace p142 := eq_true p142
           replace q142 := eq_true q142
           have p143 : 0 ≤ (x3_1 : Int) := q_d
           have q143 : x3_1 < (l0.length : Int) := q_d
           obtain ⟨ad143, e143, hx143_0, hx143_1, hx143_2, hx143_3⟩ := at_T49 HR0.out x3_1 p143 q143
           have hw143_3 := hx143_3
           have hw143_2 := hx143_2
           have hw143_1 := hx143_1
           have hw143_0 := hx143_0
           obtain rfl : ad140 = ad143 := (by injection e143)
           replace hx143_0 := q_x HB.out hx143_0
           replace hx143_1 := q_x HB.out hx143_1
           replace hx143_2 := q_x HB.out hx143_2
           replace hx143_3 := q_x HB.out hx143_3
           replace p143 := eq_true p143
           replace q143 := eq_true q143
           refine start_ (n := 15) (S := fun w' => w'.cell? (ad140.add (((ji8)).toNat * 4)) = some (.string ((rd_T49 l0 (ji8)).f0)) ∧ w'.cell? ⟨(ad140.add (((ji8)).toNat * 4)).block, (ad140.add (((ji8)).toNat * 4)).off + 1, none⟩ = some (.int .i64 ((rd_T49 l0 (ji8)).f1)) ∧ w'.cell? ⟨(ad140.add (((ji8)).toNat * 4)).block, (ad140.add (((ji8)).toNat * 4)).off + 2, none⟩ = some (.string ((rd_T49 l0 (ji8)).f2)) ∧ w'.cell? ⟨(ad140.add (((ji8)).toNat * 4)).block, (ad140.add (((ji8)).toNat * 4)).off + 3, none⟩ = some (.bool ((rd_T49 l0 (ji8)).f3)) ∧ w'.cell? (ad140.add ((x3_1).toNat * 4)) = some (.string ((rd_T49 l0 x3_1).f0)) ∧ w'.cell? ⟨(ad140.add ((x3_1).toNat * 4)).block, (ad140.add ((x3_1).toNat * 4)).off + 1, none⟩ = some (.int .i64 ((rd_T49 l0 x3_1).f1)) ∧ w'.cell? ⟨(ad140.add ((x3_1).toNat * 4)).block, (ad140.add ((x3_1).toNat * 4)).off + 2, none⟩ = some (.string ((rd_T49 l0 x3_1).f2)) ∧ w'.cell? ⟨(ad140.add ((x3_1).toNat * 4)).block, (ad140.add ((x3_1).toNat * 4)).off + 3, none⟩ = some (.bool ((rd_T49 l0 x3_1).f3))) (ds := []) #[false, false, false, false, false, false, false, false, false, false, false, false, false, false, false] (by kernel_rfl) rfl rfl ⟨((HB.out.cell (World.block_lt_of_cell? w _ hw142_0)).trans hw142_0), ((HB.out.cell (World.block_lt_of_cell? w _ hw142_1)).trans hw142_1), ((HB.out.cell (World.block_lt_of_cell? w _ hw142_2)).trans hw142_2), ((HB.out.cell (World.block_lt_of_cell? w _ hw142_3)).trans hw142_3), ((HB.out.cell (World.block_lt_of_cell? w _ hw143_0)).trans hw143_0), ((HB.out.cell (World.block_lt_of_cell? w _ hw143_1)).trans hw143_1), ((HB.out.cell (World.block_lt_of_cell? w _ hw143_2)).trans hw143_2), ((HB.out.cell (World.block_lt_of_cell? w _ hw143_3)).trans hw143_3)⟩ (fun hHeld => ?_); refine with_tabW spec_TableFault.tab9 spec_TableFault.bits9 (fun HT_ HW_ => ?_)
           generalize w13.drew = w14 at HB hx142_0 hx142_1 hx142_2 hx142_3 hx143_0 hx143_1 hx143_2 hx143_3 hHeld ⊢
           refine q_p 0 (some 22) #[true, false, false, false, false, false, false, false, false, false, false, false, false, false, false] HT_.out ?_
           refine q_p 1 (some 23) #[true, true, false, false, false, false, false, false, false, false, false, false, false, false, false] HT_.out ?_
           refine q_p 2 (some 24) #[true, true, true, false, false, false, false, false, false, false, false, false, false, false, false] HT_.out ?_
           refine q_p 3 (some 25) #[true, true, true, true, false, false, false, false, false, false, false, false, false, false, false] HT_.out ?_
           refine q_p 4 (some 26) #[true, true, true, true, true, false, false, false, false, false, false, false, false, false, false] HT_.out ?_
           refine q_p 5 (some 27) #[true, true, true, true, true, true, false, false, false, false, false, false, false, false, false] HT_.out ?_
           refine q_p 6 (some 28) #[true, true, true, true, true, true, true, false, false, false, false, false, false, false, false] HT_.out ?_
           refine q_p 8 (some 30) #[true, true, true, true, true, true, true, false, true, false, false, false, false, false, false] HT_.out ?_
           refine q_p 9 (some 31) #[true, true, true, true, true, true, true, false, true, true, false, false, false, false, false] HT_.out ?_
           refine q_p 10 (some 32) #[true, true, true, true, true, true, true, false, true, true, true, false, false, false, false] HT_.out ?_
           refine q_t 7 (some 29) #[true, true, true, true, true, true, true, true, true, true, true, false, false, false, false] HT_.out HW_.out hHeld ?_
           refine q_t 11 (some 33) #[true, true, true, true, true, true, true, true, true, true, true, true, false, false, false] HT_.out HW_.out hHeld ?_
           refine one_ (i := 12) (N := some 34) #[true, true, true, true, true, true, true, true, true, true, true, true, true, false, false] rfl rfl (one_of HT_.out (by kernel_rfl)) (by decide) (fun K hK => ?_)
           refine goes_ Try.func64 (by kernel_rfl) rfl #[.agg #[.string ((rd_T49 l0 (ji8)).f0), .int .i64 ((rd_T49 l0 (ji8)).f1), .string ((rd_T49 l0 (ji8)).f2), .bool ((rd_T49 l0 (ji8)).f3)], .agg #[.string ((rd_T49 l0 x3_1).f0), .int .i64 ((rd_T49 l0 x3_1).f1), .string ((rd_T49 l0 x3_1).f2), .bool ((rd_T49 l0 x3_1).f3)]] (by rfl) rfl rfl (by (try simp only [List.map_toArray, List.map_cons, List.map_nil]); first | done | (simp only [hji8]; rfl) | rfl | (simp only [List.length_drop, List.length_take]; rfl)) ?_
           with_reducible refine (spec_l5Ahead.calls ((rd_T49 l0 (ji8)).f0) ((rd_T49 l0 (ji8)).f1) ((rd_T49 l0 (ji8)).f2) ((rd_T49 l0 (ji8)).f3) ((rd_T49 l0 x3_1).f0) ((rd_T49 l0 x3_1).f1) ((rd_T49 l0 x3_1).f2) ((rd_T49 l0 x3_1).f3) true _ A11.out).mono ?_
           rintro e w15 ⟨rfl, hb⟩
           refine ⟨_, rfl, ?_⟩
           have n0_ := Aside0.mk (below_step bq hb)
           clear HB
           have HB := n0_
           clear n0_
           (try clear hb)
           (try clear hb2)
           (try clear hk)
           (try clear hi)
           refine hK.out _ _ ⟨((HB.out.cell (World.block_lt_of_cell? w _ hw142_0)).trans hw142_0), ((HB.out.cell (World.block_lt_of_cell? w _ hw142_1)).trans hw142_1), ((HB.out.cell (World.block_lt_of_cell? w _ hw142_2)).trans hw142_2), ((HB.out.cell (World.block_lt_of_cell? w _ hw142_3)).trans hw142_3), ((HB.out.cell (World.block_lt_of_cell? w _ hw143_0)).trans hw143_0), ((HB.out.cell (World.block_lt_of_cell? w _ hw143_1)).trans hw143_1), ((HB.out.cell (World.block_lt_of_cell? w _ hw143_2)).trans hw143_2), ((HB.out.cell (World.block_lt_of_cell? w _ hw143_3)).trans hw143_3)⟩ (fun hHeld => ?_)
           clear hK K
           refine norm_ (a' := ?_) ?_ ?_
           rotate_left
           ·show Act.put _ (some 34) _ = _
            simp only [Act.put, List.setIfInBounds_toArray, List.set_cons_zero, List.set_cons_succ, i64_w, i32_w]
            rfl
           refine q_p 13 (some 35) #[true, true, true, true, true, true, true, true, true, true, true, true, true, true, false] HT_.out ?_
           refine q_p 14 (some 36) #[true, true, true, true, true, true, true, true, true, true, true, true, true, true, true] HT_.out ?_
           refine done_ (done_of HT_.out (by kernel_rfl)) ?_
           try go_wp2
           go_roundg k1
           case measure => have := HK1.out; omega
           case rel => exact ⟨(wrap64 (x3_1 + 1)), q_i, H', ⟨by have := HK1.out; omega⟩, ⟨bq⟩⟩
          ·replace c12 := Bool.eq_false_iff.mpr c12
           subst c12
           have H1 : (some 1) = some r := by rw [if_neg (show ¬ (false = true) by decide)] at H; exact H
           clear H
           have H := H1
           clear H1
           obtain rfl := Option.some.inj H
           have p140 : 0 ≤ (x3_1 : Int) := q_d
           have q140 : x3_1 < (l0.length : Int) := q_d
           obtain ⟨ad140, e140, hx140_0, hx140_1, hx140_2, hx140_3⟩ := at_T49 HR0.out x3_1 p140 q140
           cases e140
           replace hx140_0 := q_x HB.out hx140_0
           replace hx140_1 := q_x HB.out hx140_1
           replace hx140_2 := q_x HB.out hx140_2
           replace hx140_3 := q_x HB.out hx140_3
           replace p140 := eq_true p140
           replace q140 := eq_true q140
           try go_wp2_with (first | ((with_reducible refine gate_callee (f := 63) rfl ?_); refine goesLq (some 18) rfl rfl Try.func63 (by kernel_rfl) rfl #[.agg #[.string ((rd_T49 l0 x3_1).f0), .int .i64 ((rd_T49 l0 x3_1).f1), .string ((rd_T49 l0 x3_1).f2), .bool ((rd_T49 l0 x3_1).f3)]] rfl ?_; (with_reducible refine (spec_RowFault.calls k1 ((rd_T49 l0 x3_1).f0) ((rd_T49 l0 x3_1).f1) ((rd_T49 l0 x3_1).f2) ((rd_T49 l0 x3_1).f3) t141 _ A5.out).mono ?_); rintro e w16 ⟨rfl, hb⟩; refine ⟨_, rfl, ?_⟩; have n0_ := Aside0.mk (below_step bq hb); revert n0_; clear HB; intro HB; (try clear hb); (try clear hb2); (try clear hk); (try clear hi)))
           have n0_ := Aside0.mk (below_drew1 HB.out)
           clear HB
           have HB := n0_
           clear n0_
           have p142 : 0 ≤ ((ji8) : Int) := q_d
           have q142 : (ji8) < (l0.length : Int) := q_d
           obtain ⟨ad142, e142, hx142_0, hx142_1, hx142_2, hx142_3⟩ := at_T49 HR0.out (ji8) p142 q142
           have hw142_3 := hx142_3
           have hw142_2 := hx142_2
           have hw142_1 := hx142_1
           have hw142_0 := hx142_0
           obtain rfl : ad140 = ad142 := (by injection e142)
           replace hx142_0 := q_x HB.out hx142_0
           replace hx142_1 := q_x HB.out hx142_1
           replace hx142_2 := q_x HB.out hx142_2
           replace hx142_3 := q_x HB.out hx142_3
           replace p142 := eq_true p142
           replace q142 := eq_true q142
           have p143 : 0 ≤ (x3_1 : Int) := q_d
           have q143 : x3_1 < (l0.length : Int) := q_d
           obtain ⟨ad143, e143, hx143_0, hx143_1, hx143_2, hx143_3⟩ := at_T49 HR0.out x3_1 p143 q143
           have hw143_3 := hx143_3
           have hw143_2 := hx143_2
           have hw143_1 := hx143_1
           have hw143_0 := hx143_0
           obtain rfl : ad140 = ad143 := (by injection e143)
           replace hx143_0 := q_x HB.out hx143_0
           replace hx143_1 := q_x HB.out hx143_1
           replace hx143_2 := q_x HB.out hx143_2
           replace hx143_3 := q_x HB.out hx143_3
           replace p143 := eq_true p143
           replace q143 := eq_true q143
           refine start_ (n := 15) (S := fun w' => w'.cell? (ad140.add (((ji8)).toNat * 4)) = some (.string ((rd_T49 l0 (ji8)).f0)) ∧ w'.cell? ⟨(ad140.add (((ji8)).toNat * 4)).block, (ad140.add (((ji8)).toNat * 4)).off + 1, none⟩ = some (.int .i64 ((rd_T49 l0 (ji8)).f1)) ∧ w'.cell? ⟨(ad140.add (((ji8)).toNat * 4)).block, (ad140.add (((ji8)).toNat * 4)).off + 2, none⟩ = some (.string ((rd_T49 l0 (ji8)).f2)) ∧ w'.cell? ⟨(ad140.add (((ji8)).toNat * 4)).block, (ad140.add (((ji8)).toNat * 4)).off + 3, none⟩ = some (.bool ((rd_T49 l0 (ji8)).f3)) ∧ w'.cell? (ad140.add ((x3_1).toNat * 4)) = some (.string ((rd_T49 l0 x3_1).f0)) ∧ w'.cell? ⟨(ad140.add ((x3_1).toNat * 4)).block, (ad140.add ((x3_1).toNat * 4)).off + 1, none⟩ = some (.int .i64 ((rd_T49 l0 x3_1).f1)) ∧ w'.cell? ⟨(ad140.add ((x3_1).toNat * 4)).block, (ad140.add ((x3_1).toNat * 4)).off + 2, none⟩ = some (.string ((rd_T49 l0 x3_1).f2)) ∧ w'.cell? ⟨(ad140.add ((x3_1).toNat * 4)).block, (ad140.add ((x3_1).toNat * 4)).off + 3, none⟩ = some (.bool ((rd_T49 l0 x3_1).f3))) (ds := []) #[false, false, false, false, false, false, false, false, false, false, false, false, false, false, false] (by kernel_rfl) rfl rfl ⟨((HB.out.cell (World.block_lt_of_cell? w _ hw142_0)).trans hw142_0), ((HB.out.cell (World.block_lt_of_cell? w _ hw142_1)).trans hw142_1), ((HB.out.cell (World.block_lt_of_cell? w _ hw142_2)).trans hw142_2), ((HB.out.cell (World.block_lt_of_cell? w _ hw142_3)).trans hw142_3), ((HB.out.cell (World.block_lt_of_cell? w _ hw143_0)).trans hw143_0), ((HB.out.cell (World.block_lt_of_cell? w _ hw143_1)).trans hw143_1), ((HB.out.cell (World.block_lt_of_cell? w _ hw143_2)).trans hw143_2), ((HB.out.cell (World.block_lt_of_cell? w _ hw143_3)).trans hw143_3)⟩ (fun hHeld => ?_); refine with_tabW spec_TableFault.tab9 spec_TableFault.bits9 (fun HT_ HW_ => ?_)
           generalize w16.drew = w17 at HB hx142_0 hx142_1 hx142_2 hx142_3 hx143_0 hx143_1 hx143_2 hx143_3 hHeld ⊢
           refine q_p 0 (some 22) #[true, false, false, false, false, false, false, false, false, false, false, false, false, false, false] HT_.out ?_
           refine q_p 1 (some 23) #[true, true, false, false, false, false, false, false, false, false, false, false, false, false, false] HT_.out ?_
           refine q_p 2 (some 24) #[true, true, true, false, false, false, false, false, false, false, false, false, false, false, false] HT_.out ?_
           refine q_p 3 (some 25) #[true, true, true, true, false, false, false, false, false, false, false, false, false, false, false] HT_.out ?_
           refine q_p 4 (some 26) #[true, true, true, true, true, false, false, false, false, false, false, false, false, false, false] HT_.out ?_
           refine q_p 5 (some 27) #[true, true, true, true, true, true, false, false, false, false, false, false, false, false, false] HT_.out ?_
           refine q_p 6 (some 28) #[true, true, true, true, true, true, true, false, false, false, false, false, false, false, false] HT_.out ?_
           refine q_p 8 (some 30) #[true, true, true, true, true, true, true, false, true, false, false, false, false, false, false] HT_.out ?_
           refine q_p 9 (some 31) #[true, true, true, true, true, true, true, false, true, true, false, false, false, false, false] HT_.out ?_
           refine q_p 10 (some 32) #[true, true, true, true, true, true, true, false, true, true, true, false, false, false, false] HT_.out ?_
           refine q_t 7 (some 29) #[true, true, true, true, true, true, true, true, true, true, true, false, false, false, false] HT_.out HW_.out hHeld ?_
           refine q_t 11 (some 33) #[true, true, true, true, true, true, true, true, true, true, true, true, false, false, false] HT_.out HW_.out hHeld ?_
           refine one_ (i := 12) (N := some 34) #[true, true, true, true, true, true, true, true, true, true, true, true, true, false, false] rfl rfl (one_of HT_.out (by kernel_rfl)) (by decide) (fun K hK => ?_)
           refine goes_ Try.func64 (by kernel_rfl) rfl #[.agg #[.string ((rd_T49 l0 (ji8)).f0), .int .i64 ((rd_T49 l0 (ji8)).f1), .string ((rd_T49 l0 (ji8)).f2), .bool ((rd_T49 l0 (ji8)).f3)], .agg #[.string ((rd_T49 l0 x3_1).f0), .int .i64 ((rd_T49 l0 x3_1).f1), .string ((rd_T49 l0 x3_1).f2), .bool ((rd_T49 l0 x3_1).f3)]] (by rfl) rfl rfl (by (try simp only [List.map_toArray, List.map_cons, List.map_nil]); first | done | (simp only [hji8]; rfl) | rfl | (simp only [List.length_drop, List.length_take]; rfl)) ?_
           with_reducible refine (spec_l5Ahead.calls ((rd_T49 l0 (ji8)).f0) ((rd_T49 l0 (ji8)).f1) ((rd_T49 l0 (ji8)).f2) ((rd_T49 l0 (ji8)).f3) ((rd_T49 l0 x3_1).f0) ((rd_T49 l0 x3_1).f1) ((rd_T49 l0 x3_1).f2) ((rd_T49 l0 x3_1).f3) false _ A11.out).mono ?_
           rintro e w18 ⟨rfl, hb⟩
           refine ⟨_, rfl, ?_⟩
           have n0_ := Aside0.mk (below_step bq hb)
           clear HB
           have HB := n0_
           clear n0_
           (try clear hb)
           (try clear hb2)
           (try clear hk)
           (try clear hi)
           refine hK.out _ _ ⟨((HB.out.cell (World.block_lt_of_cell? w _ hw142_0)).trans hw142_0), ((HB.out.cell (World.block_lt_of_cell? w _ hw142_1)).trans hw142_1), ((HB.out.cell (World.block_lt_of_cell? w _ hw142_2)).trans hw142_2), ((HB.out.cell (World.block_lt_of_cell? w _ hw142_3)).trans hw142_3), ((HB.out.cell (World.block_lt_of_cell? w _ hw143_0)).trans hw143_0), ((HB.out.cell (World.block_lt_of_cell? w _ hw143_1)).trans hw143_1), ((HB.out.cell (World.block_lt_of_cell? w _ hw143_2)).trans hw143_2), ((HB.out.cell (World.block_lt_of_cell? w _ hw143_3)).trans hw143_3)⟩ (fun hHeld => ?_)
           clear hK K
           refine norm_ (a' := ?_) ?_ ?_
           rotate_left
           ·show Act.put _ (some 34) _ = _
            simp only [Act.put, List.setIfInBounds_toArray, List.set_cons_zero, List.set_cons_succ, i64_w, i32_w]
            rfl
           refine q_p 13 (some 35) #[true, true, true, true, true, true, true, true, true, true, true, true, true, true, false] HT_.out ?_
           refine q_p 14 (some 36) #[true, true, true, true, true, true, true, true, true, true, true, true, true, true, true] HT_.out ?_
           refine done_ (done_of HT_.out (by kernel_rfl)) ?_
           try go_wp2
           go_ret
           exact ⟨by first | rfl | (simp [errW_none, errW_some] <;> rfl) | (simp only [← hji8]; first | rfl | (simp [errW_none, errW_some] <;> rfl)) | (simp [*, errW_none, errW_some] <;> rfl), bq⟩
         ·rw [if_neg c10] at H
          exact absurd H (by simp)
        ·rw [if_neg c9] at H
         exact absurd H (by simp)
       ·rw [if_neg c7] at H
        have c7b0 := decide_eq_false c7
        clear c7
        have H' := Aside0.mk H
        clear H
        have p140 : 0 ≤ (x3_1 : Int) := q_d
        have q140 : x3_1 < (l0.length : Int) := q_d
        obtain ⟨ad140, e140, hx140_0, hx140_1, hx140_2, hx140_3⟩ := at_T49 HR0.out x3_1 p140 q140
        cases e140
        replace hx140_0 := q_x HB.out hx140_0
        replace hx140_1 := q_x HB.out hx140_1
        replace hx140_2 := q_x HB.out hx140_2
        replace hx140_3 := q_x HB.out hx140_3
        replace p140 := eq_true p140
        replace q140 := eq_true q140
        try go_wp2_with (first | ((with_reducible refine gate_callee (f := 63) rfl ?_); refine goesLq (some 18) rfl rfl Try.func63 (by kernel_rfl) rfl #[.agg #[.string ((rd_T49 l0 x3_1).f0), .int .i64 ((rd_T49 l0 x3_1).f1), .string ((rd_T49 l0 x3_1).f2), .bool ((rd_T49 l0 x3_1).f3)]] rfl ?_; (with_reducible refine (spec_RowFault.calls k1 ((rd_T49 l0 x3_1).f0) ((rd_T49 l0 x3_1).f1) ((rd_T49 l0 x3_1).f2) ((rd_T49 l0 x3_1).f3) t141 _ A5.out).mono ?_); rintro e w19 ⟨rfl, hb⟩; refine ⟨_, rfl, ?_⟩; have n0_ := Aside0.mk (below_step bq hb); revert n0_; clear HB; intro HB; (try clear hb); (try clear hb2); (try clear hk); (try clear hi)))
        have n0_ := Aside0.mk (below_drew1 HB.out)
        clear HB
        have HB := n0_
        clear n0_
        refine start_ (n := 15) (S := fun w' => True) (ds := []) #[false, false, false, false, false, false, false, false, false, false, false, false, false, false, false] (by kernel_rfl) rfl rfl trivial (fun hHeld => ?_); refine with_tabW spec_TableFault.tab9 spec_TableFault.bits9 (fun HT_ HW_ => ?_)
        generalize w19.drew = w20 at HB hHeld ⊢
        refine q_p 0 (some 22) #[true, false, false, false, false, false, false, false, false, false, false, false, false, false, false] HT_.out ?_
        refine q_p 1 (some 23) #[true, true, false, false, false, false, false, false, false, false, false, false, false, false, false] HT_.out ?_
        refine q_p 2 (some 24) #[true, true, true, false, false, false, false, false, false, false, false, false, false, false, false] HT_.out ?_
        refine pure_ (i := 3) (N := some 25) (v := undef) (a' := ?_) #[true, true, true, true, false, false, false, false, false, false, false, false, false, false, false] rfl rfl (any_of HT_.out (by kernel_rfl)) (fun _ _ _ h => h) (Or.inr ⟨by rfl, rfl⟩) ?_ ?_
        rotate_left
        ·simp only [Act.put, List.setIfInBounds_toArray, List.set_cons_zero, List.set_cons_succ, i64_w, i32_w]
         rfl
        refine pure_ (i := 4) (N := some 26) (v := undef) (a' := ?_) #[true, true, true, true, true, false, false, false, false, false, false, false, false, false, false] rfl rfl (any_of HT_.out (by kernel_rfl)) (fun _ _ _ h => h) (Or.inr ⟨by rfl, rfl⟩) ?_ ?_
        rotate_left
        ·simp only [Act.put, List.setIfInBounds_toArray, List.set_cons_zero, List.set_cons_succ, i64_w, i32_w]
         rfl
        refine pure_ (i := 5) (N := some 27) (v := undef) (a' := ?_) #[true, true, true, true, true, true, false, false, false, false, false, false, false, false, false] rfl rfl (any_of HT_.out (by kernel_rfl)) (fun _ _ _ h => h) (Or.inr ⟨by rfl, rfl⟩) ?_ ?_
        rotate_left
        ·simp only [Act.put, List.setIfInBounds_toArray, List.set_cons_zero, List.set_cons_succ, i64_w, i32_w]
         rfl
        refine pure_ (i := 6) (N := some 28) (v := undef) (a' := ?_) #[true, true, true, true, true, true, true, false, false, false, false, false, false, false, false] rfl rfl (any_of HT_.out (by kernel_rfl)) (fun _ _ _ h => h) (Or.inr ⟨by rfl, rfl⟩) ?_ ?_
        rotate_left
        ·simp only [Act.put, List.setIfInBounds_toArray, List.set_cons_zero, List.set_cons_succ, i64_w, i32_w]
         rfl
        refine pure_ (i := 7) (N := some 29) (v := undef) (a' := ?_) #[true, true, true, true, true, true, true, true, false, false, false, false, false, false, false] rfl rfl (any_of HT_.out (by kernel_rfl)) (fun _ _ _ h => h) (Or.inr ⟨by rfl, rfl⟩) ?_ ?_
        rotate_left
        ·simp only [Act.put, List.setIfInBounds_toArray, List.set_cons_zero, List.set_cons_succ, i64_w, i32_w]
         rfl
        refine pure_ (i := 8) (N := some 30) (v := undef) (a' := ?_) #[true, true, true, true, true, true, true, true, true, false, false, false, false, false, false] rfl rfl (any_of HT_.out (by kernel_rfl)) (fun _ _ _ h => h) (Or.inr ⟨by rfl, rfl⟩) ?_ ?_
        rotate_left
        ·simp only [Act.put, List.setIfInBounds_toArray, List.set_cons_zero, List.set_cons_succ, i64_w, i32_w]
         rfl
        refine pure_ (i := 9) (N := some 31) (v := undef) (a' := ?_) #[true, true, true, true, true, true, true, true, true, true, false, false, false, false, false] rfl rfl (any_of HT_.out (by kernel_rfl)) (fun _ _ _ h => h) (Or.inr ⟨by rfl, rfl⟩) ?_ ?_
        rotate_left
        ·simp only [Act.put, List.setIfInBounds_toArray, List.set_cons_zero, List.set_cons_succ, i64_w, i32_w]
         rfl
        refine pure_ (i := 10) (N := some 32) (v := undef) (a' := ?_) #[true, true, true, true, true, true, true, true, true, true, true, false, false, false, false] rfl rfl (any_of HT_.out (by kernel_rfl)) (fun _ _ _ h => h) (Or.inr ⟨by rfl, rfl⟩) ?_ ?_
        rotate_left
        ·simp only [Act.put, List.setIfInBounds_toArray, List.set_cons_zero, List.set_cons_succ, i64_w, i32_w]
         rfl
        refine pure_ (i := 11) (N := some 33) (v := undef) (a' := ?_) #[true, true, true, true, true, true, true, true, true, true, true, true, false, false, false] rfl rfl (any_of HT_.out (by kernel_rfl)) (fun _ _ _ h => h) (Or.inr ⟨by rfl, rfl⟩) ?_ ?_
        rotate_left
        ·simp only [Act.put, List.setIfInBounds_toArray, List.set_cons_zero, List.set_cons_succ, i64_w, i32_w]
         rfl
        refine pure_ (i := 12) (N := some 34) (v := undef) (a' := ?_) #[true, true, true, true, true, true, true, true, true, true, true, true, true, false, false] rfl rfl (any_of HT_.out (by kernel_rfl)) (fun _ _ _ h => h) (Or.inr ⟨by rfl, rfl⟩) ?_ ?_
        rotate_left
        ·simp only [Act.put, List.setIfInBounds_toArray, List.set_cons_zero, List.set_cons_succ, i64_w, i32_w]
         rfl
        refine pure_ (i := 13) (N := some 35) (v := undef) (a' := ?_) #[true, true, true, true, true, true, true, true, true, true, true, true, true, true, false] rfl rfl (any_of HT_.out (by kernel_rfl)) (fun _ _ _ h => h) (Or.inr ⟨by rfl, rfl⟩) ?_ ?_
        rotate_left
        ·simp only [Act.put, List.setIfInBounds_toArray, List.set_cons_zero, List.set_cons_succ, i64_w, i32_w]
         rfl
        refine q_p 14 (some 36) #[true, true, true, true, true, true, true, true, true, true, true, true, true, true, true] HT_.out ?_
        refine done_ (done_of HT_.out (by kernel_rfl)) ?_
        try go_wp2
        go_roundg k1
        case measure => have := HK1.out; omega
        case rel => exact ⟨(wrap64 (x3_1 + 1)), q_i, H', ⟨by have := HK1.out; omega⟩, ⟨bq⟩⟩
      ·rw [if_neg c6] at H
       have c6b0 : (t141 == 0) = false := beq_eq_false_iff_ne.mpr c6
       have c6b1 : (t141 != 0) = true := bne_iff_ne.mpr c6
       obtain rfl := Option.some.inj H
       have p140 : 0 ≤ (x3_1 : Int) := q_d
       have q140 : x3_1 < (l0.length : Int) := q_d
       obtain ⟨ad140, e140, hx140_0, hx140_1, hx140_2, hx140_3⟩ := at_T49 HR0.out x3_1 p140 q140
       cases e140
       replace hx140_0 := q_x HB.out hx140_0
       replace hx140_1 := q_x HB.out hx140_1
       replace hx140_2 := q_x HB.out hx140_2
       replace hx140_3 := q_x HB.out hx140_3
       replace p140 := eq_true p140
       replace q140 := eq_true q140
       go_wp2_with (first | ((with_reducible refine gate_callee (f := 63) rfl ?_); refine goesLq (some 18) rfl rfl Try.func63 (by kernel_rfl) rfl #[.agg #[.string ((rd_T49 l0 x3_1).f0), .int .i64 ((rd_T49 l0 x3_1).f1), .string ((rd_T49 l0 x3_1).f2), .bool ((rd_T49 l0 x3_1).f3)]] rfl ?_; (with_reducible refine (spec_RowFault.calls k1 ((rd_T49 l0 x3_1).f0) ((rd_T49 l0 x3_1).f1) ((rd_T49 l0 x3_1).f2) ((rd_T49 l0 x3_1).f3) t141 _ A5.out).mono ?_); rintro e w21 ⟨rfl, hb⟩; refine ⟨_, rfl, ?_⟩; have n0_ := Aside0.mk (below_step bq hb); revert n0_; clear HB; intro HB; (try clear hb); (try clear hb2); (try clear hk); (try clear hi)))
       go_ret
       exact ⟨q_e, bq⟩
     ·rw [if_neg c4] at H
      exact absurd H (by simp)
    ·rw [if_neg c3] at H
     have c3b0 := decide_eq_false c3
     clear c3
     obtain rfl := Option.some.inj H
     go_wp2
     go_ret
     exact ⟨q_e, bq⟩

/-! ### spec_l5Keys: function 92 -/
def spec_l5Keys.l0 : Nat → List (S49) → List ByteArray → Int → Option (List ByteArray)
  | 0, _, _, _ => none
  | k + 1, x0, x3, x4 => if x4 < (x0.length : Int) then (if x4 = 0 then (if 0 ≤ x4 then (if x3.length < 8796093022208 then (spec_l5Keys.l0 k x0 (x3 ++ [(rd_T49 x0 x4).f0]) (wrap64 (x4 + 1))) else (none)) else (none)) else (if 0 ≤ x4 then (if 0 ≤ (wrap64 (x4 - 1)) then (if (wrap64 (x4 - 1)) < (x0.length : Int) then (if ((rd_T49 x0 x4).f0).toList = ((rd_T49 x0 (wrap64 (x4 - 1))).f0).toList then (spec_l5Keys.l0 k x0 x3 (wrap64 (x4 + 1))) else (if x3.length < 8796093022208 then (spec_l5Keys.l0 k x0 (x3 ++ [(rd_T49 x0 x4).f0]) (wrap64 (x4 + 1))) else (none))) else (none)) else (none)) else (none))) else (some x3)
def spec_l5Keys.f (k : Nat) (l0 : List (S49)) : Option (List ByteArray) := spec_l5Keys.l0 k l0 (([] : List ByteArray)) 0
set_option maxHeartbeats 8000000 in
set_option maxRecDepth 100000 in
theorem spec_l5Keys.calls (k : Nat) (A0 : Option Addr) (c0 : Nat) (l0 : List (S49)) (r : List ByteArray) (w : World) (hr0 : Kd.C k49 w A0 l0.length l0) (hc0 : l0.length ≤ c0) (h : spec_l5Keys.f k l0 = some r) :
  Calls Try.prog 92 #[.slice A0 l0.length c0] w fun e w' => ∃ v0_ : Value, e = .returned (v0_) ∧ Kd.R Kd.string 9 w' w.heap.size (fun _ => True) v0_ r ∧ Below w.heap.size w w' := by
 have HR0 := Aside0.mk hr0
 have HC0 := Aside0.mk hc0
 clear hr0 hc0
 have HB := Aside0.mk (Below.refl w.heap.size w)
 have H : (spec_l5Keys.l0 k l0 (([] : List ByteArray)) 0) = some r := h
 clear h
 obtain ⟨y145, hy145⟩ : ∃ y_ : List ByteArray, y_ = (([] : List ByteArray)) := ⟨_, rfl⟩
 replace H : (spec_l5Keys.l0 k l0 y145 0) = some r := q_h hy145 H
 have Ny145 := Aside0.mk hy145
 clear hy145
 have H' := Aside0.mk H
 clear H
 go_enter Try.func92, Try.ntmps92
 go_wp2_with (first | ((with_reducible refine gate_dst (N := 5) rfl ?_); refine Kd.R_lit Kd.string _ 9 ?hg (N := 5) ?hd (xs := ([] : List ByteArray)) (inner := []) (ok := fun _ => True) (okp := fun _ => True) ?hr ?hp (fun _ hk => hk) trivial (Below.refl _ _) (Nat.le_refl _) (by simp) ?_; (case hd => rfl); (case hg => rfl); (case hr => first | (go_simp; done) | (go_simp; rfl)); (case hp => exact (Reps.none _ _)); intro v146 w2 ho3 hb hg_ hnew_; clear hg_ hnew_; (first | rw [← Ny145.out] at ho3 | (simp only [Int.reduceToNat] at ho3; rw [← Ny145.out] at ho3)); have n0_ := Aside0.mk (Kd.R_lower ho3 (below_size bq)); have n1_ := Aside0.mk (below_step bq hb); revert n0_ n1_; clear HB; intro HO147 HB; clear hb ho3))
 repeat (go_quiet (first | ((with_reducible refine gate_dst (N := 5) rfl ?_); refine Kd.R_lit Kd.string _ 9 ?hg (N := 5) ?hd (xs := ([] : List ByteArray)) (inner := []) (ok := fun _ => True) (okp := fun _ => True) ?hr ?hp (fun _ hk => hk) trivial (Below.refl _ _) (Nat.le_refl _) (by simp) ?_; (case hd => rfl); (case hg => rfl); (case hr => first | (go_simp; done) | (go_simp; rfl)); (case hp => exact (Reps.none _ _)); intro v146 w2 ho3 hb hg_ hnew_; clear hg_ hnew_; (first | rw [← Ny145.out] at ho3 | (simp only [Int.reduceToNat] at ho3; rw [← Ny145.out] at ho3)); have n0_ := Aside0.mk (Kd.R_lower ho3 (below_size bq)); have n1_ := Aside0.mk (below_step bq hb); revert n0_ n1_; clear HB; intro HO147 HB; clear hb ho3)); try go_wp2_with (first | ((with_reducible refine gate_dst (N := 5) rfl ?_); refine Kd.R_lit Kd.string _ 9 ?hg (N := 5) ?hd (xs := ([] : List ByteArray)) (inner := []) (ok := fun _ => True) (okp := fun _ => True) ?hr ?hp (fun _ hk => hk) trivial (Below.refl _ _) (Nat.le_refl _) (by simp) ?_; (case hd => rfl); (case hg => rfl); (case hr => first | (go_simp; done) | (go_simp; rfl)); (case hp => exact (Reps.none _ _)); intro v146 w2 ho3 hb hg_ hnew_; clear hg_ hnew_; (first | rw [← Ny145.out] at ho3 | (simp only [Int.reduceToNat] at ho3; rw [← Ny145.out] at ho3)); have n0_ := Aside0.mk (Kd.R_lower ho3 (below_size bq)); have n1_ := Aside0.mk (below_step bq hb); revert n0_ n1_; clear HB; intro HO147 HB; clear hb ho3)))
 go_loopg [3, 4] k (fun kq v3 v4 w' => ∃ (x3_1 : List ByteArray) (x4_1 : Int), v4 = .int .i64 x4_1 ∧ Aside0 (spec_l5Keys.l0 kq l0 x3_1 x4_1 = some r) ∧ Aside0 (kq ≤ k) ∧ Aside0 (Kd.R Kd.string 9 w' w.heap.size (fun _ => True) v3 x3_1) ∧ Aside0 (Below w.heap.size w w'))
 case atStart => exact ⟨(y145), (0), q_i, H', ⟨Nat.le_refl _⟩, ⟨q_r (HO147.out)⟩, ⟨bq⟩⟩
 case round =>
  clear H'
  (try clear p2)
  obtain ⟨x3_1, x4_1, rfl, HA, HK1, HO_3, HB⟩ := hrel
  cases gk with
  | zero => exact absurd HA.out (by simp [spec_l5Keys.l0])
  | succ k1 =>
   have H := HA.out
   clear HA
   simp only [spec_l5Keys.l0] at H
   by_cases c4 : x4_1 < (l0.length : Int)
   ·rw [if_pos c4] at H
    have c4b0 := decide_eq_true c4
    clear c4
    by_cases c5 : x4_1 = 0
    ·rw [if_pos c5] at H
     have c5b0 : (x4_1 == 0) = true := beq_iff_eq.mpr c5
     have c5b1 : (x4_1 != 0) = false := bne_eq_false_iff_eq.mpr c5
     clear c5
     by_cases c6 : 0 ≤ x4_1
     ·rw [if_pos c6] at H
      have c6b0 := decide_eq_true c6
      clear c6
      by_cases c7 : x3_1.length < 8796093022208
      ·rw [if_pos c7] at H
       have LMc7 := Aside0.mk c7
       clear c7
       obtain ⟨y149, hy149⟩ : ∃ y_ : List ByteArray, y_ = (x3_1 ++ [(rd_T49 l0 x4_1).f0]) := ⟨_, rfl⟩
       replace H : (spec_l5Keys.l0 k1 l0 y149 (wrap64 (x4_1 + 1))) = some r := q_h hy149 H
       have Ny149 := Aside0.mk hy149
       clear hy149
       have H' := Aside0.mk H
       clear H
       have p148 : 0 ≤ (x4_1 : Int) := q_d
       have q148 : x4_1 < (l0.length : Int) := q_d
       obtain ⟨ad148, e148, hx148_0, hx148_1, hx148_2, hx148_3⟩ := at_T49 HR0.out x4_1 p148 q148
       cases e148
       replace hx148_0 := q_x HB.out hx148_0
       replace hx148_1 := q_x HB.out hx148_1
       replace hx148_2 := q_x HB.out hx148_2
       replace hx148_3 := q_x HB.out hx148_3
       replace p148 := eq_true p148
       replace q148 := eq_true q148
       go_wp2_with (first | ((with_reducible refine gate_builtin (b := .append) (xs := #[.tmp 28, .tmp 34]) rfl ?_); at_builtin; refine Kd.R_append Kd.string (w0 := w) w.heap.size rfl (.tmp 28) (.tmp 34) 61 9 (.string ⟨#[]⟩) 16 rfl Try.underlying61 info9 rfl (by decide) (by omega) u3 x3_1 ((rd_T49 l0 x4_1).f0) [.string ((rd_T49 l0 x4_1).f0)] (fun _ => True) (fun _ => False) rfl rfl ?aP (fun _ hk => hk.elim) ?aF ?aO ?aB ?aS ?aL ?_; (case aP => exact rfl); (case aB => exact bq); (case aF => exact (fun _ _ => trivial)); (case aO => exact (q_r (HO_3.out))); (case aS => exact (below_size bq)); (case aL => have := LMc7.out; omega); intro v150 w8 ho hb hg hat; rw [← Ny149.out] at ho; have n0_ := Aside0.mk (hb); have n1_ := Aside0.mk (ho); revert n0_ n1_; clear HB HO_3; intro HB HO151; clear ho hb hg hat))
       repeat (go_quiet (first | ((with_reducible refine gate_builtin (b := .append) (xs := #[.tmp 28, .tmp 34]) rfl ?_); at_builtin; refine Kd.R_append Kd.string (w0 := w) w.heap.size rfl (.tmp 28) (.tmp 34) 61 9 (.string ⟨#[]⟩) 16 rfl Try.underlying61 info9 rfl (by decide) (by omega) u3 x3_1 ((rd_T49 l0 x4_1).f0) [.string ((rd_T49 l0 x4_1).f0)] (fun _ => True) (fun _ => False) rfl rfl ?aP (fun _ hk => hk.elim) ?aF ?aO ?aB ?aS ?aL ?_; (case aP => exact rfl); (case aB => exact bq); (case aF => exact (fun _ _ => trivial)); (case aO => exact (q_r (HO_3.out))); (case aS => exact (below_size bq)); (case aL => have := LMc7.out; omega); intro v150 w8 ho hb hg hat; rw [← Ny149.out] at ho; have n0_ := Aside0.mk (hb); have n1_ := Aside0.mk (ho); revert n0_ n1_; clear HB HO_3; intro HB HO151; clear ho hb hg hat)); try go_wp2_with (first | ((with_reducible refine gate_builtin (b := .append) (xs := #[.tmp 28, .tmp 34]) rfl ?_); at_builtin; refine Kd.R_append Kd.string (w0 := w) w.heap.size rfl (.tmp 28) (.tmp 34) 61 9 (.string ⟨#[]⟩) 16 rfl Try.underlying61 info9 rfl (by decide) (by omega) u3 x3_1 ((rd_T49 l0 x4_1).f0) [.string ((rd_T49 l0 x4_1).f0)] (fun _ => True) (fun _ => False) rfl rfl ?aP (fun _ hk => hk.elim) ?aF ?aO ?aB ?aS ?aL ?_; (case aP => exact rfl); (case aB => exact bq); (case aF => exact (fun _ _ => trivial)); (case aO => exact (q_r (HO_3.out))); (case aS => exact (below_size bq)); (case aL => have := LMc7.out; omega); intro v150 w8 ho hb hg hat; rw [← Ny149.out] at ho; have n0_ := Aside0.mk (hb); have n1_ := Aside0.mk (ho); revert n0_ n1_; clear HB HO_3; intro HB HO151; clear ho hb hg hat)))
       go_roundg k1
       case measure => have := HK1.out; omega
       case rel => exact ⟨(y149), (wrap64 (x4_1 + 1)), q_i, H', ⟨by have := HK1.out; omega⟩, ⟨q_r (HO151.out)⟩, ⟨bq⟩⟩
      ·rw [if_neg c7] at H
       exact absurd H (by simp)
     ·rw [if_neg c6] at H
      exact absurd H (by simp)
    ·rw [if_neg c5] at H
     have c5b0 : (x4_1 == 0) = false := beq_eq_false_iff_ne.mpr c5
     have c5b1 : (x4_1 != 0) = true := bne_iff_ne.mpr c5
     by_cases c9 : 0 ≤ x4_1
     ·rw [if_pos c9] at H
      have c9b0 := decide_eq_true c9
      clear c9
      obtain ⟨ji10, hji10⟩ : ∃ j_ : Int, (wrap64 (x4_1 - 1)) = j_ := ⟨_, rfl⟩
      replace H : (if 0 ≤ (ji10) then (if (ji10) < (l0.length : Int) then (if ((rd_T49 l0 x4_1).f0).toList = ((rd_T49 l0 (ji10)).f0).toList then (spec_l5Keys.l0 k1 l0 x3_1 (wrap64 (x4_1 + 1))) else (if x3_1.length < 8796093022208 then (spec_l5Keys.l0 k1 l0 (x3_1 ++ [(rd_T49 l0 x4_1).f0]) (wrap64 (x4_1 + 1))) else (none))) else (none)) else (none)) = some r := by first | (rw [hji10] at H; exact H) | (simp only [hji10] at H ⊢; exact H)
      have hji10w : (IntKind.i64.wrap (x4_1 - 1)) = ji10 := (i64_w _).trans hji10
      by_cases c11 : 0 ≤ (ji10)
      ·rw [if_pos c11] at H
       have c11b0 := decide_eq_true c11
       clear c11
       by_cases c12 : (ji10) < (l0.length : Int)
       ·rw [if_pos c12] at H
        have c12b0 := decide_eq_true c12
        clear c12
        by_cases c13 : ((rd_T49 l0 x4_1).f0).toList = ((rd_T49 l0 (ji10)).f0).toList
        ·rw [if_pos c13] at H
         have c13b0 : (((rd_T49 l0 x4_1).f0).toList == ((rd_T49 l0 (ji10)).f0).toList) = true := beq_iff_eq.mpr c13
         have c13b1 : (((rd_T49 l0 x4_1).f0).toList != ((rd_T49 l0 (ji10)).f0).toList) = false := bne_eq_false_iff_eq.mpr c13
         clear c13
         have H' := Aside0.mk H
         clear H
         have p152 : 0 ≤ (x4_1 : Int) := q_d
         have q152 : x4_1 < (l0.length : Int) := q_d
         obtain ⟨ad152, e152, hx152_0, hx152_1, hx152_2, hx152_3⟩ := at_T49 HR0.out x4_1 p152 q152
         cases e152
         replace hx152_0 := q_x HB.out hx152_0
         replace hx152_1 := q_x HB.out hx152_1
         replace hx152_2 := q_x HB.out hx152_2
         replace hx152_3 := q_x HB.out hx152_3
         replace p152 := eq_true p152
         replace q152 := eq_true q152
         have p153 : 0 ≤ ((ji10) : Int) := q_d
         have q153 : (ji10) < (l0.length : Int) := q_d
         obtain ⟨ad153, e153, hx153_0, hx153_1, hx153_2, hx153_3⟩ := at_T49 HR0.out (ji10) p153 q153
         obtain rfl : ad152 = ad153 := (by injection e153)
         replace hx153_0 := q_x HB.out hx153_0
         replace hx153_1 := q_x HB.out hx153_1
         replace hx153_2 := q_x HB.out hx153_2
         replace hx153_3 := q_x HB.out hx153_3
         replace p153 := eq_true p153
         replace q153 := eq_true q153
         go_wp2
         repeat (go_quiet (fail); try go_wp2)
         go_roundg k1
         case measure => have := HK1.out; omega
         case rel => exact ⟨(x3_1), (wrap64 (x4_1 + 1)), q_i, H', ⟨by have := HK1.out; omega⟩, ⟨q_r (HO_3.out)⟩, ⟨bq⟩⟩
        ·rw [if_neg c13] at H
         have c13b0 : (((rd_T49 l0 x4_1).f0).toList == ((rd_T49 l0 (ji10)).f0).toList) = false := beq_eq_false_iff_ne.mpr c13
         have c13b1 : (((rd_T49 l0 x4_1).f0).toList != ((rd_T49 l0 (ji10)).f0).toList) = true := bne_iff_ne.mpr c13
         by_cases c14 : x3_1.length < 8796093022208
         ·rw [if_pos c14] at H
          have LMc14 := Aside0.mk c14
          clear c14
          obtain ⟨y155, hy155⟩ : ∃ y_ : List ByteArray, y_ = (x3_1 ++ [(rd_T49 l0 x4_1).f0]) := ⟨_, rfl⟩
          replace H : (spec_l5Keys.l0 k1 l0 y155 (wrap64 (x4_1 + 1))) = some r := q_h hy155 H
          have Ny155 := Aside0.mk hy155
          clear hy155
          have H' := Aside0.mk H
          clear H
          have p152 : 0 ≤ (x4_1 : Int) := q_d
          have q152 : x4_1 < (l0.length : Int) := q_d
          obtain ⟨ad152, e152, hx152_0, hx152_1, hx152_2, hx152_3⟩ := at_T49 HR0.out x4_1 p152 q152
          cases e152
          replace hx152_0 := q_x HB.out hx152_0
          replace hx152_1 := q_x HB.out hx152_1
          replace hx152_2 := q_x HB.out hx152_2
          replace hx152_3 := q_x HB.out hx152_3
          replace p152 := eq_true p152
          replace q152 := eq_true q152
          have p153 : 0 ≤ ((ji10) : Int) := q_d
          have q153 : (ji10) < (l0.length : Int) := q_d
          obtain ⟨ad153, e153, hx153_0, hx153_1, hx153_2, hx153_3⟩ := at_T49 HR0.out (ji10) p153 q153
          obtain rfl : ad152 = ad153 := (by injection e153)
          replace hx153_0 := q_x HB.out hx153_0
          replace hx153_1 := q_x HB.out hx153_1
          replace hx153_2 := q_x HB.out hx153_2
          replace hx153_3 := q_x HB.out hx153_3
          replace p153 := eq_true p153
          replace q153 := eq_true q153
          have p154 : 0 ≤ (x4_1 : Int) := q_d
          have q154 : x4_1 < (l0.length : Int) := q_d
          obtain ⟨ad154, e154, hx154_0, hx154_1, hx154_2, hx154_3⟩ := at_T49 HR0.out x4_1 p154 q154
          obtain rfl : ad152 = ad154 := (by injection e154)
          replace hx154_0 := q_x HB.out hx154_0
          replace hx154_1 := q_x HB.out hx154_1
          replace hx154_2 := q_x HB.out hx154_2
          replace hx154_3 := q_x HB.out hx154_3
          replace p154 := eq_true p154
          replace q154 := eq_true q154
          go_wp2_with (first | ((with_reducible refine gate_builtin (b := .append) (xs := #[.tmp 28, .tmp 34]) rfl ?_); at_builtin; refine Kd.R_append Kd.string (w0 := w) w.heap.size rfl (.tmp 28) (.tmp 34) 61 9 (.string ⟨#[]⟩) 16 rfl Try.underlying61 info9 rfl (by decide) (by omega) u3 x3_1 ((rd_T49 l0 x4_1).f0) [.string ((rd_T49 l0 x4_1).f0)] (fun _ => True) (fun _ => False) rfl rfl ?aP (fun _ hk => hk.elim) ?aF ?aO ?aB ?aS ?aL ?_; (case aP => exact rfl); (case aB => exact bq); (case aF => exact (fun _ _ => trivial)); (case aO => exact (q_r (HO_3.out))); (case aS => exact (below_size bq)); (case aL => have := LMc14.out; omega); intro v156 w15 ho hb hg hat; rw [← Ny155.out] at ho; have n0_ := Aside0.mk (hb); have n1_ := Aside0.mk (ho); revert n0_ n1_; clear HB HO_3; intro HB HO157; clear ho hb hg hat))
          repeat (go_quiet (first | ((with_reducible refine gate_builtin (b := .append) (xs := #[.tmp 28, .tmp 34]) rfl ?_); at_builtin; refine Kd.R_append Kd.string (w0 := w) w.heap.size rfl (.tmp 28) (.tmp 34) 61 9 (.string ⟨#[]⟩) 16 rfl Try.underlying61 info9 rfl (by decide) (by omega) u3 x3_1 ((rd_T49 l0 x4_1).f0) [.string ((rd_T49 l0 x4_1).f0)] (fun _ => True) (fun _ => False) rfl rfl ?aP (fun _ hk => hk.elim) ?aF ?aO ?aB ?aS ?aL ?_; (case aP => exact rfl); (case aB => exact bq); (case aF => exact (fun _ _ => trivial)); (case aO => exact (q_r (HO_3.out))); (case aS => exact (below_size bq)); (case aL => have := LMc14.out; omega); intro v156 w15 ho hb hg hat; rw [← Ny155.out] at ho; have n0_ := Aside0.mk (hb); have n1_ := Aside0.mk (ho); revert n0_ n1_; clear HB HO_3; intro HB HO157; clear ho hb hg hat)); try go_wp2_with (first | ((with_reducible refine gate_builtin (b := .append) (xs := #[.tmp 28, .tmp 34]) rfl ?_); at_builtin; refine Kd.R_append Kd.string (w0 := w) w.heap.size rfl (.tmp 28) (.tmp 34) 61 9 (.string ⟨#[]⟩) 16 rfl Try.underlying61 info9 rfl (by decide) (by omega) u3 x3_1 ((rd_T49 l0 x4_1).f0) [.string ((rd_T49 l0 x4_1).f0)] (fun _ => True) (fun _ => False) rfl rfl ?aP (fun _ hk => hk.elim) ?aF ?aO ?aB ?aS ?aL ?_; (case aP => exact rfl); (case aB => exact bq); (case aF => exact (fun _ _ => trivial)); (case aO => exact (q_r (HO_3.out))); (case aS => exact (below_size bq)); (case aL => have := LMc14.out; omega); intro v156 w15 ho hb hg hat; rw [← Ny155.out] at ho; have n0_ := Aside0.mk (hb); have n1_ := Aside0.mk (ho); revert n0_ n1_; clear HB HO_3; intro HB HO157; clear ho hb hg hat)))
          go_roundg k1
          case measure => have := HK1.out; omega
          case rel => exact ⟨(y155), (wrap64 (x4_1 + 1)), q_i, H', ⟨by have := HK1.out; omega⟩, ⟨q_r (HO157.out)⟩, ⟨bq⟩⟩
         ·rw [if_neg c14] at H
          exact absurd H (by simp)
       ·rw [if_neg c12] at H
        exact absurd H (by simp)
      ·rw [if_neg c11] at H
       exact absurd H (by simp)
     ·rw [if_neg c9] at H
      exact absurd H (by simp)
   ·rw [if_neg c4] at H
    have c4b0 := decide_eq_false c4
    clear c4
    obtain rfl := Option.some.inj H
    go_wp2
    repeat (go_quiet (fail); try go_wp2)
    go_ret
    exact ⟨_, q_e, q_r (HO_3.out), bq⟩

end Go.Proofs.Ytdhlcnlcpjlliaa.PFnScans
