/- The functions that a law reaches, each as a plain Lean function with the proof that the machine comes to its answer: written by program (the kit's print, turned by wip/gen). No conditions. -/
import Derived.Test.YtdhlcnlcpjlliaaPFnScansx0
import Derived.Test.YtdhlcnlcpjlliaaPFnScansx1
namespace Go.Proofs.Ytdhlcnlcpjlliaa.PFnScans
open Go.RowKit Go.Proofs.YtdhlcnlcpjlliaaW.PrintWords Go.Proofs.YtdhlcnlcpjlliaaW.PrintLast Go.Proofs.YtdhlcnlcpjlliaaW.PrintMore
attribute [local go_sem] max2_int min2_int max_two min_two max_three min_three max_four min_four   -- for this text's walks alone
set_option linter.unusedVariables false
set_option linter.unusedSimpArgs false

/-! ### impl_TableFault: function 18 -/
def impl_TableFault.l0 : Nat → List (S49) → List (S49) → Int → Int → Option (Int)
  | 0, _, _, _, _ => none
  | k + 1, x0, x9, x10, x11 => if x11 < x10 then (if 0 ≤ x11 then (if x11 < (x9.length : Int) then ((impl_RowFault.f k ((rd_T49 x9 x11).f0) ((rd_T49 x9 x11).f1) ((rd_T49 x9 x11).f2) ((rd_T49 x9 x11).f3)).bind fun t120 => (if t120 = 0 then (if x11 > 0 then (if 0 ≤ (wrap64 (x11 - 1)) then (if (wrap64 (x11 - 1)) < (x0.length : Int) then ((impl_compareRows.f k ((rd_T49 x0 (wrap64 (x11 - 1))).f0) ((rd_T49 x0 (wrap64 (x11 - 1))).f1) ((rd_T49 x0 (wrap64 (x11 - 1))).f2) ((rd_T49 x0 (wrap64 (x11 - 1))).f3) ((rd_T49 x9 x11).f0) ((rd_T49 x9 x11).f1) ((rd_T49 x9 x11).f2) ((rd_T49 x9 x11).f3)).bind fun t122 => (if t122 ≥ 0 then (some 1) else (impl_TableFault.l0 k x0 x9 x10 (wrap64 (x11 + 1))))) else (none)) else (none)) else (impl_TableFault.l0 k x0 x9 x10 (wrap64 (x11 + 1)))) else (some t120))) else (none)) else (none)) else (some 0)
def impl_TableFault.f (k : Nat) (l0 : List (S49)) : Option (Int) := if (l0.length : Int) > 200 then (some 2) else (impl_TableFault.l0 k l0 l0 (l0.length : Int) 0)
def impl_TableFault.T9 : Bool × List (List Nat × List Nat) := (true, [([], []), ([0], [0]), ([1], [1]), ([2], [2]), ([2], [2]), ([4, 2], [2, 4]), ([3, 5, 2], [2, 3, 5]), ([6, 2], [2, 6]), ([2], [2]), ([7, 8, 2, 2], [2, 7, 8]), ([9, 2], [2, 9]), ([2, 10], [2, 10])])
def impl_TableFault.B9 : List Nat := [0, 1, 3, 7, 7, 23, 63, 127, 7, 511, 1023, 2047]
theorem impl_TableFault.tab9 : rtab .any (opsOf Try.f18 9) = impl_TableFault.T9 := by kernel_rfl
theorem impl_TableFault.bits9 : waitsOk impl_TableFault.T9.2 impl_TableFault.B9 = true := by kernel_rfl
set_option maxHeartbeats 8000000 in
set_option maxRecDepth 100000 in
theorem impl_TableFault.calls (k : Nat) (A0 : Option Addr) (c0 : Nat) (l0 : List (S49)) (r : Int) (w : World) (hr0 : Kd.C k49 w A0 l0.length l0) (hc0 : l0.length ≤ c0) (h : impl_TableFault.f k l0 = some r) :
  Calls Try.prog 18 #[.slice A0 l0.length c0] w fun e w' => e = .returned (.int .i64 r) ∧ Below w.heap.size w w' := by
 have hu49 := Try.underlying49
 have HR0 := Aside0.mk hr0
 have HC0 := Aside0.mk hc0
 clear hr0 hc0
 have HB := Aside0.mk (Below.refl w.heap.size w)
 have H : (if (l0.length : Int) > 200 then (some 2) else (impl_TableFault.l0 k l0 l0 (l0.length : Int) 0)) = some r := h
 clear h
 by_cases c2 : (l0.length : Int) > 200
 ·rw [if_pos c2] at H
  have c2b0 := decide_eq_true c2
  have c2b1 : decide (200 < l0.length) = true := decide_eq_true (by omega)
  clear c2
  obtain rfl := Option.some.inj H
  go_enter Try.func18, Try.ntmps18
  go_wp2
  go_ret
  exact ⟨q_e, bq⟩
 ·rw [if_neg c2] at H
  have c2b0 := decide_eq_false c2
  have c2b1 : decide (200 < l0.length) = false := decide_eq_false (by omega)
  clear c2
  have H' := Aside0.mk H
  clear H
  go_enter Try.func18, Try.ntmps18
  go_wp2
  go_loopg [11] k (fun kq v11 w' => ∃ (x11_1 : Int), v11 = .int .i64 x11_1 ∧ Aside0 (impl_TableFault.l0 kq l0 l0 (l0.length : Int) x11_1 = some r) ∧ Aside0 (kq ≤ k) ∧ Aside0 (Below w.heap.size w w'))
  case atStart => exact ⟨(0), q_i, H', ⟨Nat.le_refl _⟩, ⟨bq⟩⟩
  case round =>
   clear H'
   (try clear c1); (try clear c2); (try clear c2b0); (try clear c2b1); (try clear p2)
   obtain ⟨x11_1, rfl, HA, HK1, HB⟩ := hrel
   cases gk with
   | zero => exact absurd HA.out (by simp [impl_TableFault.l0])
   | succ k1 =>
    have H := HA.out
    clear HA
    simp only [impl_TableFault.l0] at H
    by_cases c3 : x11_1 < (l0.length : Int)
    ·rw [if_pos c3] at H
     have c3b0 := decide_eq_true c3
     clear c3
     by_cases c4 : 0 ≤ x11_1
     ·rw [if_pos c4] at H
      have c4b0 := decide_eq_true c4
      clear c4
      by_cases c5 : x11_1 < (l0.length : Int)
      ·rw [if_pos c5] at H
       have c5b0 := decide_eq_true c5
       clear c5
       replace H := Option.bind_eq_some_iff.mp H
       obtain ⟨t120, A60, H⟩ := H
       replace H : (if t120 = 0 then (if x11_1 > 0 then (if 0 ≤ (wrap64 (x11_1 - 1)) then (if (wrap64 (x11_1 - 1)) < (l0.length : Int) then ((impl_compareRows.f k1 ((rd_T49 l0 (wrap64 (x11_1 - 1))).f0) ((rd_T49 l0 (wrap64 (x11_1 - 1))).f1) ((rd_T49 l0 (wrap64 (x11_1 - 1))).f2) ((rd_T49 l0 (wrap64 (x11_1 - 1))).f3) ((rd_T49 l0 x11_1).f0) ((rd_T49 l0 x11_1).f1) ((rd_T49 l0 x11_1).f2) ((rd_T49 l0 x11_1).f3)).bind fun t122 => (if t122 ≥ 0 then (some 1) else (impl_TableFault.l0 k1 l0 l0 (l0.length : Int) (wrap64 (x11_1 + 1))))) else (none)) else (none)) else (impl_TableFault.l0 k1 l0 l0 (l0.length : Int) (wrap64 (x11_1 + 1)))) else (some t120)) = some r := H
       have A6 := Aside0.mk A60
       clear A60
       by_cases c7 : t120 = 0
       ·rw [if_pos c7] at H
        have c7b0 : (t120 == 0) = true := beq_iff_eq.mpr c7
        have c7b1 : (t120 != 0) = false := bne_eq_false_iff_eq.mpr c7
        clear c7
        by_cases c8 : x11_1 > 0
        ·rw [if_pos c8] at H
         have c8b0 := decide_eq_true c8
         clear c8
         obtain ⟨ji9, hji9⟩ : ∃ j_ : Int, (wrap64 (x11_1 - 1)) = j_ := ⟨_, rfl⟩
         replace H : (if 0 ≤ (ji9) then (if (ji9) < (l0.length : Int) then ((impl_compareRows.f k1 ((rd_T49 l0 (ji9)).f0) ((rd_T49 l0 (ji9)).f1) ((rd_T49 l0 (ji9)).f2) ((rd_T49 l0 (ji9)).f3) ((rd_T49 l0 x11_1).f0) ((rd_T49 l0 x11_1).f1) ((rd_T49 l0 x11_1).f2) ((rd_T49 l0 x11_1).f3)).bind fun t122 => (if t122 ≥ 0 then (some 1) else (impl_TableFault.l0 k1 l0 l0 (l0.length : Int) (wrap64 (x11_1 + 1))))) else (none)) else (none)) = some r := by first | (rw [hji9] at H; exact H) | (simp only [hji9] at H ⊢; exact H)
         (try rw [hji9] at A6)
         have hji9w : (IntKind.i64.wrap (x11_1 - 1)) = ji9 := (i64_w _).trans hji9
         by_cases c10 : 0 ≤ (ji9)
         ·rw [if_pos c10] at H
          have c10b0 := decide_eq_true c10
          clear c10
          by_cases c11 : (ji9) < (l0.length : Int)
          ·rw [if_pos c11] at H
           have c11b0 := decide_eq_true c11
           clear c11
           replace H := Option.bind_eq_some_iff.mp H
           obtain ⟨t122, A120, H⟩ := H
           replace H : (if t122 ≥ 0 then (some 1) else (impl_TableFault.l0 k1 l0 l0 (l0.length : Int) (wrap64 (x11_1 + 1)))) = some r := H
           have A12 := Aside0.mk A120
           clear A120
           by_cases c13 : t122 ≥ 0
           ·rw [if_pos c13] at H
            have c13b0 := decide_eq_true c13
            clear c13
            obtain rfl := Option.some.inj H
            have p118 : 0 ≤ (x11_1 : Int) := q_d
            have q118 : x11_1 < (l0.length : Int) := q_d
            obtain ⟨ad118, e118, hx118_0, hx118_1, hx118_2, hx118_3⟩ := at_T49 HR0.out x11_1 p118 q118
            cases e118
            replace hx118_0 := q_x HB.out hx118_0
            replace hx118_1 := q_x HB.out hx118_1
            replace hx118_2 := q_x HB.out hx118_2
            replace hx118_3 := q_x HB.out hx118_3
            replace p118 := eq_true p118
            replace q118 := eq_true q118
            try go_wp2_with (first | ((with_reducible refine gate_dst (N := 4) rfl ?_); refine q_box (N := 4) (cs := #[.string (⟨#[]⟩ : ByteArray), .int .i64 0, .string (⟨#[]⟩ : ByteArray), .bool false]) (t := 49) ?_; intro gb119 hg w14 hbox hb; have n0_ := Aside0.mk (below_step bq hb); have n1_ := Aside0.mk (hbox); have n2_ := Aside0.mk ((q_g hg bq : w.heap.size ≤ gb119)); have n3_ := Aside0.mk ((q_g hg bq : w.heap.size ≤ gb119)); revert n0_ n1_ n2_ n3_; clear HB; intro HB BK119 GW119 GE119; clear hb hbox hg; obtain ⟨hcz15_0, hcz15_1, hcz15_2, hcz15_3, hfz15_0, hfz15_1, hfz15_2, hfz15_3⟩ := q_4 BK119.out) | ((with_reducible refine gate_callee (f := 66) rfl ?_); refine goesLq (some 17) rfl rfl Try.func66 (by kernel_rfl) rfl #[.agg #[.string ((rd_T49 l0 x11_1).f0), .int .i64 ((rd_T49 l0 x11_1).f1), .string ((rd_T49 l0 x11_1).f2), .bool ((rd_T49 l0 x11_1).f3)]] rfl ?_; (with_reducible refine (impl_RowFault.calls k1 ((rd_T49 l0 x11_1).f0) ((rd_T49 l0 x11_1).f1) ((rd_T49 l0 x11_1).f2) ((rd_T49 l0 x11_1).f3) t120 _ A6.out).mono ?_); rintro e w16 ⟨rfl, hb⟩; refine ⟨_, rfl, ?_⟩; have n0_ := Aside0.mk (blk_below (g := gb119) (o := .cells #[.string ((rd_T49 l0 x11_1).f0), .int .i64 ((rd_T49 l0 x11_1).f1), .string ((rd_T49 l0 x11_1).f2), .bool ((rd_T49 l0 x11_1).f3)] 49 (0, 0)) (by (with_reducible repeat (first | refine blk_drewN ?_ _ | refine blk_drew ?_ | refine blk_alloc ?_ _)); refine blk_put (cs := #[.string ((rd_T49 l0 x11_1).f0), .int .i64 ((rd_T49 l0 x11_1).f1), .string ((rd_T49 l0 x11_1).f2), .bool false]) ?_ 3 _ rfl; (with_reducible repeat (first | refine blk_drewN ?_ _ | refine blk_drew ?_ | refine blk_alloc ?_ _)); refine blk_put (cs := #[.string ((rd_T49 l0 x11_1).f0), .int .i64 ((rd_T49 l0 x11_1).f1), .string (⟨#[]⟩ : ByteArray), .bool false]) ?_ 2 _ rfl; (with_reducible repeat (first | refine blk_drewN ?_ _ | refine blk_drew ?_ | refine blk_alloc ?_ _)); refine blk_put (cs := #[.string ((rd_T49 l0 x11_1).f0), .int .i64 0, .string (⟨#[]⟩ : ByteArray), .bool false]) ?_ 1 _ rfl; (with_reducible repeat (first | refine blk_drewN ?_ _ | refine blk_drew ?_ | refine blk_alloc ?_ _)); refine blk_put (cs := #[.string (⟨#[]⟩ : ByteArray), .int .i64 0, .string (⟨#[]⟩ : ByteArray), .bool false]) ?_ 0 _ rfl; (with_reducible repeat (first | refine blk_drewN ?_ _ | refine blk_drew ?_ | refine blk_alloc ?_ _)); exact BK119.out) hb); have n1_ := Aside0.mk (below_step bq hb); revert n0_ n1_; clear BK119 HB; intro BK119 HB; (try clear hb); (try clear hb2); (try clear hk); (try clear hi)))
            have n0_ := Aside0.mk (blk_drew BK119.out)
            have n1_ := Aside0.mk (below_drew1 HB.out)
            clear BK119
            clear HB
            have BK119 := n0_
            have HB := n1_
            clear n0_ n1_
            have p121 : 0 ≤ ((ji9) : Int) := q_d
            have q121 : (ji9) < (l0.length : Int) := q_d
            obtain ⟨ad121, e121, hx121_0, hx121_1, hx121_2, hx121_3⟩ := at_T49 HR0.out (ji9) p121 q121
            have hw121_3 := hx121_3
            have hw121_2 := hx121_2
            have hw121_1 := hx121_1
            have hw121_0 := hx121_0
            obtain rfl : ad118 = ad121 := (by injection e121)
            replace hx121_0 := q_x HB.out hx121_0
            replace hx121_1 := q_x HB.out hx121_1
            replace hx121_2 := q_x HB.out hx121_2
            replace hx121_3 := q_x HB.out hx121_3
            replace p121 := eq_true p121
            replace q121 := eq_true q121
            refine start_ (n := 12) (S := fun w' => w'.cell? ⟨gb119, 0, none⟩ = some (.string ((rd_T49 l0 x11_1).f0)) ∧ w'.cell? ⟨gb119, 1, none⟩ = some (.int .i64 ((rd_T49 l0 x11_1).f1)) ∧ w'.cell? ⟨gb119, 2, none⟩ = some (.string ((rd_T49 l0 x11_1).f2)) ∧ w'.cell? ⟨gb119, 3, none⟩ = some (.bool ((rd_T49 l0 x11_1).f3)) ∧ w'.cell? (ad118.add (((ji9)).toNat * 4)) = some (.string ((rd_T49 l0 (ji9)).f0)) ∧ w'.cell? ⟨(ad118.add (((ji9)).toNat * 4)).block, (ad118.add (((ji9)).toNat * 4)).off + 1, none⟩ = some (.int .i64 ((rd_T49 l0 (ji9)).f1)) ∧ w'.cell? ⟨(ad118.add (((ji9)).toNat * 4)).block, (ad118.add (((ji9)).toNat * 4)).off + 2, none⟩ = some (.string ((rd_T49 l0 (ji9)).f2)) ∧ w'.cell? ⟨(ad118.add (((ji9)).toNat * 4)).block, (ad118.add (((ji9)).toNat * 4)).off + 3, none⟩ = some (.bool ((rd_T49 l0 (ji9)).f3))) (ds := []) #[false, false, false, false, false, false, false, false, false, false, false, false] (by kernel_rfl) rfl rfl ⟨q_z BK119.out 0, q_z BK119.out 1, q_z BK119.out 2, q_z BK119.out 3, ((HB.out.cell (World.block_lt_of_cell? w _ hw121_0)).trans hw121_0), ((HB.out.cell (World.block_lt_of_cell? w _ hw121_1)).trans hw121_1), ((HB.out.cell (World.block_lt_of_cell? w _ hw121_2)).trans hw121_2), ((HB.out.cell (World.block_lt_of_cell? w _ hw121_3)).trans hw121_3)⟩ (fun hHeld => ?_); refine with_tabW impl_TableFault.tab9 impl_TableFault.bits9 (fun HT_ HW_ => ?_)
            generalize w16.drew = w17 at BK119 HB hx121_0 hx121_1 hx121_2 hx121_3 hHeld ⊢
            refine q_p 0 (some 21) #[true, false, false, false, false, false, false, false, false, false, false, false] HT_.out ?_
            refine q_p 1 (some 22) #[true, true, false, false, false, false, false, false, false, false, false, false] HT_.out ?_
            refine q_p 2 (some 23) #[true, true, true, false, false, false, false, false, false, false, false, false] HT_.out ?_
            refine q_p 3 (some 24) #[true, true, true, true, false, false, false, false, false, false, false, false] HT_.out ?_
            refine q_p 4 (some 25) #[true, true, true, true, true, false, false, false, false, false, false, false] HT_.out ?_
            refine q_p 5 (some 26) #[true, true, true, true, true, true, false, false, false, false, false, false] HT_.out ?_
            refine q_p 6 (some 27) #[true, true, true, true, true, true, true, false, false, false, false, false] HT_.out ?_
            refine q_t 7 (some 28) #[true, true, true, true, true, true, true, true, false, false, false, false] HT_.out HW_.out hHeld ?_
            refine q_t 8 (some 29) #[true, true, true, true, true, true, true, true, true, false, false, false] HT_.out HW_.out hHeld ?_
            refine one_ (i := 9) (N := some 30) #[true, true, true, true, true, true, true, true, true, true, false, false] rfl rfl (one_of HT_.out (by kernel_rfl)) (by decide) (fun K hK => ?_)
            refine goes_ Try.func67 (by kernel_rfl) rfl #[.agg #[.string ((rd_T49 l0 (ji9)).f0), .int .i64 ((rd_T49 l0 (ji9)).f1), .string ((rd_T49 l0 (ji9)).f2), .bool ((rd_T49 l0 (ji9)).f3)], .agg #[.string ((rd_T49 l0 x11_1).f0), .int .i64 ((rd_T49 l0 x11_1).f1), .string ((rd_T49 l0 x11_1).f2), .bool ((rd_T49 l0 x11_1).f3)]] (by rfl) rfl rfl (by (try simp only [List.map_toArray, List.map_cons, List.map_nil]); first | done | (simp only [hji9]; rfl) | rfl | (simp only [List.length_drop, List.length_take]; rfl)) ?_
            with_reducible refine (impl_compareRows.calls k1 ((rd_T49 l0 (ji9)).f0) ((rd_T49 l0 (ji9)).f1) ((rd_T49 l0 (ji9)).f2) ((rd_T49 l0 (ji9)).f3) ((rd_T49 l0 x11_1).f0) ((rd_T49 l0 x11_1).f1) ((rd_T49 l0 x11_1).f2) ((rd_T49 l0 x11_1).f3) t122 _ A12.out).mono ?_
            rintro e w18 ⟨rfl, hb⟩
            refine ⟨_, rfl, ?_⟩
            have n0_ := Aside0.mk (blk_below (q_b BK119.out) hb)
            have n1_ := Aside0.mk (below_step bq hb)
            clear BK119
            clear HB
            have BK119 := n0_
            have HB := n1_
            clear n0_ n1_
            (try clear hb)
            (try clear hb2)
            (try clear hk)
            (try clear hi)
            refine hK.out _ _ ⟨q_z BK119.out 0, q_z BK119.out 1, q_z BK119.out 2, q_z BK119.out 3, ((HB.out.cell (World.block_lt_of_cell? w _ hw121_0)).trans hw121_0), ((HB.out.cell (World.block_lt_of_cell? w _ hw121_1)).trans hw121_1), ((HB.out.cell (World.block_lt_of_cell? w _ hw121_2)).trans hw121_2), ((HB.out.cell (World.block_lt_of_cell? w _ hw121_3)).trans hw121_3)⟩ (fun hHeld => ?_)
            clear hK K
            refine norm_ (a' := ?_) ?_ ?_
            rotate_left
            ·show Act.put _ (some 30) _ = _
             simp only [Act.put, List.setIfInBounds_toArray, List.set_cons_zero, List.set_cons_succ, i64_w, i32_w]
             rfl
            refine q_p 10 (some 31) #[true, true, true, true, true, true, true, true, true, true, true, false] HT_.out ?_
            refine q_p 11 (some 32) #[true, true, true, true, true, true, true, true, true, true, true, true] HT_.out ?_
            refine done_ (done_of HT_.out (by kernel_rfl)) ?_
            try go_wp2
            go_ret
            exact ⟨by first | rfl | (simp [errW_none, errW_some] <;> rfl) | (simp only [← hji9]; first | rfl | (simp [errW_none, errW_some] <;> rfl)) | (simp [*, errW_none, errW_some] <;> rfl), bq⟩
           ·rw [if_neg c13] at H
            have c13b0 := decide_eq_false c13
            clear c13
            have H' := Aside0.mk H
            clear H
            have p118 : 0 ≤ (x11_1 : Int) := q_d
            have q118 : x11_1 < (l0.length : Int) := q_d
            obtain ⟨ad118, e118, hx118_0, hx118_1, hx118_2, hx118_3⟩ := at_T49 HR0.out x11_1 p118 q118
            cases e118
            replace hx118_0 := q_x HB.out hx118_0
            replace hx118_1 := q_x HB.out hx118_1
            replace hx118_2 := q_x HB.out hx118_2
            replace hx118_3 := q_x HB.out hx118_3
            replace p118 := eq_true p118
            replace q118 := eq_true q118
            try go_wp2_with (first | ((with_reducible refine gate_dst (N := 4) rfl ?_); refine q_box (N := 4) (cs := #[.string (⟨#[]⟩ : ByteArray), .int .i64 0, .string (⟨#[]⟩ : ByteArray), .bool false]) (t := 49) ?_; intro gb119 hg w19 hbox hb; have n0_ := Aside0.mk (below_step bq hb); have n1_ := Aside0.mk (hbox); have n2_ := Aside0.mk ((q_g hg bq : w.heap.size ≤ gb119)); have n3_ := Aside0.mk ((q_g hg bq : w.heap.size ≤ gb119)); revert n0_ n1_ n2_ n3_; clear HB; intro HB BK119 GW119 GE119; clear hb hbox hg; obtain ⟨hcz20_0, hcz20_1, hcz20_2, hcz20_3, hfz20_0, hfz20_1, hfz20_2, hfz20_3⟩ := q_4 BK119.out) | ((with_reducible refine gate_callee (f := 66) rfl ?_); refine goesLq (some 17) rfl rfl Try.func66 (by kernel_rfl) rfl #[.agg #[.string ((rd_T49 l0 x11_1).f0), .int .i64 ((rd_T49 l0 x11_1).f1), .string ((rd_T49 l0 x11_1).f2), .bool ((rd_T49 l0 x11_1).f3)]] rfl ?_; (with_reducible refine (impl_RowFault.calls k1 ((rd_T49 l0 x11_1).f0) ((rd_T49 l0 x11_1).f1) ((rd_T49 l0 x11_1).f2) ((rd_T49 l0 x11_1).f3) t120 _ A6.out).mono ?_); rintro e w21 ⟨rfl, hb⟩; refine ⟨_, rfl, ?_⟩; have n0_ := Aside0.mk (blk_below (g := gb119) (o := .cells #[.string ((rd_T49 l0 x11_1).f0), .int .i64 ((rd_T49 l0 x11_1).f1), .string ((rd_T49 l0 x11_1).f2), .bool ((rd_T49 l0 x11_1).f3)] 49 (0, 0)) (by (with_reducible repeat (first | refine blk_drewN ?_ _ | refine blk_drew ?_ | refine blk_alloc ?_ _)); refine blk_put (cs := #[.string ((rd_T49 l0 x11_1).f0), .int .i64 ((rd_T49 l0 x11_1).f1), .string ((rd_T49 l0 x11_1).f2), .bool false]) ?_ 3 _ rfl; (with_reducible repeat (first | refine blk_drewN ?_ _ | refine blk_drew ?_ | refine blk_alloc ?_ _)); refine blk_put (cs := #[.string ((rd_T49 l0 x11_1).f0), .int .i64 ((rd_T49 l0 x11_1).f1), .string (⟨#[]⟩ : ByteArray), .bool false]) ?_ 2 _ rfl; (with_reducible repeat (first | refine blk_drewN ?_ _ | refine blk_drew ?_ | refine blk_alloc ?_ _)); refine blk_put (cs := #[.string ((rd_T49 l0 x11_1).f0), .int .i64 0, .string (⟨#[]⟩ : ByteArray), .bool false]) ?_ 1 _ rfl; (with_reducible repeat (first | refine blk_drewN ?_ _ | refine blk_drew ?_ | refine blk_alloc ?_ _)); refine blk_put (cs := #[.string (⟨#[]⟩ : ByteArray), .int .i64 0, .string (⟨#[]⟩ : ByteArray), .bool false]) ?_ 0 _ rfl; (with_reducible repeat (first | refine blk_drewN ?_ _ | refine blk_drew ?_ | refine blk_alloc ?_ _)); exact BK119.out) hb); have n1_ := Aside0.mk (below_step bq hb); revert n0_ n1_; clear BK119 HB; intro BK119 HB; (try clear hb); (try clear hb2); (try clear hk); (try clear hi)))
            have n0_ := Aside0.mk (blk_drew BK119.out)
            have n1_ := Aside0.mk (below_drew1 HB.out)
            clear BK119
            clear HB
            have BK119 := n0_
            have HB := n1_
            clear n0_ n1_
            have p121 : 0 ≤ ((ji9) : Int) := q_d
            have q121 : (ji9) < (l0.length : Int) := q_d
            obtain ⟨ad121, e121, hx121_0, hx121_1, hx121_2, hx121_3⟩ := at_T49 HR0.out (ji9) p121 q121
            have hw121_3 := hx121_3
            have hw121_2 := hx121_2
            have hw121_1 := hx121_1
            have hw121_0 := hx121_0
            obtain rfl : ad118 = ad121 := (by injection e121)
            replace hx121_0 := q_x HB.out hx121_0
            replace hx121_1 := q_x HB.out hx121_1
            replace hx121_2 := q_x HB.out hx121_2
            replace hx121_3 := q_x HB.out hx121_3
            replace p121 := eq_true p121
            replace q121 := eq_true q121
            refine start_ (n := 12) (S := fun w' => w'.cell? ⟨gb119, 0, none⟩ = some (.string ((rd_T49 l0 x11_1).f0)) ∧ w'.cell? ⟨gb119, 1, none⟩ = some (.int .i64 ((rd_T49 l0 x11_1).f1)) ∧ w'.cell? ⟨gb119, 2, none⟩ = some (.string ((rd_T49 l0 x11_1).f2)) ∧ w'.cell? ⟨gb119, 3, none⟩ = some (.bool ((rd_T49 l0 x11_1).f3)) ∧ w'.cell? (ad118.add (((ji9)).toNat * 4)) = some (.string ((rd_T49 l0 (ji9)).f0)) ∧ w'.cell? ⟨(ad118.add (((ji9)).toNat * 4)).block, (ad118.add (((ji9)).toNat * 4)).off + 1, none⟩ = some (.int .i64 ((rd_T49 l0 (ji9)).f1)) ∧ w'.cell? ⟨(ad118.add (((ji9)).toNat * 4)).block, (ad118.add (((ji9)).toNat * 4)).off + 2, none⟩ = some (.string ((rd_T49 l0 (ji9)).f2)) ∧ w'.cell? ⟨(ad118.add (((ji9)).toNat * 4)).block, (ad118.add (((ji9)).toNat * 4)).off + 3, none⟩ = some (.bool ((rd_T49 l0 (ji9)).f3))) (ds := []) #[false, false, false, false, false, false, false, false, false, false, false, false] (by kernel_rfl) rfl rfl ⟨q_z BK119.out 0, q_z BK119.out 1, q_z BK119.out 2, q_z BK119.out 3, ((HB.out.cell (World.block_lt_of_cell? w _ hw121_0)).trans hw121_0), ((HB.out.cell (World.block_lt_of_cell? w _ hw121_1)).trans hw121_1), ((HB.out.cell (World.block_lt_of_cell? w _ hw121_2)).trans hw121_2), ((HB.out.cell (World.block_lt_of_cell? w _ hw121_3)).trans hw121_3)⟩ (fun hHeld => ?_); refine with_tabW impl_TableFault.tab9 impl_TableFault.bits9 (fun HT_ HW_ => ?_)
            generalize w21.drew = w22 at BK119 HB hx121_0 hx121_1 hx121_2 hx121_3 hHeld ⊢
            refine q_p 0 (some 21) #[true, false, false, false, false, false, false, false, false, false, false, false] HT_.out ?_
            refine q_p 1 (some 22) #[true, true, false, false, false, false, false, false, false, false, false, false] HT_.out ?_
            refine q_p 2 (some 23) #[true, true, true, false, false, false, false, false, false, false, false, false] HT_.out ?_
            refine q_p 3 (some 24) #[true, true, true, true, false, false, false, false, false, false, false, false] HT_.out ?_
            refine q_p 4 (some 25) #[true, true, true, true, true, false, false, false, false, false, false, false] HT_.out ?_
            refine q_p 5 (some 26) #[true, true, true, true, true, true, false, false, false, false, false, false] HT_.out ?_
            refine q_p 6 (some 27) #[true, true, true, true, true, true, true, false, false, false, false, false] HT_.out ?_
            refine q_t 7 (some 28) #[true, true, true, true, true, true, true, true, false, false, false, false] HT_.out HW_.out hHeld ?_
            refine q_t 8 (some 29) #[true, true, true, true, true, true, true, true, true, false, false, false] HT_.out HW_.out hHeld ?_
            refine one_ (i := 9) (N := some 30) #[true, true, true, true, true, true, true, true, true, true, false, false] rfl rfl (one_of HT_.out (by kernel_rfl)) (by decide) (fun K hK => ?_)
            refine goes_ Try.func67 (by kernel_rfl) rfl #[.agg #[.string ((rd_T49 l0 (ji9)).f0), .int .i64 ((rd_T49 l0 (ji9)).f1), .string ((rd_T49 l0 (ji9)).f2), .bool ((rd_T49 l0 (ji9)).f3)], .agg #[.string ((rd_T49 l0 x11_1).f0), .int .i64 ((rd_T49 l0 x11_1).f1), .string ((rd_T49 l0 x11_1).f2), .bool ((rd_T49 l0 x11_1).f3)]] (by rfl) rfl rfl (by (try simp only [List.map_toArray, List.map_cons, List.map_nil]); first | done | (simp only [hji9]; rfl) | rfl | (simp only [List.length_drop, List.length_take]; rfl)) ?_
            with_reducible refine (impl_compareRows.calls k1 ((rd_T49 l0 (ji9)).f0) ((rd_T49 l0 (ji9)).f1) ((rd_T49 l0 (ji9)).f2) ((rd_T49 l0 (ji9)).f3) ((rd_T49 l0 x11_1).f0) ((rd_T49 l0 x11_1).f1) ((rd_T49 l0 x11_1).f2) ((rd_T49 l0 x11_1).f3) t122 _ A12.out).mono ?_
            rintro e w23 ⟨rfl, hb⟩
            refine ⟨_, rfl, ?_⟩
            have n0_ := Aside0.mk (blk_below (q_b BK119.out) hb)
            have n1_ := Aside0.mk (below_step bq hb)
            clear BK119
            clear HB
            have BK119 := n0_
            have HB := n1_
            clear n0_ n1_
            (try clear hb)
            (try clear hb2)
            (try clear hk)
            (try clear hi)
            refine hK.out _ _ ⟨q_z BK119.out 0, q_z BK119.out 1, q_z BK119.out 2, q_z BK119.out 3, ((HB.out.cell (World.block_lt_of_cell? w _ hw121_0)).trans hw121_0), ((HB.out.cell (World.block_lt_of_cell? w _ hw121_1)).trans hw121_1), ((HB.out.cell (World.block_lt_of_cell? w _ hw121_2)).trans hw121_2), ((HB.out.cell (World.block_lt_of_cell? w _ hw121_3)).trans hw121_3)⟩ (fun hHeld => ?_)
            clear hK K
            refine norm_ (a' := ?_) ?_ ?_
            rotate_left
            ·show Act.put _ (some 30) _ = _
             simp only [Act.put, List.setIfInBounds_toArray, List.set_cons_zero, List.set_cons_succ, i64_w, i32_w]
             rfl
            refine q_p 10 (some 31) #[true, true, true, true, true, true, true, true, true, true, true, false] HT_.out ?_
            refine q_p 11 (some 32) #[true, true, true, true, true, true, true, true, true, true, true, true] HT_.out ?_
            refine done_ (done_of HT_.out (by kernel_rfl)) ?_
            try go_wp2
            go_roundg k1
            case measure => have := HK1.out; omega
            case rel => exact ⟨(wrap64 (x11_1 + 1)), q_i, H', ⟨by have := HK1.out; omega⟩, ⟨bq⟩⟩
          ·rw [if_neg c11] at H
           exact absurd H (by simp)
         ·rw [if_neg c10] at H
          exact absurd H (by simp)
        ·rw [if_neg c8] at H
         have c8b0 := decide_eq_false c8
         clear c8
         have H' := Aside0.mk H
         clear H
         have p118 : 0 ≤ (x11_1 : Int) := q_d
         have q118 : x11_1 < (l0.length : Int) := q_d
         obtain ⟨ad118, e118, hx118_0, hx118_1, hx118_2, hx118_3⟩ := at_T49 HR0.out x11_1 p118 q118
         cases e118
         replace hx118_0 := q_x HB.out hx118_0
         replace hx118_1 := q_x HB.out hx118_1
         replace hx118_2 := q_x HB.out hx118_2
         replace hx118_3 := q_x HB.out hx118_3
         replace p118 := eq_true p118
         replace q118 := eq_true q118
         try go_wp2_with (first | ((with_reducible refine gate_dst (N := 4) rfl ?_); refine q_box (N := 4) (cs := #[.string (⟨#[]⟩ : ByteArray), .int .i64 0, .string (⟨#[]⟩ : ByteArray), .bool false]) (t := 49) ?_; intro gb119 hg w24 hbox hb; have n0_ := Aside0.mk (below_step bq hb); have n1_ := Aside0.mk (hbox); have n2_ := Aside0.mk ((q_g hg bq : w.heap.size ≤ gb119)); have n3_ := Aside0.mk ((q_g hg bq : w.heap.size ≤ gb119)); revert n0_ n1_ n2_ n3_; clear HB; intro HB BK119 GW119 GE119; clear hb hbox hg; obtain ⟨hcz25_0, hcz25_1, hcz25_2, hcz25_3, hfz25_0, hfz25_1, hfz25_2, hfz25_3⟩ := q_4 BK119.out) | ((with_reducible refine gate_callee (f := 66) rfl ?_); refine goesLq (some 17) rfl rfl Try.func66 (by kernel_rfl) rfl #[.agg #[.string ((rd_T49 l0 x11_1).f0), .int .i64 ((rd_T49 l0 x11_1).f1), .string ((rd_T49 l0 x11_1).f2), .bool ((rd_T49 l0 x11_1).f3)]] rfl ?_; (with_reducible refine (impl_RowFault.calls k1 ((rd_T49 l0 x11_1).f0) ((rd_T49 l0 x11_1).f1) ((rd_T49 l0 x11_1).f2) ((rd_T49 l0 x11_1).f3) t120 _ A6.out).mono ?_); rintro e w26 ⟨rfl, hb⟩; refine ⟨_, rfl, ?_⟩; have n0_ := Aside0.mk (blk_below (g := gb119) (o := .cells #[.string ((rd_T49 l0 x11_1).f0), .int .i64 ((rd_T49 l0 x11_1).f1), .string ((rd_T49 l0 x11_1).f2), .bool ((rd_T49 l0 x11_1).f3)] 49 (0, 0)) (by (with_reducible repeat (first | refine blk_drewN ?_ _ | refine blk_drew ?_ | refine blk_alloc ?_ _)); refine blk_put (cs := #[.string ((rd_T49 l0 x11_1).f0), .int .i64 ((rd_T49 l0 x11_1).f1), .string ((rd_T49 l0 x11_1).f2), .bool false]) ?_ 3 _ rfl; (with_reducible repeat (first | refine blk_drewN ?_ _ | refine blk_drew ?_ | refine blk_alloc ?_ _)); refine blk_put (cs := #[.string ((rd_T49 l0 x11_1).f0), .int .i64 ((rd_T49 l0 x11_1).f1), .string (⟨#[]⟩ : ByteArray), .bool false]) ?_ 2 _ rfl; (with_reducible repeat (first | refine blk_drewN ?_ _ | refine blk_drew ?_ | refine blk_alloc ?_ _)); refine blk_put (cs := #[.string ((rd_T49 l0 x11_1).f0), .int .i64 0, .string (⟨#[]⟩ : ByteArray), .bool false]) ?_ 1 _ rfl; (with_reducible repeat (first | refine blk_drewN ?_ _ | refine blk_drew ?_ | refine blk_alloc ?_ _)); refine blk_put (cs := #[.string (⟨#[]⟩ : ByteArray), .int .i64 0, .string (⟨#[]⟩ : ByteArray), .bool false]) ?_ 0 _ rfl; (with_reducible repeat (first | refine blk_drewN ?_ _ | refine blk_drew ?_ | refine blk_alloc ?_ _)); exact BK119.out) hb); have n1_ := Aside0.mk (below_step bq hb); revert n0_ n1_; clear BK119 HB; intro BK119 HB; (try clear hb); (try clear hb2); (try clear hk); (try clear hi)))
         have n0_ := Aside0.mk (blk_drew BK119.out)
         have n1_ := Aside0.mk (below_drew1 HB.out)
         clear BK119
         clear HB
         have BK119 := n0_
         have HB := n1_
         clear n0_ n1_
         refine start_ (n := 12) (S := fun w' => True) (ds := []) #[false, false, false, false, false, false, false, false, false, false, false, false] (by kernel_rfl) rfl rfl trivial (fun hHeld => ?_); refine with_tabW impl_TableFault.tab9 impl_TableFault.bits9 (fun HT_ HW_ => ?_)
         generalize w26.drew = w27 at BK119 HB hHeld ⊢
         refine q_p 0 (some 21) #[true, false, false, false, false, false, false, false, false, false, false, false] HT_.out ?_
         refine q_p 1 (some 22) #[true, true, false, false, false, false, false, false, false, false, false, false] HT_.out ?_
         refine q_p 2 (some 23) #[true, true, true, false, false, false, false, false, false, false, false, false] HT_.out ?_
         refine pure_ (i := 3) (N := some 24) (v := undef) (a' := ?_) #[true, true, true, true, false, false, false, false, false, false, false, false] rfl rfl (any_of HT_.out (by kernel_rfl)) (fun _ _ _ h => h) (Or.inr ⟨by rfl, rfl⟩) ?_ ?_
         rotate_left
         ·simp only [Act.put, List.setIfInBounds_toArray, List.set_cons_zero, List.set_cons_succ, i64_w, i32_w]
          rfl
         refine pure_ (i := 4) (N := some 25) (v := undef) (a' := ?_) #[true, true, true, true, true, false, false, false, false, false, false, false] rfl rfl (any_of HT_.out (by kernel_rfl)) (fun _ _ _ h => h) (Or.inr ⟨by rfl, rfl⟩) ?_ ?_
         rotate_left
         ·simp only [Act.put, List.setIfInBounds_toArray, List.set_cons_zero, List.set_cons_succ, i64_w, i32_w]
          rfl
         refine pure_ (i := 5) (N := some 26) (v := undef) (a' := ?_) #[true, true, true, true, true, true, false, false, false, false, false, false] rfl rfl (any_of HT_.out (by kernel_rfl)) (fun _ _ _ h => h) (Or.inr ⟨by rfl, rfl⟩) ?_ ?_
         rotate_left
         ·simp only [Act.put, List.setIfInBounds_toArray, List.set_cons_zero, List.set_cons_succ, i64_w, i32_w]
          rfl
         refine pure_ (i := 6) (N := some 27) (v := undef) (a' := ?_) #[true, true, true, true, true, true, true, false, false, false, false, false] rfl rfl (any_of HT_.out (by kernel_rfl)) (fun _ _ _ h => h) (Or.inr ⟨by rfl, rfl⟩) ?_ ?_
         rotate_left
         ·simp only [Act.put, List.setIfInBounds_toArray, List.set_cons_zero, List.set_cons_succ, i64_w, i32_w]
          rfl
         refine pure_ (i := 7) (N := some 28) (v := undef) (a' := ?_) #[true, true, true, true, true, true, true, true, false, false, false, false] rfl rfl (any_of HT_.out (by kernel_rfl)) (fun _ _ _ h => h) (Or.inr ⟨by rfl, rfl⟩) ?_ ?_
         rotate_left
         ·simp only [Act.put, List.setIfInBounds_toArray, List.set_cons_zero, List.set_cons_succ, i64_w, i32_w]
          rfl
         refine pure_ (i := 8) (N := some 29) (v := undef) (a' := ?_) #[true, true, true, true, true, true, true, true, true, false, false, false] rfl rfl (any_of HT_.out (by kernel_rfl)) (fun _ _ _ h => h) (Or.inr ⟨by rfl, rfl⟩) ?_ ?_
         rotate_left
         ·simp only [Act.put, List.setIfInBounds_toArray, List.set_cons_zero, List.set_cons_succ, i64_w, i32_w]
          rfl
         refine pure_ (i := 9) (N := some 30) (v := undef) (a' := ?_) #[true, true, true, true, true, true, true, true, true, true, false, false] rfl rfl (any_of HT_.out (by kernel_rfl)) (fun _ _ _ h => h) (Or.inr ⟨by rfl, rfl⟩) ?_ ?_
         rotate_left
         ·simp only [Act.put, List.setIfInBounds_toArray, List.set_cons_zero, List.set_cons_succ, i64_w, i32_w]
          rfl
         refine pure_ (i := 10) (N := some 31) (v := undef) (a' := ?_) #[true, true, true, true, true, true, true, true, true, true, true, false] rfl rfl (any_of HT_.out (by kernel_rfl)) (fun _ _ _ h => h) (Or.inr ⟨by rfl, rfl⟩) ?_ ?_
         rotate_left
         ·simp only [Act.put, List.setIfInBounds_toArray, List.set_cons_zero, List.set_cons_succ, i64_w, i32_w]
          rfl
         refine q_p 11 (some 32) #[true, true, true, true, true, true, true, true, true, true, true, true] HT_.out ?_
         refine done_ (done_of HT_.out (by kernel_rfl)) ?_
         try go_wp2
         go_roundg k1
         case measure => have := HK1.out; omega
         case rel => exact ⟨(wrap64 (x11_1 + 1)), q_i, H', ⟨by have := HK1.out; omega⟩, ⟨bq⟩⟩
       ·rw [if_neg c7] at H
        have c7b0 : (t120 == 0) = false := beq_eq_false_iff_ne.mpr c7
        have c7b1 : (t120 != 0) = true := bne_iff_ne.mpr c7
        obtain rfl := Option.some.inj H
        have p118 : 0 ≤ (x11_1 : Int) := q_d
        have q118 : x11_1 < (l0.length : Int) := q_d
        obtain ⟨ad118, e118, hx118_0, hx118_1, hx118_2, hx118_3⟩ := at_T49 HR0.out x11_1 p118 q118
        cases e118
        replace hx118_0 := q_x HB.out hx118_0
        replace hx118_1 := q_x HB.out hx118_1
        replace hx118_2 := q_x HB.out hx118_2
        replace hx118_3 := q_x HB.out hx118_3
        replace p118 := eq_true p118
        replace q118 := eq_true q118
        go_wp2_with (first | ((with_reducible refine gate_dst (N := 4) rfl ?_); refine q_box (N := 4) (cs := #[.string (⟨#[]⟩ : ByteArray), .int .i64 0, .string (⟨#[]⟩ : ByteArray), .bool false]) (t := 49) ?_; intro gb119 hg w28 hbox hb; have n0_ := Aside0.mk (below_step bq hb); have n1_ := Aside0.mk (hbox); have n2_ := Aside0.mk ((q_g hg bq : w.heap.size ≤ gb119)); have n3_ := Aside0.mk ((q_g hg bq : w.heap.size ≤ gb119)); revert n0_ n1_ n2_ n3_; clear HB; intro HB BK119 GW119 GE119; clear hb hbox hg; obtain ⟨hcz29_0, hcz29_1, hcz29_2, hcz29_3, hfz29_0, hfz29_1, hfz29_2, hfz29_3⟩ := q_4 BK119.out) | ((with_reducible refine gate_callee (f := 66) rfl ?_); refine goesLq (some 17) rfl rfl Try.func66 (by kernel_rfl) rfl #[.agg #[.string ((rd_T49 l0 x11_1).f0), .int .i64 ((rd_T49 l0 x11_1).f1), .string ((rd_T49 l0 x11_1).f2), .bool ((rd_T49 l0 x11_1).f3)]] rfl ?_; (with_reducible refine (impl_RowFault.calls k1 ((rd_T49 l0 x11_1).f0) ((rd_T49 l0 x11_1).f1) ((rd_T49 l0 x11_1).f2) ((rd_T49 l0 x11_1).f3) t120 _ A6.out).mono ?_); rintro e w30 ⟨rfl, hb⟩; refine ⟨_, rfl, ?_⟩; have n0_ := Aside0.mk (blk_below (g := gb119) (o := .cells #[.string ((rd_T49 l0 x11_1).f0), .int .i64 ((rd_T49 l0 x11_1).f1), .string ((rd_T49 l0 x11_1).f2), .bool ((rd_T49 l0 x11_1).f3)] 49 (0, 0)) (by (with_reducible repeat (first | refine blk_drewN ?_ _ | refine blk_drew ?_ | refine blk_alloc ?_ _)); refine blk_put (cs := #[.string ((rd_T49 l0 x11_1).f0), .int .i64 ((rd_T49 l0 x11_1).f1), .string ((rd_T49 l0 x11_1).f2), .bool false]) ?_ 3 _ rfl; (with_reducible repeat (first | refine blk_drewN ?_ _ | refine blk_drew ?_ | refine blk_alloc ?_ _)); refine blk_put (cs := #[.string ((rd_T49 l0 x11_1).f0), .int .i64 ((rd_T49 l0 x11_1).f1), .string (⟨#[]⟩ : ByteArray), .bool false]) ?_ 2 _ rfl; (with_reducible repeat (first | refine blk_drewN ?_ _ | refine blk_drew ?_ | refine blk_alloc ?_ _)); refine blk_put (cs := #[.string ((rd_T49 l0 x11_1).f0), .int .i64 0, .string (⟨#[]⟩ : ByteArray), .bool false]) ?_ 1 _ rfl; (with_reducible repeat (first | refine blk_drewN ?_ _ | refine blk_drew ?_ | refine blk_alloc ?_ _)); refine blk_put (cs := #[.string (⟨#[]⟩ : ByteArray), .int .i64 0, .string (⟨#[]⟩ : ByteArray), .bool false]) ?_ 0 _ rfl; (with_reducible repeat (first | refine blk_drewN ?_ _ | refine blk_drew ?_ | refine blk_alloc ?_ _)); exact BK119.out) hb); have n1_ := Aside0.mk (below_step bq hb); revert n0_ n1_; clear BK119 HB; intro BK119 HB; (try clear hb); (try clear hb2); (try clear hk); (try clear hi)))
        go_ret
        exact ⟨q_e, bq⟩
      ·rw [if_neg c5] at H
       exact absurd H (by simp)
     ·rw [if_neg c4] at H
      exact absurd H (by simp)
    ·rw [if_neg c3] at H
     have c3b0 := decide_eq_false c3
     clear c3
     obtain rfl := Option.some.inj H
     go_wp2
     go_ret
     exact ⟨q_e, bq⟩

/-! ### slices_IndexFunc_impl_Row: function 113 -/

theorem print_gateC {P : Program} {ops : Array Oper} {rest : List Oper} {o : Oper} {a : Act} {Q : Exit → Act → World → Prop} {W : World} {co : Operand} (f : FuncId) (caps : Array Value) {ars : Array Operand} {ts : Array TypeId} (_ho : o.op = .call { callee := .value co, args := ars, argTypes := ts }) (_hT : a.eval co = .func (.func f) #[] caps) (h : wpList P ops Q (o :: rest) a W) : wpList P ops Q (o :: rest) a W := h
theorem print_goesC {P : Program} {ops : Array Oper} {Q : Exit → Act → World → Prop} {rest : List Oper} {oi : Oper} {a : Act} {w : World} {co : Operand} (N : Option Tmp) (hd : oi.dst = N) (hg : oi.guard = none) {f : FuncId} {fn : Func} {ars : Array Operand} {ts : Array TypeId} (hf : P.funcs[f]? = some fn) (hname : (fn.name == "runtime.NumGoroutine") = false) (hb : fn.body.isSome = true) (caps args : Array Value)
    (hop : oi.op = .call { callee := .value co, args := ars, argTypes := ts }) (hT : a.eval co = .func (.func f) #[] caps) (hargs : ars.map a.eval = args)
    (h : Calls P f (args ++ caps) w fun e w' => ∃ v, e = .returned v ∧ wpList P ops Q rest (a.put N v) w') : wpList P ops Q (oi :: rest) a w := by
  refine wpList_plain hg fun K hK => ?_
  have he := enters_ hf hname hb (args ++ caps) w
  have hrun : (execOp a.eval oi).run P w = .ok (.enter f (args ++ caps)) w := by
    unfold execOp
    simp [hop, resolve, Deferred.ofValue, invoke, hT, hargs, he]
  unfold Oper.wp
  rw [hrun, Oper.upon_enter]
  refine h.mono fun e w'' hh => ?_
  obtain ⟨v, rfl, hk⟩ := hh
  subst hd
  exact hK _ _ hk
theorem print_goesCR {P : Program} {ops : Array Oper} {Q : Exit → Act → World → Prop} {oi : Oper} {N : Option Tmp} {a : Act} {w : World} {K : Act → World → Prop} {co : Operand} {f : FuncId} {fn : Func} {ars : Array Operand} {ts : Array TypeId} (hf : P.funcs[f]? = some fn) (hname : (fn.name == "runtime.NumGoroutine") = false) (hb : fn.body.isSome = true) (caps args : Array Value)
    (hw : Region.wanted oi (yielded ops a.tmps) = true) (hN : oi.dst = N) (hop : oi.op = .call { callee := .value co, args := ars, argTypes := ts }) (hT : a.eval co = .func (.func f) #[] caps) (hargs : ars.map a.eval = args)
    (h : Calls P f (args ++ caps) w fun e w' => ∃ v, e = .returned v ∧ K (a.put N v) w') : if Region.wanted oi (yielded ops a.tmps) = true then Oper.wp P oi a w K Q else K (a.put N undef) w := by
  refine call_ f (args ++ caps) hw hN ?_ h
  have he := enters_ hf hname hb (args ++ caps) w
  unfold execOp
  simp [hop, resolve, Deferred.ofValue, invoke, hT, hargs, he]
class FN_slices_IndexFunc_impl_Row where
  f : ByteArray → Int → ByteArray → Bool → Option Bool
section
variable [FN_slices_IndexFunc_impl_Row]
def slices_IndexFunc_impl_Row.l0 : Nat → List (S49) → Int → Int → Option (Int)
  | 0, _, _, _ => none
  | k + 1, x0, x7, x8 => if x8 < x7 then (if 0 ≤ x8 then (if x8 < (x0.length : Int) then ((FN_slices_IndexFunc_impl_Row.f ((rd_T49 x0 x8).f0) ((rd_T49 x0 x8).f1) ((rd_T49 x0 x8).f2) ((rd_T49 x0 x8).f3)).bind fun t124 => (if t124 = true then (some x8) else (slices_IndexFunc_impl_Row.l0 k x0 x7 (wrap64 (x8 + 1))))) else (none)) else (none)) else (some (-1))
def slices_IndexFunc_impl_Row.f (k : Nat) (l0 : List (S49)) : Option (Int) := slices_IndexFunc_impl_Row.l0 k l0 (l0.length : Int) 0
set_option maxHeartbeats 8000000 in
set_option maxRecDepth 100000 in
theorem slices_IndexFunc_impl_Row.calls (k : Nat) (A0 : Option Addr) (c0 : Nat) (l0 : List (S49)) (r : Int) (w : World) (hr0 : Kd.C k49 w A0 l0.length l0) (hc0 : l0.length ≤ c0) (h : slices_IndexFunc_impl_Row.f k l0 = some r) (F : FuncId) (fn : Func) (caps : Array Value) (hF : Try.prog.funcs[F]? = some fn) (hFn : (fn.name == "runtime.NumGoroutine") = false) (hFb : fn.body.isSome = true) (hFc : ∀ (x0_ : ByteArray) (x1_ : Int) (x2_ : ByteArray) (x3_ : Bool) (r : Bool) (W : World), FN_slices_IndexFunc_impl_Row.f x0_ x1_ x2_ x3_ = some r → Below w.heap.size w W → Calls Try.prog F (#[.agg #[.string x0_, .int .i64 x1_, .string x2_, .bool x3_]] ++ caps) W fun e w' => e = .returned (.bool r) ∧ Below W.heap.size W w') :
  Calls Try.prog 113 #[.slice A0 l0.length c0, .func (.func F) #[] caps] w fun e w' => e = .returned (.int .i64 r) ∧ Below w.heap.size w w' := by
 have hu49 := Try.underlying49
 have HR0 := Aside0.mk hr0
 have HC0 := Aside0.mk hc0
 clear hr0 hc0
 have HB := Aside0.mk (Below.refl w.heap.size w)
 have H : (slices_IndexFunc_impl_Row.l0 k l0 (l0.length : Int) 0) = some r := h
 clear h
 have H' := Aside0.mk H
 clear H
 go_enter Try.func113, Try.ntmps113
 go_wp2
 go_loopg [8] k (fun kq v8 w' => ∃ (x8_1 : Int), v8 = .int .i64 x8_1 ∧ Aside0 (slices_IndexFunc_impl_Row.l0 kq l0 (l0.length : Int) x8_1 = some r) ∧ Aside0 (kq ≤ k) ∧ Aside0 (Below w.heap.size w w'))
 case atStart => exact ⟨(0), q_i, H', ⟨Nat.le_refl _⟩, ⟨bq⟩⟩
 case round =>
  clear H'
  (try clear c1)
  obtain ⟨x8_1, rfl, HA, HK1, HB⟩ := hrel
  cases gk with
  | zero => exact absurd HA.out (by simp [slices_IndexFunc_impl_Row.l0])
  | succ k1 =>
   have H := HA.out
   clear HA
   simp only [slices_IndexFunc_impl_Row.l0] at H
   by_cases c2 : x8_1 < (l0.length : Int)
   ·rw [if_pos c2] at H
    have c2b0 := decide_eq_true c2
    clear c2
    by_cases c3 : 0 ≤ x8_1
    ·rw [if_pos c3] at H
     have c3b0 := decide_eq_true c3
     clear c3
     by_cases c4 : x8_1 < (l0.length : Int)
     ·rw [if_pos c4] at H
      have c4b0 := decide_eq_true c4
      clear c4
      replace H := Option.bind_eq_some_iff.mp H
      obtain ⟨t124, A50, H⟩ := H
      replace H : (if t124 = true then (some x8_1) else (slices_IndexFunc_impl_Row.l0 k1 l0 (l0.length : Int) (wrap64 (x8_1 + 1)))) = some r := H
      have A5 := Aside0.mk A50
      clear A50
      by_cases c6 : t124 = true
      ·subst c6
       have H1 : (some x8_1) = some r := by rw [if_pos rfl] at H; exact H
       clear H
       have H := H1
       clear H1
       obtain rfl := Option.some.inj H
       have p123 : 0 ≤ (x8_1 : Int) := q_d
       have q123 : x8_1 < (l0.length : Int) := q_d
       obtain ⟨ad123, e123, hx123_0, hx123_1, hx123_2, hx123_3⟩ := at_T49 HR0.out x8_1 p123 q123
       cases e123
       replace hx123_0 := q_x HB.out hx123_0
       replace hx123_1 := q_x HB.out hx123_1
       replace hx123_2 := q_x HB.out hx123_2
       replace hx123_3 := q_x HB.out hx123_3
       replace p123 := eq_true p123
       replace q123 := eq_true q123
       go_wp2_with (first | ((with_reducible refine print_gateC F caps rfl rfl ?_); refine print_goesC (some 16) rfl rfl hF hFn hFb caps #[.agg #[.string ((rd_T49 l0 x8_1).f0), .int .i64 ((rd_T49 l0 x8_1).f1), .string ((rd_T49 l0 x8_1).f2), .bool ((rd_T49 l0 x8_1).f3)]] rfl rfl (by (try simp only [List.map_toArray, List.map_cons, List.map_nil]); first | done | rfl | (simp only [List.length_drop, List.length_take]; rfl)) ?_; (refine (hFc ((rd_T49 l0 x8_1).f0) ((rd_T49 l0 x8_1).f1) ((rd_T49 l0 x8_1).f2) ((rd_T49 l0 x8_1).f3) true _ A5.out bq).mono ?_); rintro e w7 ⟨rfl, hb⟩; refine ⟨_, rfl, ?_⟩; have n0_ := Aside0.mk (below_step bq hb); revert n0_; clear HB; intro HB; (try clear hb); (try clear hb2); (try clear hk); (try clear hi)))
       go_ret
       exact ⟨q_e, bq⟩
      ·replace c6 := Bool.eq_false_iff.mpr c6
       subst c6
       have H1 : (slices_IndexFunc_impl_Row.l0 k1 l0 (l0.length : Int) (wrap64 (x8_1 + 1))) = some r := by rw [if_neg (show ¬ (false = true) by decide)] at H; exact H
       clear H
       have H := H1
       clear H1
       have H' := Aside0.mk H
       clear H
       have p123 : 0 ≤ (x8_1 : Int) := q_d
       have q123 : x8_1 < (l0.length : Int) := q_d
       obtain ⟨ad123, e123, hx123_0, hx123_1, hx123_2, hx123_3⟩ := at_T49 HR0.out x8_1 p123 q123
       cases e123
       replace hx123_0 := q_x HB.out hx123_0
       replace hx123_1 := q_x HB.out hx123_1
       replace hx123_2 := q_x HB.out hx123_2
       replace hx123_3 := q_x HB.out hx123_3
       replace p123 := eq_true p123
       replace q123 := eq_true q123
       go_wp2_with (first | ((with_reducible refine print_gateC F caps rfl rfl ?_); refine print_goesC (some 16) rfl rfl hF hFn hFb caps #[.agg #[.string ((rd_T49 l0 x8_1).f0), .int .i64 ((rd_T49 l0 x8_1).f1), .string ((rd_T49 l0 x8_1).f2), .bool ((rd_T49 l0 x8_1).f3)]] rfl rfl (by (try simp only [List.map_toArray, List.map_cons, List.map_nil]); first | done | rfl | (simp only [List.length_drop, List.length_take]; rfl)) ?_; (refine (hFc ((rd_T49 l0 x8_1).f0) ((rd_T49 l0 x8_1).f1) ((rd_T49 l0 x8_1).f2) ((rd_T49 l0 x8_1).f3) false _ A5.out bq).mono ?_); rintro e w8 ⟨rfl, hb⟩; refine ⟨_, rfl, ?_⟩; have n0_ := Aside0.mk (below_step bq hb); revert n0_; clear HB; intro HB; (try clear hb); (try clear hb2); (try clear hk); (try clear hi)))
       go_roundg k1
       case measure => have := HK1.out; omega
       case rel => exact ⟨(wrap64 (x8_1 + 1)), q_i, H', ⟨by have := HK1.out; omega⟩, ⟨bq⟩⟩
     ·rw [if_neg c4] at H
      exact absurd H (by simp)
    ·rw [if_neg c3] at H
     exact absurd H (by simp)
   ·rw [if_neg c2] at H
    have c2b0 := decide_eq_false c2
    clear c2
    obtain rfl := Option.some.inj H
    go_wp2
    go_ret
    exact ⟨q_e, bq⟩
end

/-! ### impl_rowOf: function 80 -/
@[reducible] def CL_114.p (y0_ : ByteArray) (y1_ : Int) : FN_slices_IndexFunc_impl_Row := ⟨fun x0_ x1_ x2_ x3_ => some ((x0_.toList == y0_.toList) && decide (x1_ ≤ y1_))⟩
def CL_114.f (k : Nat) (l0 : List (S49)) (y0_ : ByteArray) (y1_ : Int) : Option Int := @slices_IndexFunc_impl_Row.f (CL_114.p y0_ y1_) k l0
set_option maxHeartbeats 8000000 in
set_option maxRecDepth 100000 in
theorem CL_114.closure (x0_ : ByteArray) (x1_ : Int) (x2_ : ByteArray) (x3_ : Bool) (y0_ : ByteArray) (y1_ : Int) (g0 : Nat) (g1 : Nat) (W : World) (hg0 : W.heap[g0]? = some (.cells #[.string y0_] 9 (0, 0))) (hg1 : W.heap[g1]? = some (.cells #[.int .i64 y1_] 2 (0, 0))) :
  Calls Try.prog 114 #[.agg #[.string x0_, .int .i64 x1_, .string x2_, .bool x3_], .pointer (some ⟨g0, 0, none⟩), .pointer (some ⟨g1, 0, none⟩)] W fun e w' => e = .returned (.bool ((x0_.toList == y0_.toList) && decide (x1_ ≤ y1_))) ∧ Below W.heap.size W w' := by
 have hu49 := Try.underlying49
 have HB := Aside0.mk (Below.refl W.heap.size W)
 have BK := Aside0.mk hg0
 have BL := Aside0.mk hg1
 clear hg0 hg1
 have hans : (x0_.toList == y0_.toList && decide (x1_ ≤ y1_)) = (if (x0_.toList == y0_.toList) = true then decide (x1_ ≤ y1_) else false) := by cases (x0_.toList == y0_.toList) <;> rfl
 by_cases hc : (x0_.toList == y0_.toList) = true
 all_goals
  go_enter Try.func114, Try.ntmps114
  go_wp2_with (first | ((with_reducible refine gate_dst (N := 3) rfl ?_); refine q_box (N := 3) (cs := #[.string x0_, .int .i64 x1_, .string x2_, .bool x3_]) (t := 49) ?_; intro gb_ hg_ w3 hbox hb; have n0_ := Aside0.mk (blk_below (g := g0) (o := .cells #[.string y0_] 9 (0, 0)) (q_b BK.out) hb); have n3_ := Aside0.mk (blk_below (g := g1) (o := .cells #[.int .i64 y1_] 2 (0, 0)) (q_b BL.out) hb); have n1_ := Aside0.mk (below_step bq hb); have n2_ := Aside0.mk hbox; clear BK BL; clear HB; have BK := n0_; have BL := n3_; have HB := n1_; have BN := n2_; clear n0_ n1_ n2_ n3_; clear hb hbox hg_; have hcz0 : w3.cell? ⟨gb_, 0, none⟩ = some (.string x0_) := (blk_cell BN.out 0).trans rfl; have hcz2 : w3.cell? ⟨gb_, 1, none⟩ = some (.int .i64 x1_) := (blk_cell BN.out 1).trans rfl; have hcz1 : w3.cell? ⟨g0, 0, none⟩ = some (.string y0_) := (blk_cell BK.out 0).trans rfl; have hcz3 : w3.cell? ⟨g1, 0, none⟩ = some (.int .i64 y1_) := (blk_cell BL.out 0).trans rfl; have hfz0 := blk_frozen BN.out 0; have hfz2 := blk_frozen BN.out 1; have hfz1 := blk_frozen BK.out 0; have hfz3 := blk_frozen BL.out 0))
  go_ret
  exact ⟨by first | rfl | (simp [hc]; done), bq⟩

theorem CL_114.calls (k : Nat) (A0 : Option Addr) (c0 : Nat) (l0 : List (S49)) (y0_ : ByteArray) (y1_ : Int) (r : Int) (w : World) (hr0 : Kd.C k49 w A0 l0.length l0) (hc0 : l0.length ≤ c0) (h : CL_114.f k l0 y0_ y1_ = some r) (g0 : Nat) (g1 : Nat) (hg0 : w.heap[g0]? = some (.cells #[.string y0_] 9 (0, 0))) (hg1 : w.heap[g1]? = some (.cells #[.int .i64 y1_] 2 (0, 0))) :
  Calls Try.prog 113 #[.slice A0 l0.length c0, .func (.func 114) #[] #[.pointer (some ⟨g0, 0, none⟩), .pointer (some ⟨g1, 0, none⟩)]] w fun e w' => e = .returned (.int .i64 r) ∧ Below w.heap.size w w' :=
 @slices_IndexFunc_impl_Row.calls (CL_114.p y0_ y1_) k A0 c0 l0 r w hr0 hc0 h 114 Try.f114 #[.pointer (some ⟨g0, 0, none⟩), .pointer (some ⟨g1, 0, none⟩)] Try.func114 (by kernel_rfl) rfl (fun x0_ x1_ x2_ x3_ r W hf hb => by
  have hf2 := Option.some.inj hf
  subst hf2
  exact CL_114.closure x0_ x1_ x2_ x3_ y0_ y1_ g0 g1 W (blk_below hg0 hb) (blk_below hg1 hb))
def impl_rowOf.f (k : Nat) (l0 : List (S49)) (a1 : ByteArray) (a2 : Int) : Option (ByteArray × Int × ByteArray × Bool × Bool) := (CL_114.f k l0 a1 a2).bind fun t126 => (if t126 < 0 then (some ((⟨#[]⟩ : ByteArray), 0, (⟨#[]⟩ : ByteArray), false, false)) else (if 0 ≤ t126 then (if t126 < (l0.length : Int) then (some ((rd_T49 l0 t126).f0, (rd_T49 l0 t126).f1, (rd_T49 l0 t126).f2, (rd_T49 l0 t126).f3, true)) else (none)) else (none)))
set_option maxHeartbeats 8000000 in
set_option maxRecDepth 100000 in
theorem impl_rowOf.calls (k : Nat) (A0 : Option Addr) (c0 : Nat) (l0 : List (S49)) (a1 : ByteArray) (a2 : Int) (r1 : ByteArray) (r2 : Int) (r3 : ByteArray) (r4 : Bool) (r5 : Bool) (w : World) (hr0 : Kd.C k49 w A0 l0.length l0) (hc0 : l0.length ≤ c0) (h : impl_rowOf.f k l0 a1 a2 = some (r1, r2, r3, r4, r5)) :
  Calls Try.prog 80 #[.slice A0 l0.length c0, .string a1, .int .i64 a2] w fun e w' => e = .returned (.tuple #[.agg #[.string r1, .int .i64 r2, .string r3, .bool r4], .bool r5]) ∧ Below w.heap.size w w' := by
 have hu49 := Try.underlying49
 have HR0 := Aside0.mk hr0
 have HC0 := Aside0.mk hc0
 clear hr0 hc0
 have HB := Aside0.mk (Below.refl w.heap.size w)
 have H : ((CL_114.f k l0 a1 a2).bind fun t126 => (if t126 < 0 then (some ((⟨#[]⟩ : ByteArray), 0, (⟨#[]⟩ : ByteArray), false, false)) else (if 0 ≤ t126 then (if t126 < (l0.length : Int) then (some ((rd_T49 l0 t126).f0, (rd_T49 l0 t126).f1, (rd_T49 l0 t126).f2, (rd_T49 l0 t126).f3, true)) else (none)) else (none)))) = some (r1, r2, r3, r4, r5) := h
 clear h
 replace H := Option.bind_eq_some_iff.mp H
 obtain ⟨t126, A40, H⟩ := H
 replace H : (if t126 < 0 then (some ((⟨#[]⟩ : ByteArray), 0, (⟨#[]⟩ : ByteArray), false, false)) else (if 0 ≤ t126 then (if t126 < (l0.length : Int) then (some ((rd_T49 l0 t126).f0, (rd_T49 l0 t126).f1, (rd_T49 l0 t126).f2, (rd_T49 l0 t126).f3, true)) else (none)) else (none))) = some (r1, r2, r3, r4, r5) := H
 have A4 := Aside0.mk A40
 clear A40
 by_cases c5 : t126 < 0
 ·rw [if_pos c5] at H
  have c5b0 := decide_eq_true c5
  clear c5
  simp only [Option.some.injEq, Prod.mk.injEq] at H
  obtain ⟨rfl, rfl, rfl, rfl, rfl⟩ := H
  go_enter Try.func80, Try.ntmps80
  go_wp2_with (first | ((with_reducible refine gate_dst (N := 4) rfl ?_); refine q_box (N := 4) (cs := #[.string a1]) (t := 9) ?_; intro gb9004 hg w9004 hbox hb; have n0_ := Aside0.mk (below_step bq hb); have n1_ := Aside0.mk hbox; revert n0_ n1_; clear HB; intro HB BK9004; clear hb hbox hg) | ((with_reducible refine gate_dst (N := 5) rfl ?_); refine q_box (N := 5) (cs := #[.int .i64 a2]) (t := 2) ?_; intro gb9005 hg w9005 hbox hb; have BK9004 := Aside0.mk (blk_below (q_b BK9004.out) hb); have n0_ := Aside0.mk (below_step bq hb); have n1_ := Aside0.mk hbox; revert n0_ n1_; clear HB; intro HB BK9005; clear hb hbox hg) | ((with_reducible refine gate_dst (N := 6) rfl ?_); refine q_box (N := 6) (cs := #[.string (⟨#[]⟩ : ByteArray), .int .i64 0, .string (⟨#[]⟩ : ByteArray), .bool false]) (t := 49) ?_; intro gb125 hg w6 hbox hb; have BK9004 := Aside0.mk (blk_below (q_b BK9004.out) hb); have BK9005 := Aside0.mk (blk_below (q_b BK9005.out) hb); have n0_ := Aside0.mk (below_step bq hb); have n1_ := Aside0.mk (hbox); have n2_ := Aside0.mk ((q_g hg bq : w.heap.size ≤ gb125)); have n3_ := Aside0.mk ((q_g hg bq : w.heap.size ≤ gb125)); revert n0_ n1_ n2_ n3_; clear HB; intro HB BK125 GW125 GE125; clear hb hbox hg) | ((with_reducible refine gate_callee (f := 113) rfl ?_); refine goesLq (some 11) rfl rfl Try.func113 (by kernel_rfl) rfl #[.slice A0 l0.length c0, .func (.func 114) #[] #[.pointer (some ⟨gb9004, 0, none⟩), .pointer (some ⟨gb9005, 0, none⟩)]] rfl ?_; (with_reducible refine (CL_114.calls k _ _ l0 a1 a2 t126 _ ?side1 ?side2 A4.out gb9004 gb9005 kq kq).mono ?_); (case side1 => exact q_c ((Kd.C_below HR0.out HB.out))); (case side2 => exact HC0.out); rintro e w7 ⟨rfl, hb⟩; refine ⟨_, rfl, ?_⟩; have n0_ := Aside0.mk (blk_below (q_b BK125.out) hb); have n1_ := Aside0.mk (below_step bq hb); revert n0_ n1_; clear BK125 HB; intro BK125 HB; (try clear hb); (try clear hb2); (try clear hk); (try clear hi); obtain ⟨hcz8_0, hcz8_1, hcz8_2, hcz8_3, hfz8_0, hfz8_1, hfz8_2, hfz8_3⟩ := q_4 BK125.out))
  refine bodyPost_ret (results_ct rfl _ _ gb125 49 #[.string (⟨#[]⟩ : ByteArray), .int .i64 0, .string (⟨#[]⟩ : ByteArray), .bool false] (0, 0) _ rfl (by (with_reducible repeat (first | refine blk_drewN ?_ _ | refine blk_drew ?_ | refine blk_alloc ?_ _)); refine blk_put (cs := #[.string (⟨#[]⟩ : ByteArray), .int .i64 0, .string (⟨#[]⟩ : ByteArray), .bool false]) ?_ 3 _ rfl; (with_reducible repeat (first | refine blk_drewN ?_ _ | refine blk_drew ?_ | refine blk_alloc ?_ _)); refine blk_put (cs := #[.string (⟨#[]⟩ : ByteArray), .int .i64 0, .string (⟨#[]⟩ : ByteArray), .bool false]) ?_ 2 _ rfl; (with_reducible repeat (first | refine blk_drewN ?_ _ | refine blk_drew ?_ | refine blk_alloc ?_ _)); refine blk_put (cs := #[.string (⟨#[]⟩ : ByteArray), .int .i64 0, .string (⟨#[]⟩ : ByteArray), .bool false]) ?_ 1 _ rfl; (with_reducible repeat (first | refine blk_drewN ?_ _ | refine blk_drew ?_ | refine blk_alloc ?_ _)); refine blk_put (cs := #[.string (⟨#[]⟩ : ByteArray), .int .i64 0, .string (⟨#[]⟩ : ByteArray), .bool false]) ?_ 0 _ rfl; (with_reducible repeat (first | refine blk_drewN ?_ _ | refine blk_drew ?_ | refine blk_alloc ?_ _)); exact BK125.out) Try.underlying49 rfl (by kernel_rfl)) rfl ?_
  exact ⟨q_e, bq⟩
 ·rw [if_neg c5] at H
  have c5b0 := decide_eq_false c5
  clear c5
  by_cases c9 : 0 ≤ t126
  ·rw [if_pos c9] at H
   have c9b0 := decide_eq_true c9
   clear c9
   by_cases c10 : t126 < (l0.length : Int)
   ·rw [if_pos c10] at H
    have c10b0 := decide_eq_true c10
    clear c10
    simp only [Option.some.injEq, Prod.mk.injEq] at H
    obtain ⟨rfl, rfl, rfl, rfl, rfl⟩ := H
    go_enter Try.func80, Try.ntmps80
    go_wp2_with (first | ((with_reducible refine gate_dst (N := 4) rfl ?_); refine q_box (N := 4) (cs := #[.string a1]) (t := 9) ?_; intro gb9004 hg w9004 hbox hb; have n0_ := Aside0.mk (below_step bq hb); have n1_ := Aside0.mk hbox; revert n0_ n1_; clear HB; intro HB BK9004; clear hb hbox hg) | ((with_reducible refine gate_dst (N := 5) rfl ?_); refine q_box (N := 5) (cs := #[.int .i64 a2]) (t := 2) ?_; intro gb9005 hg w9005 hbox hb; have BK9004 := Aside0.mk (blk_below (q_b BK9004.out) hb); have n0_ := Aside0.mk (below_step bq hb); have n1_ := Aside0.mk hbox; revert n0_ n1_; clear HB; intro HB BK9005; clear hb hbox hg) | ((with_reducible refine gate_dst (N := 6) rfl ?_); refine q_box (N := 6) (cs := #[.string (⟨#[]⟩ : ByteArray), .int .i64 0, .string (⟨#[]⟩ : ByteArray), .bool false]) (t := 49) ?_; intro gb125 hg w11 hbox hb; have BK9004 := Aside0.mk (blk_below (q_b BK9004.out) hb); have BK9005 := Aside0.mk (blk_below (q_b BK9005.out) hb); have n0_ := Aside0.mk (below_step bq hb); have n1_ := Aside0.mk (hbox); have n2_ := Aside0.mk ((q_g hg bq : w.heap.size ≤ gb125)); have n3_ := Aside0.mk ((q_g hg bq : w.heap.size ≤ gb125)); revert n0_ n1_ n2_ n3_; clear HB; intro HB BK125 GW125 GE125; clear hb hbox hg) | ((with_reducible refine gate_callee (f := 113) rfl ?_); refine goesLq (some 11) rfl rfl Try.func113 (by kernel_rfl) rfl #[.slice A0 l0.length c0, .func (.func 114) #[] #[.pointer (some ⟨gb9004, 0, none⟩), .pointer (some ⟨gb9005, 0, none⟩)]] rfl ?_; (with_reducible refine (CL_114.calls k _ _ l0 a1 a2 t126 _ ?side1 ?side2 A4.out gb9004 gb9005 kq kq).mono ?_); (case side1 => exact q_c ((Kd.C_below HR0.out HB.out))); (case side2 => exact HC0.out); rintro e w12 ⟨rfl, hb⟩; refine ⟨_, rfl, ?_⟩; have n0_ := Aside0.mk (blk_below (q_b BK125.out) hb); have n1_ := Aside0.mk (below_step bq hb); revert n0_ n1_; clear BK125 HB; intro BK125 HB; (try clear hb); (try clear hb2); (try clear hk); (try clear hi); have p127 : 0 ≤ (t126 : Int) := q_d; have q127 : t126 < (l0.length : Int) := q_d; obtain ⟨ad127, e127, hx127_0, hx127_1, hx127_2, hx127_3⟩ := at_T49 HR0.out t126 p127 q127; cases e127; replace hx127_0 := q_x HB.out hx127_0; replace hx127_1 := q_x HB.out hx127_1; replace hx127_2 := q_x HB.out hx127_2; replace hx127_3 := q_x HB.out hx127_3; replace p127 := eq_true p127; replace q127 := eq_true q127; obtain ⟨hcz13_0, hcz13_1, hcz13_2, hcz13_3, hfz13_0, hfz13_1, hfz13_2, hfz13_3⟩ := q_4 BK125.out))
    refine bodyPost_ret (results_ct rfl _ _ gb125 49 #[.string ((rd_T49 l0 t126).f0), .int .i64 ((rd_T49 l0 t126).f1), .string ((rd_T49 l0 t126).f2), .bool ((rd_T49 l0 t126).f3)] (0, 0) _ rfl (by (with_reducible repeat (first | refine blk_drewN ?_ _ | refine blk_drew ?_ | refine blk_alloc ?_ _)); refine blk_put (cs := #[.string ((rd_T49 l0 t126).f0), .int .i64 ((rd_T49 l0 t126).f1), .string ((rd_T49 l0 t126).f2), .bool false]) ?_ 3 _ rfl; (with_reducible repeat (first | refine blk_drewN ?_ _ | refine blk_drew ?_ | refine blk_alloc ?_ _)); refine blk_put (cs := #[.string ((rd_T49 l0 t126).f0), .int .i64 ((rd_T49 l0 t126).f1), .string (⟨#[]⟩ : ByteArray), .bool false]) ?_ 2 _ rfl; (with_reducible repeat (first | refine blk_drewN ?_ _ | refine blk_drew ?_ | refine blk_alloc ?_ _)); refine blk_put (cs := #[.string ((rd_T49 l0 t126).f0), .int .i64 0, .string (⟨#[]⟩ : ByteArray), .bool false]) ?_ 1 _ rfl; (with_reducible repeat (first | refine blk_drewN ?_ _ | refine blk_drew ?_ | refine blk_alloc ?_ _)); refine blk_put (cs := #[.string (⟨#[]⟩ : ByteArray), .int .i64 0, .string (⟨#[]⟩ : ByteArray), .bool false]) ?_ 0 _ rfl; (with_reducible repeat (first | refine blk_drewN ?_ _ | refine blk_drew ?_ | refine blk_alloc ?_ _)); exact BK125.out) Try.underlying49 rfl (by kernel_rfl)) rfl ?_
    exact ⟨q_e, bq⟩
   ·rw [if_neg c10] at H
    exact absurd H (by simp)
  ·rw [if_neg c9] at H
   exact absurd H (by simp)

end Go.Proofs.Ytdhlcnlcpjlliaa.PFnScans
