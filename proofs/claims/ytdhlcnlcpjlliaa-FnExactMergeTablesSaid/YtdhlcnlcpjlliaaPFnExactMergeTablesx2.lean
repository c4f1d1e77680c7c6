/- Functions that a law reaches, as plain Lean functions, with the proof that the machine comes to their answers. No conditions. -/
import Derived.Test.YtdhlcnlcpjlliaaPFnExactMergeTablesx0
import Derived.Test.YtdhlcnlcpjlliaaPFnExactMergeTablesx1
namespace Go.Proofs.Ytdhlcnlcpjlliaa.PFnExactMergeTables
open Go.RowKit Go.Proofs.YtdhlcnlcpjlliaaW.PrintWords Go.Proofs.YtdhlcnlcpjlliaaW.PrintLast Go.Proofs.YtdhlcnlcpjlliaaW.PrintMore
attribute [local go_sem] max2_int min2_int max_two min_two max_three min_three max_four min_four   -- for this text's walks alone
set_option linter.unusedVariables false
set_option linter.unusedSimpArgs false
set_option maxHeartbeats 8000000
set_option maxRecDepth 100000

/-! ### laws_heldRowS: function 88 -/
def laws_heldRowS.l0 : Nat → List (S49) → Int → Int → Option (Int)
  | 0, _, _, _ => none
  | k + 1, x0, x1, x5 => if x5 < (x0.length : Int) then (if 0 ≤ x5 then ((laws_markText.f k x1).bind fun t122 => (if ((rd_T49 x0 x5).f0).toList = t122.toList then (if ((rd_T49 x0 x5).f1) = (wrap64 (x1 + 1)) then ((laws_markText.f k (wrap64 ((wrap64 (x1 + 1)) + 1))).bind fun t125 => (if ((rd_T49 x0 x5).f2).toList = t125.toList then (if (((rd_T49 x0 x5).f3) != ((Int.tmod (wrap64 ((wrap64 ((wrap64 (x1 + 1)) + 1)) + 1)) 3) == 0)) = true then (some (-1)) else (laws_heldRowS.l0 k x0 (wrap64 ((wrap64 ((wrap64 ((wrap64 (x1 + 1)) + 1)) + 1)) + 1)) (wrap64 (x5 + 1)))) else (some (-1)))) else (some (-1))) else (some (-1)))) else (none)) else (some x1)
def laws_heldRowS.f (k : Nat) (l0 : List (S49)) (a1 : Int) : Option (Int) := laws_heldRowS.l0 k l0 a1 0
def laws_heldRowS.T4 : Bool × List (List Nat × List Nat) := (true, [([], []), ([], []), ([0, 1], [0, 1]), ([2], [2]), ([3], [3]), ([], []), ([5], [5]), ([4, 6], [4, 6])])
def laws_heldRowS.B4 : List Nat := [0, 0, 3, 7, 15, 0, 32, 127]
theorem laws_heldRowS.tab4 : rtab .any (opsOf Try.f88 4) = laws_heldRowS.T4 := by kernel_rfl
theorem laws_heldRowS.bits4 : waitsOk laws_heldRowS.T4.2 laws_heldRowS.B4 = true := by kernel_rfl
def laws_heldRowS.T10 : Bool × List (List Nat × List Nat) := (true, [([], []), ([], []), ([0, 1], [0, 1]), ([2], [2]), ([3], [3]), ([], []), ([5], [5]), ([4, 6], [4, 6])])
def laws_heldRowS.B10 : List Nat := [0, 0, 3, 7, 15, 0, 32, 127]
theorem laws_heldRowS.tab10 : rtab .any (opsOf Try.f88 10) = laws_heldRowS.T10 := by kernel_rfl
theorem laws_heldRowS.bits10 : waitsOk laws_heldRowS.T10.2 laws_heldRowS.B10 = true := by kernel_rfl
theorem laws_heldRowS.calls (k : Nat) (A0 : Option Addr) (c0 : Nat) (l0 : List (S49)) (a1 : Int) (r : Int) (w : World) (hr0 : Kd.C k49 w A0 l0.length l0) (hc0 : l0.length ≤ c0) (h : laws_heldRowS.f k l0 a1 = some r) :
  Calls Try.prog 88 #[.slice A0 l0.length c0, .int .i64 a1] w fun e w' => e = .returned (.int .i64 r) ∧ Below w.heap.size w w' := by
 have HR0 := am hr0
 have HC0 := am hc0
 clear hr0 hc0
 have HB := am (Below.refl w.heap.size w)
 have H : (laws_heldRowS.l0 k l0 a1 0) = some r := h
 clear h
 have H' := am H
 clear H
 go_enter Try.func88, Try.ntmps88
 go_wp2
 go_loopg [1, 5] k (fun kq v1 v5 w' => ∃ (x1_1 : Int) (x5_1 : Int), v1 = .int .i64 x1_1 ∧ v5 = .int .i64 x5_1 ∧ Aside0 (laws_heldRowS.l0 kq l0 x1_1 x5_1 = some r) ∧ Aside0 (kq ≤ k) ∧ Aside0 (Below w.heap.size w w'))
 case atStart => exact ⟨(a1), (0), q_i, q_i, H', ⟨Nat.le_refl _⟩, ⟨bq⟩⟩
 case round =>
  clear H'
  (try clear p2)
  obtain ⟨x1_1, x5_1, rfl, rfl, HA, HK1, HB⟩ := hrel
  cases gk with
  | zero => exact absurd HA.out (by simp [laws_heldRowS.l0])
  | succ k1 =>
   have H := HA.out
   clear HA
   simp only [laws_heldRowS.l0] at H
   by_cases c3 : x5_1 < (l0.length : Int)
   ·rw [if_pos c3] at H
    have c3b0 := decide_eq_true c3
    clear c3
    by_cases c4 : 0 ≤ x5_1
    ·rw [if_pos c4] at H
     have c4b0 := decide_eq_true c4
     clear c4
     replace H := ob H
     obtain ⟨t122, A50, H⟩ := H
     replace H : (if ((rd_T49 l0 x5_1).f0).toList = t122.toList then (if ((rd_T49 l0 x5_1).f1) = (wrap64 (x1_1 + 1)) then ((laws_markText.f k1 (wrap64 ((wrap64 (x1_1 + 1)) + 1))).bind fun t125 => (if ((rd_T49 l0 x5_1).f2).toList = t125.toList then (if (((rd_T49 l0 x5_1).f3) != ((Int.tmod (wrap64 ((wrap64 ((wrap64 (x1_1 + 1)) + 1)) + 1)) 3) == 0)) = true then (some (-1)) else (laws_heldRowS.l0 k1 l0 (wrap64 ((wrap64 ((wrap64 ((wrap64 (x1_1 + 1)) + 1)) + 1)) + 1)) (wrap64 (x5_1 + 1)))) else (some (-1)))) else (some (-1))) else (some (-1))) = some r := H
     have A5 := am A50
     clear A50
     by_cases c6 : ((rd_T49 l0 x5_1).f0).toList = t122.toList
     ·rw [if_pos c6] at H
      have c6b0 : (((rd_T49 l0 x5_1).f0).toList == t122.toList) = true := beq_iff_eq.mpr c6
      have c6b1 : (((rd_T49 l0 x5_1).f0).toList != t122.toList) = false := bne_eq_false_iff_eq.mpr c6
      clear c6
      by_cases c7 : ((rd_T49 l0 x5_1).f1) = (wrap64 (x1_1 + 1))
      ·rw [if_pos c7] at H
       have c7b0 : (((rd_T49 l0 x5_1).f1) == (wrap64 (x1_1 + 1))) = true := beq_iff_eq.mpr c7
       have c7b1 : (((rd_T49 l0 x5_1).f1) != (wrap64 (x1_1 + 1))) = false := bne_eq_false_iff_eq.mpr c7
       clear c7
       replace H := ob H
       obtain ⟨t125, A80, H⟩ := H
       replace H : (if ((rd_T49 l0 x5_1).f2).toList = t125.toList then (if (((rd_T49 l0 x5_1).f3) != ((Int.tmod (wrap64 ((wrap64 ((wrap64 (x1_1 + 1)) + 1)) + 1)) 3) == 0)) = true then (some (-1)) else (laws_heldRowS.l0 k1 l0 (wrap64 ((wrap64 ((wrap64 ((wrap64 (x1_1 + 1)) + 1)) + 1)) + 1)) (wrap64 (x5_1 + 1)))) else (some (-1))) = some r := H
       have A8 := am A80
       clear A80
       by_cases c9 : ((rd_T49 l0 x5_1).f2).toList = t125.toList
       ·rw [if_pos c9] at H
        have c9b0 : (((rd_T49 l0 x5_1).f2).toList == t125.toList) = true := beq_iff_eq.mpr c9
        have c9b1 : (((rd_T49 l0 x5_1).f2).toList != t125.toList) = false := bne_eq_false_iff_eq.mpr c9
        clear c9
        by_cases c10 : (((rd_T49 l0 x5_1).f3) != ((Int.tmod (wrap64 ((wrap64 ((wrap64 (x1_1 + 1)) + 1)) + 1)) 3) == 0)) = true
        ·rw [if_pos c10] at H
         have c10b0 : (((rd_T49 l0 x5_1).f3) != ((Int.tmod (wrap64 ((wrap64 ((wrap64 (x1_1 + 1)) + 1)) + 1)) 3) == 0)) = true := c10
         (try (have c10b1 : decide (((rd_T49 l0 x5_1).f3) = ((Int.tmod (wrap64 ((wrap64 ((wrap64 (x1_1 + 1)) + 1)) + 1)) 3) == 0)) = false := by simpa using c10))
         (try (have c10b2 : (((rd_T49 l0 x5_1).f3) == ((Int.tmod (wrap64 ((wrap64 ((wrap64 (x1_1 + 1)) + 1)) + 1)) 3) == 0)) = false := by simpa using c10))
         (try (have c10b3 : ¬ (((rd_T49 l0 x5_1).f3) = ((Int.tmod (wrap64 ((wrap64 ((wrap64 (x1_1 + 1)) + 1)) + 1)) 3) == 0)) := by simpa using c10))
         clear c10
         obtain rfl := Option.some.inj H
         try go_wp2
         have n0_ := am (below_drew1 HB.out)
         clear HB
         have HB := n0_
         clear n0_
         have p121 : 0 ≤ (x5_1 : Int) := q_d
         have q121 : x5_1 < (l0.length : Int) := q_d
         obtain ⟨ad121, e121, hx121_0, hx121_1, hx121_2, hx121_3⟩ := at_T49 HR0.out x5_1 p121 q121
         have hw121_3 := hx121_3
         have hw121_2 := hx121_2
         have hw121_1 := hx121_1
         have hw121_0 := hx121_0
         cases e121
         replace hx121_0 := q_x HB.out hx121_0
         replace hx121_1 := q_x HB.out hx121_1
         replace hx121_2 := q_x HB.out hx121_2
         replace hx121_3 := q_x HB.out hx121_3
         replace p121 := eq_true p121
         replace q121 := eq_true q121
         refine start_ (n := 8) (S := fun w' => w'.cell? (ad121.add ((x5_1).toNat * 4)) = some (.string ((rd_T49 l0 x5_1).f0)) ∧ w'.cell? ⟨(ad121.add ((x5_1).toNat * 4)).block, (ad121.add ((x5_1).toNat * 4)).off + 1, none⟩ = some (.int .i64 ((rd_T49 l0 x5_1).f1)) ∧ w'.cell? ⟨(ad121.add ((x5_1).toNat * 4)).block, (ad121.add ((x5_1).toNat * 4)).off + 2, none⟩ = some (.string ((rd_T49 l0 x5_1).f2)) ∧ w'.cell? ⟨(ad121.add ((x5_1).toNat * 4)).block, (ad121.add ((x5_1).toNat * 4)).off + 3, none⟩ = some (.bool ((rd_T49 l0 x5_1).f3))) (ds := []) #[false, false, false, false, false, false, false, false] (by kernel_rfl) rfl rfl ⟨((HB.out.cell (wb hw121_0)).trans hw121_0), ((HB.out.cell (wb hw121_1)).trans hw121_1), ((HB.out.cell (wb hw121_2)).trans hw121_2), ((HB.out.cell (wb hw121_3)).trans hw121_3)⟩ (fun hHeld => ?_); refine with_tabW laws_heldRowS.tab4 laws_heldRowS.bits4 (fun HT_ HW_ => ?_)
         generalize wr.drew = w11 at HB hx121_0 hx121_1 hx121_2 hx121_3 hHeld ⊢
         refine q_p 0 (some 12) #[true, false, false, false, false, false, false, false] HT_.out ?_
         refine q_p 1 (some 13) #[true, true, false, false, false, false, false, false] HT_.out ?_
         refine q_p 2 (some 14) #[true, true, true, false, false, false, false, false] HT_.out ?_
         refine q_p 3 (some 15) #[true, true, true, true, false, false, false, false] HT_.out ?_
         refine q_p 5 (some 17) #[true, true, true, true, false, true, false, false] HT_.out ?_
         refine q_t 4 (some 16) #[true, true, true, true, true, true, false, false] HT_.out HW_.out hHeld ?_
         refine one_ (i := 6) (N := some 18) #[true, true, true, true, true, true, true, false] rfl rfl (one_of HT_.out (by kernel_rfl)) (by decide) (fun K hK => ?_)
         refine goes_ Try.func87 (by kernel_rfl) rfl #[.int .i64 x1_1] (by rfl) rfl rfl (by (try simp only [List.map_toArray, List.map_cons, List.map_nil]); first | done | rfl | (simp only [List.length_drop, List.length_take]; rfl)) ?_
         with_reducible refine (laws_markText.calls k1 x1_1 t122 _ A5.out).mono ?_
         rintro e w12 ⟨rfl, hb⟩
         refine ⟨_, rfl, ?_⟩
         have n0_ := am (below_step bq hb)
         clear HB
         have HB := n0_
         clear n0_
         (try clear hb)
         (try clear hb2)
         (try clear hk)
         (try clear hi)
         refine hK.out _ _ ⟨((HB.out.cell (wb hw121_0)).trans hw121_0), ((HB.out.cell (wb hw121_1)).trans hw121_1), ((HB.out.cell (wb hw121_2)).trans hw121_2), ((HB.out.cell (wb hw121_3)).trans hw121_3)⟩ (fun hHeld => ?_)
         clear hK K
         refine norm_ (a' := ?_) ?_ ?_
         rotate_left
         ·show Act.put _ (some 18) _ = _
          simp only [Act.put, List.setIfInBounds_toArray, List.set_cons_zero, List.set_cons_succ, i64_w, i32_w]
          rfl
         refine q_p 7 (some 19) #[true, true, true, true, true, true, true, true] HT_.out ?_
         refine done_ (done_of HT_.out (by kernel_rfl)) ?_
         have p123 : 0 ≤ (x5_1 : Int) := q_d
         have q123 : x5_1 < (l0.length : Int) := q_d
         obtain ⟨ad123, e123, hx123_0, hx123_1, hx123_2, hx123_3⟩ := at_T49 HR0.out x5_1 p123 q123
         obtain rfl : ad121 = ad123 := (by injection e123)
         replace hx123_0 := q_x HB.out hx123_0
         replace hx123_1 := q_x HB.out hx123_1
         replace hx123_2 := q_x HB.out hx123_2
         replace hx123_3 := q_x HB.out hx123_3
         replace p123 := eq_true p123
         replace q123 := eq_true q123
         try go_wp2
         have n0_ := am (below_drew1 HB.out)
         clear HB
         have HB := n0_
         clear n0_
         have p124 : 0 ≤ (x5_1 : Int) := q_d
         have q124 : x5_1 < (l0.length : Int) := q_d
         obtain ⟨ad124, e124, hx124_0, hx124_1, hx124_2, hx124_3⟩ := at_T49 HR0.out x5_1 p124 q124
         have hw124_3 := hx124_3
         have hw124_2 := hx124_2
         have hw124_1 := hx124_1
         have hw124_0 := hx124_0
         obtain rfl : ad121 = ad124 := (by injection e124)
         replace hx124_0 := q_x HB.out hx124_0
         replace hx124_1 := q_x HB.out hx124_1
         replace hx124_2 := q_x HB.out hx124_2
         replace hx124_3 := q_x HB.out hx124_3
         replace p124 := eq_true p124
         replace q124 := eq_true q124
         refine start_ (n := 8) (S := fun w' => w'.cell? (ad121.add ((x5_1).toNat * 4)) = some (.string ((rd_T49 l0 x5_1).f0)) ∧ w'.cell? ⟨(ad121.add ((x5_1).toNat * 4)).block, (ad121.add ((x5_1).toNat * 4)).off + 1, none⟩ = some (.int .i64 ((rd_T49 l0 x5_1).f1)) ∧ w'.cell? ⟨(ad121.add ((x5_1).toNat * 4)).block, (ad121.add ((x5_1).toNat * 4)).off + 2, none⟩ = some (.string ((rd_T49 l0 x5_1).f2)) ∧ w'.cell? ⟨(ad121.add ((x5_1).toNat * 4)).block, (ad121.add ((x5_1).toNat * 4)).off + 3, none⟩ = some (.bool ((rd_T49 l0 x5_1).f3))) (ds := []) #[false, false, false, false, false, false, false, false] (by kernel_rfl) rfl rfl ⟨((HB.out.cell (wb hw124_0)).trans hw124_0), ((HB.out.cell (wb hw124_1)).trans hw124_1), ((HB.out.cell (wb hw124_2)).trans hw124_2), ((HB.out.cell (wb hw124_3)).trans hw124_3)⟩ (fun hHeld => ?_); refine with_tabW laws_heldRowS.tab10 laws_heldRowS.bits10 (fun HT_ HW_ => ?_)
         generalize w12.drew = w13 at HB hx124_0 hx124_1 hx124_2 hx124_3 hHeld ⊢
         refine q_p 0 (some 31) #[true, false, false, false, false, false, false, false] HT_.out ?_
         refine q_p 1 (some 32) #[true, true, false, false, false, false, false, false] HT_.out ?_
         refine q_p 2 (some 33) #[true, true, true, false, false, false, false, false] HT_.out ?_
         refine q_p 3 (some 34) #[true, true, true, true, false, false, false, false] HT_.out ?_
         refine q_p 5 (some 36) #[true, true, true, true, false, true, false, false] HT_.out ?_
         refine q_t 4 (some 35) #[true, true, true, true, true, true, false, false] HT_.out HW_.out hHeld ?_
         refine one_ (i := 6) (N := some 37) #[true, true, true, true, true, true, true, false] rfl rfl (one_of HT_.out (by kernel_rfl)) (by decide) (fun K hK => ?_)
         refine goes_ Try.func87 (by kernel_rfl) rfl #[.int .i64 (wrap64 ((wrap64 (x1_1 + 1)) + 1))] (by rfl) rfl rfl (by (try simp only [List.map_toArray, List.map_cons, List.map_nil]); first | done | rfl | (simp only [List.length_drop, List.length_take]; rfl)) ?_
         with_reducible refine (laws_markText.calls k1 (wrap64 ((wrap64 (x1_1 + 1)) + 1)) t125 _ A8.out).mono ?_
         rintro e w14 ⟨rfl, hb⟩
         refine ⟨_, rfl, ?_⟩
         have n0_ := am (below_step bq hb)
         clear HB
         have HB := n0_
         clear n0_
         (try clear hb)
         (try clear hb2)
         (try clear hk)
         (try clear hi)
         refine hK.out _ _ ⟨((HB.out.cell (wb hw124_0)).trans hw124_0), ((HB.out.cell (wb hw124_1)).trans hw124_1), ((HB.out.cell (wb hw124_2)).trans hw124_2), ((HB.out.cell (wb hw124_3)).trans hw124_3)⟩ (fun hHeld => ?_)
         clear hK K
         refine norm_ (a' := ?_) ?_ ?_
         rotate_left
         ·show Act.put _ (some 37) _ = _
          simp only [Act.put, List.setIfInBounds_toArray, List.set_cons_zero, List.set_cons_succ, i64_w, i32_w]
          rfl
         refine q_p 7 (some 38) #[true, true, true, true, true, true, true, true] HT_.out ?_
         refine done_ (done_of HT_.out (by kernel_rfl)) ?_
         have p126 : 0 ≤ (x5_1 : Int) := q_d
         have q126 : x5_1 < (l0.length : Int) := q_d
         obtain ⟨ad126, e126, hx126_0, hx126_1, hx126_2, hx126_3⟩ := at_T49 HR0.out x5_1 p126 q126
         obtain rfl : ad121 = ad126 := (by injection e126)
         replace hx126_0 := q_x HB.out hx126_0
         replace hx126_1 := q_x HB.out hx126_1
         replace hx126_2 := q_x HB.out hx126_2
         replace hx126_3 := q_x HB.out hx126_3
         replace p126 := eq_true p126
         replace q126 := eq_true q126
         try go_wp2
         go_ret
         exact ⟨q_e, bq⟩
        ·rw [if_neg c10] at H
         have c10b0 : (((rd_T49 l0 x5_1).f3) != ((Int.tmod (wrap64 ((wrap64 ((wrap64 (x1_1 + 1)) + 1)) + 1)) 3) == 0)) = false := by simpa using c10
         (try (have c10b1 : decide (((rd_T49 l0 x5_1).f3) = ((Int.tmod (wrap64 ((wrap64 ((wrap64 (x1_1 + 1)) + 1)) + 1)) 3) == 0)) = true := by simpa using c10))
         (try (have c10b2 : (((rd_T49 l0 x5_1).f3) == ((Int.tmod (wrap64 ((wrap64 ((wrap64 (x1_1 + 1)) + 1)) + 1)) 3) == 0)) = true := by simpa using c10))
         clear c10
         have H' := am H
         clear H
         try go_wp2
         have n0_ := am (below_drew1 HB.out)
         clear HB
         have HB := n0_
         clear n0_
         have p121 : 0 ≤ (x5_1 : Int) := q_d
         have q121 : x5_1 < (l0.length : Int) := q_d
         obtain ⟨ad121, e121, hx121_0, hx121_1, hx121_2, hx121_3⟩ := at_T49 HR0.out x5_1 p121 q121
         have hw121_3 := hx121_3
         have hw121_2 := hx121_2
         have hw121_1 := hx121_1
         have hw121_0 := hx121_0
         cases e121
         replace hx121_0 := q_x HB.out hx121_0
         replace hx121_1 := q_x HB.out hx121_1
         replace hx121_2 := q_x HB.out hx121_2
         replace hx121_3 := q_x HB.out hx121_3
         replace p121 := eq_true p121
         replace q121 := eq_true q121
         refine start_ (n := 8) (S := fun w' => w'.cell? (ad121.add ((x5_1).toNat * 4)) = some (.string ((rd_T49 l0 x5_1).f0)) ∧ w'.cell? ⟨(ad121.add ((x5_1).toNat * 4)).block, (ad121.add ((x5_1).toNat * 4)).off + 1, none⟩ = some (.int .i64 ((rd_T49 l0 x5_1).f1)) ∧ w'.cell? ⟨(ad121.add ((x5_1).toNat * 4)).block, (ad121.add ((x5_1).toNat * 4)).off + 2, none⟩ = some (.string ((rd_T49 l0 x5_1).f2)) ∧ w'.cell? ⟨(ad121.add ((x5_1).toNat * 4)).block, (ad121.add ((x5_1).toNat * 4)).off + 3, none⟩ = some (.bool ((rd_T49 l0 x5_1).f3))) (ds := []) #[false, false, false, false, false, false, false, false] (by kernel_rfl) rfl rfl ⟨((HB.out.cell (wb hw121_0)).trans hw121_0), ((HB.out.cell (wb hw121_1)).trans hw121_1), ((HB.out.cell (wb hw121_2)).trans hw121_2), ((HB.out.cell (wb hw121_3)).trans hw121_3)⟩ (fun hHeld => ?_); refine with_tabW laws_heldRowS.tab4 laws_heldRowS.bits4 (fun HT_ HW_ => ?_)
         generalize wr.drew = w15 at HB hx121_0 hx121_1 hx121_2 hx121_3 hHeld ⊢
         refine q_p 0 (some 12) #[true, false, false, false, false, false, false, false] HT_.out ?_
         refine q_p 1 (some 13) #[true, true, false, false, false, false, false, false] HT_.out ?_
         refine q_p 2 (some 14) #[true, true, true, false, false, false, false, false] HT_.out ?_
         refine q_p 3 (some 15) #[true, true, true, true, false, false, false, false] HT_.out ?_
         refine q_p 5 (some 17) #[true, true, true, true, false, true, false, false] HT_.out ?_
         refine q_t 4 (some 16) #[true, true, true, true, true, true, false, false] HT_.out HW_.out hHeld ?_
         refine one_ (i := 6) (N := some 18) #[true, true, true, true, true, true, true, false] rfl rfl (one_of HT_.out (by kernel_rfl)) (by decide) (fun K hK => ?_)
         refine goes_ Try.func87 (by kernel_rfl) rfl #[.int .i64 x1_1] (by rfl) rfl rfl (by (try simp only [List.map_toArray, List.map_cons, List.map_nil]); first | done | rfl | (simp only [List.length_drop, List.length_take]; rfl)) ?_
         with_reducible refine (laws_markText.calls k1 x1_1 t122 _ A5.out).mono ?_
         rintro e w16 ⟨rfl, hb⟩
         refine ⟨_, rfl, ?_⟩
         have n0_ := am (below_step bq hb)
         clear HB
         have HB := n0_
         clear n0_
         (try clear hb)
         (try clear hb2)
         (try clear hk)
         (try clear hi)
         refine hK.out _ _ ⟨((HB.out.cell (wb hw121_0)).trans hw121_0), ((HB.out.cell (wb hw121_1)).trans hw121_1), ((HB.out.cell (wb hw121_2)).trans hw121_2), ((HB.out.cell (wb hw121_3)).trans hw121_3)⟩ (fun hHeld => ?_)
         clear hK K
         refine norm_ (a' := ?_) ?_ ?_
         rotate_left
         ·show Act.put _ (some 18) _ = _
          simp only [Act.put, List.setIfInBounds_toArray, List.set_cons_zero, List.set_cons_succ, i64_w, i32_w]
          rfl
         refine q_p 7 (some 19) #[true, true, true, true, true, true, true, true] HT_.out ?_
         refine done_ (done_of HT_.out (by kernel_rfl)) ?_
         have p123 : 0 ≤ (x5_1 : Int) := q_d
         have q123 : x5_1 < (l0.length : Int) := q_d
         obtain ⟨ad123, e123, hx123_0, hx123_1, hx123_2, hx123_3⟩ := at_T49 HR0.out x5_1 p123 q123
         obtain rfl : ad121 = ad123 := (by injection e123)
         replace hx123_0 := q_x HB.out hx123_0
         replace hx123_1 := q_x HB.out hx123_1
         replace hx123_2 := q_x HB.out hx123_2
         replace hx123_3 := q_x HB.out hx123_3
         replace p123 := eq_true p123
         replace q123 := eq_true q123
         try go_wp2
         have n0_ := am (below_drew1 HB.out)
         clear HB
         have HB := n0_
         clear n0_
         have p124 : 0 ≤ (x5_1 : Int) := q_d
         have q124 : x5_1 < (l0.length : Int) := q_d
         obtain ⟨ad124, e124, hx124_0, hx124_1, hx124_2, hx124_3⟩ := at_T49 HR0.out x5_1 p124 q124
         have hw124_3 := hx124_3
         have hw124_2 := hx124_2
         have hw124_1 := hx124_1
         have hw124_0 := hx124_0
         obtain rfl : ad121 = ad124 := (by injection e124)
         replace hx124_0 := q_x HB.out hx124_0
         replace hx124_1 := q_x HB.out hx124_1
         replace hx124_2 := q_x HB.out hx124_2
         replace hx124_3 := q_x HB.out hx124_3
         replace p124 := eq_true p124
         replace q124 := eq_true q124
         refine start_ (n := 8) (S := fun w' => w'.cell? (ad121.add ((x5_1).toNat * 4)) = some (.string ((rd_T49 l0 x5_1).f0)) ∧ w'.cell? ⟨(ad121.add ((x5_1).toNat * 4)).block, (ad121.add ((x5_1).toNat * 4)).off + 1, none⟩ = some (.int .i64 ((rd_T49 l0 x5_1).f1)) ∧ w'.cell? ⟨(ad121.add ((x5_1).toNat * 4)).block, (ad121.add ((x5_1).toNat * 4)).off + 2, none⟩ = some (.string ((rd_T49 l0 x5_1).f2)) ∧ w'.cell? ⟨(ad121.add ((x5_1).toNat * 4)).block, (ad121.add ((x5_1).toNat * 4)).off + 3, none⟩ = some (.bool ((rd_T49 l0 x5_1).f3))) (ds := []) #[false, false, false, false, false, false, false, false] (by kernel_rfl) rfl rfl ⟨((HB.out.cell (wb hw124_0)).trans hw124_0), ((HB.out.cell (wb hw124_1)).trans hw124_1), ((HB.out.cell (wb hw124_2)).trans hw124_2), ((HB.out.cell (wb hw124_3)).trans hw124_3)⟩ (fun hHeld => ?_); refine with_tabW laws_heldRowS.tab10 laws_heldRowS.bits10 (fun HT_ HW_ => ?_)
         generalize w16.drew = w17 at HB hx124_0 hx124_1 hx124_2 hx124_3 hHeld ⊢
         refine q_p 0 (some 31) #[true, false, false, false, false, false, false, false] HT_.out ?_
         refine q_p 1 (some 32) #[true, true, false, false, false, false, false, false] HT_.out ?_
         refine q_p 2 (some 33) #[true, true, true, false, false, false, false, false] HT_.out ?_
         refine q_p 3 (some 34) #[true, true, true, true, false, false, false, false] HT_.out ?_
         refine q_p 5 (some 36) #[true, true, true, true, false, true, false, false] HT_.out ?_
         refine q_t 4 (some 35) #[true, true, true, true, true, true, false, false] HT_.out HW_.out hHeld ?_
         refine one_ (i := 6) (N := some 37) #[true, true, true, true, true, true, true, false] rfl rfl (one_of HT_.out (by kernel_rfl)) (by decide) (fun K hK => ?_)
         refine goes_ Try.func87 (by kernel_rfl) rfl #[.int .i64 (wrap64 ((wrap64 (x1_1 + 1)) + 1))] (by rfl) rfl rfl (by (try simp only [List.map_toArray, List.map_cons, List.map_nil]); first | done | rfl | (simp only [List.length_drop, List.length_take]; rfl)) ?_
         with_reducible refine (laws_markText.calls k1 (wrap64 ((wrap64 (x1_1 + 1)) + 1)) t125 _ A8.out).mono ?_
         rintro e w18 ⟨rfl, hb⟩
         refine ⟨_, rfl, ?_⟩
         have n0_ := am (below_step bq hb)
         clear HB
         have HB := n0_
         clear n0_
         (try clear hb)
         (try clear hb2)
         (try clear hk)
         (try clear hi)
         refine hK.out _ _ ⟨((HB.out.cell (wb hw124_0)).trans hw124_0), ((HB.out.cell (wb hw124_1)).trans hw124_1), ((HB.out.cell (wb hw124_2)).trans hw124_2), ((HB.out.cell (wb hw124_3)).trans hw124_3)⟩ (fun hHeld => ?_)
         clear hK K
         refine norm_ (a' := ?_) ?_ ?_
         rotate_left
         ·show Act.put _ (some 37) _ = _
          simp only [Act.put, List.setIfInBounds_toArray, List.set_cons_zero, List.set_cons_succ, i64_w, i32_w]
          rfl
         refine q_p 7 (some 38) #[true, true, true, true, true, true, true, true] HT_.out ?_
         refine done_ (done_of HT_.out (by kernel_rfl)) ?_
         have p126 : 0 ≤ (x5_1 : Int) := q_d
         have q126 : x5_1 < (l0.length : Int) := q_d
         obtain ⟨ad126, e126, hx126_0, hx126_1, hx126_2, hx126_3⟩ := at_T49 HR0.out x5_1 p126 q126
         obtain rfl : ad121 = ad126 := (by injection e126)
         replace hx126_0 := q_x HB.out hx126_0
         replace hx126_1 := q_x HB.out hx126_1
         replace hx126_2 := q_x HB.out hx126_2
         replace hx126_3 := q_x HB.out hx126_3
         replace p126 := eq_true p126
         replace q126 := eq_true q126
         try go_wp2
         go_roundg k1
         case measure => have := HK1.out; omega
         case rel => exact ⟨(wrap64 ((wrap64 ((wrap64 ((wrap64 (x1_1 + 1)) + 1)) + 1)) + 1)), (wrap64 (x5_1 + 1)), q_i, q_i, H', ⟨by have := HK1.out; omega⟩, ⟨bq⟩⟩
       ·rw [if_neg c9] at H
        have c9b0 : (((rd_T49 l0 x5_1).f2).toList == t125.toList) = false := beq_eq_false_iff_ne.mpr c9
        have c9b1 : (((rd_T49 l0 x5_1).f2).toList != t125.toList) = true := bne_iff_ne.mpr c9
        obtain rfl := Option.some.inj H
        try go_wp2
        have n0_ := am (below_drew1 HB.out)
        clear HB
        have HB := n0_
        clear n0_
        have p121 : 0 ≤ (x5_1 : Int) := q_d
        have q121 : x5_1 < (l0.length : Int) := q_d
        obtain ⟨ad121, e121, hx121_0, hx121_1, hx121_2, hx121_3⟩ := at_T49 HR0.out x5_1 p121 q121
        have hw121_3 := hx121_3
        have hw121_2 := hx121_2
        have hw121_1 := hx121_1
        have hw121_0 := hx121_0
        cases e121
        replace hx121_0 := q_x HB.out hx121_0
        replace hx121_1 := q_x HB.out hx121_1
        replace hx121_2 := q_x HB.out hx121_2
        replace hx121_3 := q_x HB.out hx121_3
        replace p121 := eq_true p121
        replace q121 := eq_true q121
        refine start_ (n := 8) (S := fun w' => w'.cell? (ad121.add ((x5_1).toNat * 4)) = some (.string ((rd_T49 l0 x5_1).f0)) ∧ w'.cell? ⟨(ad121.add ((x5_1).toNat * 4)).block, (ad121.add ((x5_1).toNat * 4)).off + 1, none⟩ = some (.int .i64 ((rd_T49 l0 x5_1).f1)) ∧ w'.cell? ⟨(ad121.add ((x5_1).toNat * 4)).block, (ad121.add ((x5_1).toNat * 4)).off + 2, none⟩ = some (.string ((rd_T49 l0 x5_1).f2)) ∧ w'.cell? ⟨(ad121.add ((x5_1).toNat * 4)).block, (ad121.add ((x5_1).toNat * 4)).off + 3, none⟩ = some (.bool ((rd_T49 l0 x5_1).f3))) (ds := []) #[false, false, false, false, false, false, false, false] (by kernel_rfl) rfl rfl ⟨((HB.out.cell (wb hw121_0)).trans hw121_0), ((HB.out.cell (wb hw121_1)).trans hw121_1), ((HB.out.cell (wb hw121_2)).trans hw121_2), ((HB.out.cell (wb hw121_3)).trans hw121_3)⟩ (fun hHeld => ?_); refine with_tabW laws_heldRowS.tab4 laws_heldRowS.bits4 (fun HT_ HW_ => ?_)
        generalize wr.drew = w19 at HB hx121_0 hx121_1 hx121_2 hx121_3 hHeld ⊢
        refine q_p 0 (some 12) #[true, false, false, false, false, false, false, false] HT_.out ?_
        refine q_p 1 (some 13) #[true, true, false, false, false, false, false, false] HT_.out ?_
        refine q_p 2 (some 14) #[true, true, true, false, false, false, false, false] HT_.out ?_
        refine q_p 3 (some 15) #[true, true, true, true, false, false, false, false] HT_.out ?_
        refine q_p 5 (some 17) #[true, true, true, true, false, true, false, false] HT_.out ?_
        refine q_t 4 (some 16) #[true, true, true, true, true, true, false, false] HT_.out HW_.out hHeld ?_
        refine one_ (i := 6) (N := some 18) #[true, true, true, true, true, true, true, false] rfl rfl (one_of HT_.out (by kernel_rfl)) (by decide) (fun K hK => ?_)
        refine goes_ Try.func87 (by kernel_rfl) rfl #[.int .i64 x1_1] (by rfl) rfl rfl (by (try simp only [List.map_toArray, List.map_cons, List.map_nil]); first | done | rfl | (simp only [List.length_drop, List.length_take]; rfl)) ?_
        with_reducible refine (laws_markText.calls k1 x1_1 t122 _ A5.out).mono ?_
        rintro e w20 ⟨rfl, hb⟩
        refine ⟨_, rfl, ?_⟩
        have n0_ := am (below_step bq hb)
        clear HB
        have HB := n0_
        clear n0_
        (try clear hb)
        (try clear hb2)
        (try clear hk)
        (try clear hi)
        refine hK.out _ _ ⟨((HB.out.cell (wb hw121_0)).trans hw121_0), ((HB.out.cell (wb hw121_1)).trans hw121_1), ((HB.out.cell (wb hw121_2)).trans hw121_2), ((HB.out.cell (wb hw121_3)).trans hw121_3)⟩ (fun hHeld => ?_)
        clear hK K
        refine norm_ (a' := ?_) ?_ ?_
        rotate_left
        ·show Act.put _ (some 18) _ = _
         simp only [Act.put, List.setIfInBounds_toArray, List.set_cons_zero, List.set_cons_succ, i64_w, i32_w]
         rfl
        refine q_p 7 (some 19) #[true, true, true, true, true, true, true, true] HT_.out ?_
        refine done_ (done_of HT_.out (by kernel_rfl)) ?_
        have p123 : 0 ≤ (x5_1 : Int) := q_d
        have q123 : x5_1 < (l0.length : Int) := q_d
        obtain ⟨ad123, e123, hx123_0, hx123_1, hx123_2, hx123_3⟩ := at_T49 HR0.out x5_1 p123 q123
        obtain rfl : ad121 = ad123 := (by injection e123)
        replace hx123_0 := q_x HB.out hx123_0
        replace hx123_1 := q_x HB.out hx123_1
        replace hx123_2 := q_x HB.out hx123_2
        replace hx123_3 := q_x HB.out hx123_3
        replace p123 := eq_true p123
        replace q123 := eq_true q123
        try go_wp2
        have n0_ := am (below_drew1 HB.out)
        clear HB
        have HB := n0_
        clear n0_
        have p124 : 0 ≤ (x5_1 : Int) := q_d
        have q124 : x5_1 < (l0.length : Int) := q_d
        obtain ⟨ad124, e124, hx124_0, hx124_1, hx124_2, hx124_3⟩ := at_T49 HR0.out x5_1 p124 q124
        have hw124_3 := hx124_3
        have hw124_2 := hx124_2
        have hw124_1 := hx124_1
        have hw124_0 := hx124_0
        obtain rfl : ad121 = ad124 := (by injection e124)
        replace hx124_0 := q_x HB.out hx124_0
        replace hx124_1 := q_x HB.out hx124_1
        replace hx124_2 := q_x HB.out hx124_2
        replace hx124_3 := q_x HB.out hx124_3
        replace p124 := eq_true p124
        replace q124 := eq_true q124
        refine start_ (n := 8) (S := fun w' => w'.cell? (ad121.add ((x5_1).toNat * 4)) = some (.string ((rd_T49 l0 x5_1).f0)) ∧ w'.cell? ⟨(ad121.add ((x5_1).toNat * 4)).block, (ad121.add ((x5_1).toNat * 4)).off + 1, none⟩ = some (.int .i64 ((rd_T49 l0 x5_1).f1)) ∧ w'.cell? ⟨(ad121.add ((x5_1).toNat * 4)).block, (ad121.add ((x5_1).toNat * 4)).off + 2, none⟩ = some (.string ((rd_T49 l0 x5_1).f2)) ∧ w'.cell? ⟨(ad121.add ((x5_1).toNat * 4)).block, (ad121.add ((x5_1).toNat * 4)).off + 3, none⟩ = some (.bool ((rd_T49 l0 x5_1).f3))) (ds := []) #[false, false, false, false, false, false, false, false] (by kernel_rfl) rfl rfl ⟨((HB.out.cell (wb hw124_0)).trans hw124_0), ((HB.out.cell (wb hw124_1)).trans hw124_1), ((HB.out.cell (wb hw124_2)).trans hw124_2), ((HB.out.cell (wb hw124_3)).trans hw124_3)⟩ (fun hHeld => ?_); refine with_tabW laws_heldRowS.tab10 laws_heldRowS.bits10 (fun HT_ HW_ => ?_)
        generalize w20.drew = w21 at HB hx124_0 hx124_1 hx124_2 hx124_3 hHeld ⊢
        refine q_p 0 (some 31) #[true, false, false, false, false, false, false, false] HT_.out ?_
        refine q_p 1 (some 32) #[true, true, false, false, false, false, false, false] HT_.out ?_
        refine q_p 2 (some 33) #[true, true, true, false, false, false, false, false] HT_.out ?_
        refine q_p 3 (some 34) #[true, true, true, true, false, false, false, false] HT_.out ?_
        refine q_p 5 (some 36) #[true, true, true, true, false, true, false, false] HT_.out ?_
        refine q_t 4 (some 35) #[true, true, true, true, true, true, false, false] HT_.out HW_.out hHeld ?_
        refine one_ (i := 6) (N := some 37) #[true, true, true, true, true, true, true, false] rfl rfl (one_of HT_.out (by kernel_rfl)) (by decide) (fun K hK => ?_)
        refine goes_ Try.func87 (by kernel_rfl) rfl #[.int .i64 (wrap64 ((wrap64 (x1_1 + 1)) + 1))] (by rfl) rfl rfl (by (try simp only [List.map_toArray, List.map_cons, List.map_nil]); first | done | rfl | (simp only [List.length_drop, List.length_take]; rfl)) ?_
        with_reducible refine (laws_markText.calls k1 (wrap64 ((wrap64 (x1_1 + 1)) + 1)) t125 _ A8.out).mono ?_
        rintro e w22 ⟨rfl, hb⟩
        refine ⟨_, rfl, ?_⟩
        have n0_ := am (below_step bq hb)
        clear HB
        have HB := n0_
        clear n0_
        (try clear hb)
        (try clear hb2)
        (try clear hk)
        (try clear hi)
        refine hK.out _ _ ⟨((HB.out.cell (wb hw124_0)).trans hw124_0), ((HB.out.cell (wb hw124_1)).trans hw124_1), ((HB.out.cell (wb hw124_2)).trans hw124_2), ((HB.out.cell (wb hw124_3)).trans hw124_3)⟩ (fun hHeld => ?_)
        clear hK K
        refine norm_ (a' := ?_) ?_ ?_
        rotate_left
        ·show Act.put _ (some 37) _ = _
         simp only [Act.put, List.setIfInBounds_toArray, List.set_cons_zero, List.set_cons_succ, i64_w, i32_w]
         rfl
        refine q_p 7 (some 38) #[true, true, true, true, true, true, true, true] HT_.out ?_
        refine done_ (done_of HT_.out (by kernel_rfl)) ?_
        try go_wp2
        go_ret
        exact ⟨q_e, bq⟩
      ·rw [if_neg c7] at H
       have c7b0 : (((rd_T49 l0 x5_1).f1) == (wrap64 (x1_1 + 1))) = false := beq_eq_false_iff_ne.mpr c7
       have c7b1 : (((rd_T49 l0 x5_1).f1) != (wrap64 (x1_1 + 1))) = true := bne_iff_ne.mpr c7
       obtain rfl := Option.some.inj H
       try go_wp2
       have n0_ := am (below_drew1 HB.out)
       clear HB
       have HB := n0_
       clear n0_
       have p121 : 0 ≤ (x5_1 : Int) := q_d
       have q121 : x5_1 < (l0.length : Int) := q_d
       obtain ⟨ad121, e121, hx121_0, hx121_1, hx121_2, hx121_3⟩ := at_T49 HR0.out x5_1 p121 q121
       have hw121_3 := hx121_3
       have hw121_2 := hx121_2
       have hw121_1 := hx121_1
       have hw121_0 := hx121_0
       cases e121
       replace hx121_0 := q_x HB.out hx121_0
       replace hx121_1 := q_x HB.out hx121_1
       replace hx121_2 := q_x HB.out hx121_2
       replace hx121_3 := q_x HB.out hx121_3
       replace p121 := eq_true p121
       replace q121 := eq_true q121
       refine start_ (n := 8) (S := fun w' => w'.cell? (ad121.add ((x5_1).toNat * 4)) = some (.string ((rd_T49 l0 x5_1).f0)) ∧ w'.cell? ⟨(ad121.add ((x5_1).toNat * 4)).block, (ad121.add ((x5_1).toNat * 4)).off + 1, none⟩ = some (.int .i64 ((rd_T49 l0 x5_1).f1)) ∧ w'.cell? ⟨(ad121.add ((x5_1).toNat * 4)).block, (ad121.add ((x5_1).toNat * 4)).off + 2, none⟩ = some (.string ((rd_T49 l0 x5_1).f2)) ∧ w'.cell? ⟨(ad121.add ((x5_1).toNat * 4)).block, (ad121.add ((x5_1).toNat * 4)).off + 3, none⟩ = some (.bool ((rd_T49 l0 x5_1).f3))) (ds := []) #[false, false, false, false, false, false, false, false] (by kernel_rfl) rfl rfl ⟨((HB.out.cell (wb hw121_0)).trans hw121_0), ((HB.out.cell (wb hw121_1)).trans hw121_1), ((HB.out.cell (wb hw121_2)).trans hw121_2), ((HB.out.cell (wb hw121_3)).trans hw121_3)⟩ (fun hHeld => ?_); refine with_tabW laws_heldRowS.tab4 laws_heldRowS.bits4 (fun HT_ HW_ => ?_)
       generalize wr.drew = w23 at HB hx121_0 hx121_1 hx121_2 hx121_3 hHeld ⊢
       refine q_p 0 (some 12) #[true, false, false, false, false, false, false, false] HT_.out ?_
       refine q_p 1 (some 13) #[true, true, false, false, false, false, false, false] HT_.out ?_
       refine q_p 2 (some 14) #[true, true, true, false, false, false, false, false] HT_.out ?_
       refine q_p 3 (some 15) #[true, true, true, true, false, false, false, false] HT_.out ?_
       refine q_p 5 (some 17) #[true, true, true, true, false, true, false, false] HT_.out ?_
       refine q_t 4 (some 16) #[true, true, true, true, true, true, false, false] HT_.out HW_.out hHeld ?_
       refine one_ (i := 6) (N := some 18) #[true, true, true, true, true, true, true, false] rfl rfl (one_of HT_.out (by kernel_rfl)) (by decide) (fun K hK => ?_)
       refine goes_ Try.func87 (by kernel_rfl) rfl #[.int .i64 x1_1] (by rfl) rfl rfl (by (try simp only [List.map_toArray, List.map_cons, List.map_nil]); first | done | rfl | (simp only [List.length_drop, List.length_take]; rfl)) ?_
       with_reducible refine (laws_markText.calls k1 x1_1 t122 _ A5.out).mono ?_
       rintro e w24 ⟨rfl, hb⟩
       refine ⟨_, rfl, ?_⟩
       have n0_ := am (below_step bq hb)
       clear HB
       have HB := n0_
       clear n0_
       (try clear hb)
       (try clear hb2)
       (try clear hk)
       (try clear hi)
       refine hK.out _ _ ⟨((HB.out.cell (wb hw121_0)).trans hw121_0), ((HB.out.cell (wb hw121_1)).trans hw121_1), ((HB.out.cell (wb hw121_2)).trans hw121_2), ((HB.out.cell (wb hw121_3)).trans hw121_3)⟩ (fun hHeld => ?_)
       clear hK K
       refine norm_ (a' := ?_) ?_ ?_
       rotate_left
       ·show Act.put _ (some 18) _ = _
        simp only [Act.put, List.setIfInBounds_toArray, List.set_cons_zero, List.set_cons_succ, i64_w, i32_w]
        rfl
       refine q_p 7 (some 19) #[true, true, true, true, true, true, true, true] HT_.out ?_
       refine done_ (done_of HT_.out (by kernel_rfl)) ?_
       have p123 : 0 ≤ (x5_1 : Int) := q_d
       have q123 : x5_1 < (l0.length : Int) := q_d
       obtain ⟨ad123, e123, hx123_0, hx123_1, hx123_2, hx123_3⟩ := at_T49 HR0.out x5_1 p123 q123
       obtain rfl : ad121 = ad123 := (by injection e123)
       replace hx123_0 := q_x HB.out hx123_0
       replace hx123_1 := q_x HB.out hx123_1
       replace hx123_2 := q_x HB.out hx123_2
       replace hx123_3 := q_x HB.out hx123_3
       replace p123 := eq_true p123
       replace q123 := eq_true q123
       try go_wp2
       go_ret
       exact ⟨q_e, bq⟩
     ·rw [if_neg c6] at H
      have c6b0 : (((rd_T49 l0 x5_1).f0).toList == t122.toList) = false := beq_eq_false_iff_ne.mpr c6
      have c6b1 : (((rd_T49 l0 x5_1).f0).toList != t122.toList) = true := bne_iff_ne.mpr c6
      obtain rfl := Option.some.inj H
      try go_wp2
      have n0_ := am (below_drew1 HB.out)
      clear HB
      have HB := n0_
      clear n0_
      have p121 : 0 ≤ (x5_1 : Int) := q_d
      have q121 : x5_1 < (l0.length : Int) := q_d
      obtain ⟨ad121, e121, hx121_0, hx121_1, hx121_2, hx121_3⟩ := at_T49 HR0.out x5_1 p121 q121
      have hw121_3 := hx121_3
      have hw121_2 := hx121_2
      have hw121_1 := hx121_1
      have hw121_0 := hx121_0
      cases e121
      replace hx121_0 := q_x HB.out hx121_0
      replace hx121_1 := q_x HB.out hx121_1
      replace hx121_2 := q_x HB.out hx121_2
      replace hx121_3 := q_x HB.out hx121_3
      replace p121 := eq_true p121
      replace q121 := eq_true q121
      refine start_ (n := 8) (S := fun w' => w'.cell? (ad121.add ((x5_1).toNat * 4)) = some (.string ((rd_T49 l0 x5_1).f0)) ∧ w'.cell? ⟨(ad121.add ((x5_1).toNat * 4)).block, (ad121.add ((x5_1).toNat * 4)).off + 1, none⟩ = some (.int .i64 ((rd_T49 l0 x5_1).f1)) ∧ w'.cell? ⟨(ad121.add ((x5_1).toNat * 4)).block, (ad121.add ((x5_1).toNat * 4)).off + 2, none⟩ = some (.string ((rd_T49 l0 x5_1).f2)) ∧ w'.cell? ⟨(ad121.add ((x5_1).toNat * 4)).block, (ad121.add ((x5_1).toNat * 4)).off + 3, none⟩ = some (.bool ((rd_T49 l0 x5_1).f3))) (ds := []) #[false, false, false, false, false, false, false, false] (by kernel_rfl) rfl rfl ⟨((HB.out.cell (wb hw121_0)).trans hw121_0), ((HB.out.cell (wb hw121_1)).trans hw121_1), ((HB.out.cell (wb hw121_2)).trans hw121_2), ((HB.out.cell (wb hw121_3)).trans hw121_3)⟩ (fun hHeld => ?_); refine with_tabW laws_heldRowS.tab4 laws_heldRowS.bits4 (fun HT_ HW_ => ?_)
      generalize wr.drew = w25 at HB hx121_0 hx121_1 hx121_2 hx121_3 hHeld ⊢
      refine q_p 0 (some 12) #[true, false, false, false, false, false, false, false] HT_.out ?_
      refine q_p 1 (some 13) #[true, true, false, false, false, false, false, false] HT_.out ?_
      refine q_p 2 (some 14) #[true, true, true, false, false, false, false, false] HT_.out ?_
      refine q_p 3 (some 15) #[true, true, true, true, false, false, false, false] HT_.out ?_
      refine q_p 5 (some 17) #[true, true, true, true, false, true, false, false] HT_.out ?_
      refine q_t 4 (some 16) #[true, true, true, true, true, true, false, false] HT_.out HW_.out hHeld ?_
      refine one_ (i := 6) (N := some 18) #[true, true, true, true, true, true, true, false] rfl rfl (one_of HT_.out (by kernel_rfl)) (by decide) (fun K hK => ?_)
      refine goes_ Try.func87 (by kernel_rfl) rfl #[.int .i64 x1_1] (by rfl) rfl rfl (by (try simp only [List.map_toArray, List.map_cons, List.map_nil]); first | done | rfl | (simp only [List.length_drop, List.length_take]; rfl)) ?_
      with_reducible refine (laws_markText.calls k1 x1_1 t122 _ A5.out).mono ?_
      rintro e w26 ⟨rfl, hb⟩
      refine ⟨_, rfl, ?_⟩
      have n0_ := am (below_step bq hb)
      clear HB
      have HB := n0_
      clear n0_
      (try clear hb)
      (try clear hb2)
      (try clear hk)
      (try clear hi)
      refine hK.out _ _ ⟨((HB.out.cell (wb hw121_0)).trans hw121_0), ((HB.out.cell (wb hw121_1)).trans hw121_1), ((HB.out.cell (wb hw121_2)).trans hw121_2), ((HB.out.cell (wb hw121_3)).trans hw121_3)⟩ (fun hHeld => ?_)
      clear hK K
      refine norm_ (a' := ?_) ?_ ?_
      rotate_left
      ·show Act.put _ (some 18) _ = _
       simp only [Act.put, List.setIfInBounds_toArray, List.set_cons_zero, List.set_cons_succ, i64_w, i32_w]
       rfl
      refine q_p 7 (some 19) #[true, true, true, true, true, true, true, true] HT_.out ?_
      refine done_ (done_of HT_.out (by kernel_rfl)) ?_
      try go_wp2
      go_ret
      exact ⟨q_e, bq⟩
    ·rw [if_neg c4] at H
     exact absurd H (by simp)
   ·rw [if_neg c3] at H
    have c3b0 := decide_eq_false c3
    clear c3
    obtain rfl := Option.some.inj H
    go_wp2
    go_ret
    exact ⟨q_e, bq⟩

end Go.Proofs.Ytdhlcnlcpjlliaa.PFnExactMergeTables
