/- Functions that a law reaches, as plain Lean functions, with the proof that the machine comes to their answers. No conditions. -/
import Derived.Test.YtdhlcnlcpjlliaaPFnExactMergeTablesx0
import Derived.Test.YtdhlcnlcpjlliaaPFnExactMergeTablesx3
namespace Go.Proofs.Ytdhlcnlcpjlliaa.PFnExactMergeTables
open Go.RowKit Go.Proofs.YtdhlcnlcpjlliaaW.PrintWords Go.Proofs.YtdhlcnlcpjlliaaW.PrintLast Go.Proofs.YtdhlcnlcpjlliaaW.PrintMore
attribute [local go_sem] max2_int min2_int max_two min_two max_three min_three max_four min_four   -- for this text's walks alone
set_option linter.unusedVariables false
set_option linter.unusedSimpArgs false
set_option maxHeartbeats 8000000
set_option maxRecDepth 100000

/-! ### impl_TableFault: function 18 -/
def impl_TableFault.l0 : Nat → List (S49) → List (S49) → Int → Int → Option (Int)
  | 0, _, _, _, _ => none
  | k + 1, x0, x9, x10, x11 => if x11 < x10 then (if 0 ≤ x11 then (if x11 < (x9.length : Int) then ((impl_RowFault.f k ((rd_T49 x9 x11).f0) ((rd_T49 x9 x11).f1) ((rd_T49 x9 x11).f2) ((rd_T49 x9 x11).f3)).bind fun t148 => (if t148 = 0 then (if x11 > 0 then (if 0 ≤ (wrap64 (x11 - 1)) then (if (wrap64 (x11 - 1)) < (x0.length : Int) then ((impl_compareRows.f k ((rd_T49 x0 (wrap64 (x11 - 1))).f0) ((rd_T49 x0 (wrap64 (x11 - 1))).f1) ((rd_T49 x0 (wrap64 (x11 - 1))).f2) ((rd_T49 x0 (wrap64 (x11 - 1))).f3) ((rd_T49 x9 x11).f0) ((rd_T49 x9 x11).f1) ((rd_T49 x9 x11).f2) ((rd_T49 x9 x11).f3)).bind fun t150 => (if t150 ≥ 0 then (some 1) else (impl_TableFault.l0 k x0 x9 x10 (wrap64 (x11 + 1))))) else (none)) else (none)) else (impl_TableFault.l0 k x0 x9 x10 (wrap64 (x11 + 1)))) else (some t148))) else (none)) else (none)) else (some 0)
def impl_TableFault.f (k : Nat) (l0 : List (S49)) : Option (Int) := if (l0.length : Int) > 200 then (some 2) else (impl_TableFault.l0 k l0 l0 (l0.length : Int) 0)
def impl_TableFault.T9 : Bool × List (List Nat × List Nat) := (true, [([], []), ([0], [0]), ([1], [1]), ([2], [2]), ([2], [2]), ([4, 2], [2, 4]), ([3, 5, 2], [2, 3, 5]), ([6, 2], [2, 6]), ([2], [2]), ([7, 8, 2, 2], [2, 7, 8]), ([9, 2], [2, 9]), ([2, 10], [2, 10])])
def impl_TableFault.B9 : List Nat := [0, 1, 3, 7, 7, 23, 63, 127, 7, 511, 1023, 2047]
theorem impl_TableFault.tab9 : rtab .any (opsOf Try.f18 9) = impl_TableFault.T9 := by kernel_rfl
theorem impl_TableFault.bits9 : waitsOk impl_TableFault.T9.2 impl_TableFault.B9 = true := by kernel_rfl
theorem impl_TableFault.calls (k : Nat) (A0 : Option Addr) (c0 : Nat) (l0 : List (S49)) (r : Int) (w : World) (hr0 : Kd.C k49 w A0 l0.length l0) (hc0 : l0.length ≤ c0) (h : impl_TableFault.f k l0 = some r) :
  Calls Try.prog 18 #[.slice A0 l0.length c0] w fun e w' => e = .returned (.int .i64 r) ∧ Below w.heap.size w w' := by
 have hu49 := Try.underlying49
 have HR0 := am hr0
 have HC0 := am hc0
 clear hr0 hc0
 have HB := am (Below.refl w.heap.size w)
 have H : (if (l0.length : Int) > 200 then (some 2) else (impl_TableFault.l0 k l0 l0 (l0.length : Int) 0)) = some r := h
 clear h
 by_cases c2 : (l0.length : Int) > 200
 ·rw [if_pos c2] at H
  have c2b0 := decide_eq_true c2
  have c2b1 : decide (200 < l0.length) = true := decide_eq_true (by omega)
  clear c2
  obtain rfl := Option.some.inj H
  go_enter Try.func18, Try.ntmps18
  go_wp2
  go_ret
  exact ⟨q_e, bq⟩
 ·rw [if_neg c2] at H
  have c2b0 := decide_eq_false c2
  have c2b1 : decide (200 < l0.length) = false := decide_eq_false (by omega)
  clear c2
  have H' := am H
  clear H
  go_enter Try.func18, Try.ntmps18
  go_wp2
  go_loopg [11] k (fun kq v11 w' => ∃ (x11_1 : Int), v11 = .int .i64 x11_1 ∧ Aside0 (impl_TableFault.l0 kq l0 l0 (l0.length : Int) x11_1 = some r) ∧ Aside0 (kq ≤ k) ∧ Aside0 (Below w.heap.size w w'))
  case atStart => exact ⟨(0), q_i, H', ⟨Nat.le_refl _⟩, ⟨bq⟩⟩
  case round =>
   clear H'
   (try clear c1); (try clear c2); (try clear c2b0); (try clear c2b1); (try clear p2)
   obtain ⟨x11_1, rfl, HA, HK1, HB⟩ := hrel
   cases gk with
   | zero => exact absurd HA.out (by simp [impl_TableFault.l0])
   | succ k1 =>
    have H := HA.out
    clear HA
    simp only [impl_TableFault.l0] at H
    by_cases c3 : x11_1 < (l0.length : Int)
    ·rw [if_pos c3] at H
     have c3b0 := decide_eq_true c3
     clear c3
     by_cases c4 : 0 ≤ x11_1
     ·rw [if_pos c4] at H
      have c4b0 := decide_eq_true c4
      clear c4
      by_cases c5 : x11_1 < (l0.length : Int)
      ·rw [if_pos c5] at H
       have c5b0 := decide_eq_true c5
       clear c5
       replace H := ob H
       obtain ⟨t148, A60, H⟩ := H
       replace H : (if t148 = 0 then (if x11_1 > 0 then (if 0 ≤ (wrap64 (x11_1 - 1)) then (if (wrap64 (x11_1 - 1)) < (l0.length : Int) then ((impl_compareRows.f k1 ((rd_T49 l0 (wrap64 (x11_1 - 1))).f0) ((rd_T49 l0 (wrap64 (x11_1 - 1))).f1) ((rd_T49 l0 (wrap64 (x11_1 - 1))).f2) ((rd_T49 l0 (wrap64 (x11_1 - 1))).f3) ((rd_T49 l0 x11_1).f0) ((rd_T49 l0 x11_1).f1) ((rd_T49 l0 x11_1).f2) ((rd_T49 l0 x11_1).f3)).bind fun t150 => (if t150 ≥ 0 then (some 1) else (impl_TableFault.l0 k1 l0 l0 (l0.length : Int) (wrap64 (x11_1 + 1))))) else (none)) else (none)) else (impl_TableFault.l0 k1 l0 l0 (l0.length : Int) (wrap64 (x11_1 + 1)))) else (some t148)) = some r := H
       have A6 := am A60
       clear A60
       by_cases c7 : t148 = 0
       ·rw [if_pos c7] at H
        have c7b0 : (t148 == 0) = true := beq_iff_eq.mpr c7
        have c7b1 : (t148 != 0) = false := bne_eq_false_iff_eq.mpr c7
        clear c7
        by_cases c8 : x11_1 > 0
        ·rw [if_pos c8] at H
         have c8b0 := decide_eq_true c8
         clear c8
         obtain ⟨ji9, hji9⟩ : ∃ j_ : Int, (wrap64 (x11_1 - 1)) = j_ := ⟨_, rfl⟩
         replace H : (if 0 ≤ (ji9) then (if (ji9) < (l0.length : Int) then ((impl_compareRows.f k1 ((rd_T49 l0 (ji9)).f0) ((rd_T49 l0 (ji9)).f1) ((rd_T49 l0 (ji9)).f2) ((rd_T49 l0 (ji9)).f3) ((rd_T49 l0 x11_1).f0) ((rd_T49 l0 x11_1).f1) ((rd_T49 l0 x11_1).f2) ((rd_T49 l0 x11_1).f3)).bind fun t150 => (if t150 ≥ 0 then (some 1) else (impl_TableFault.l0 k1 l0 l0 (l0.length : Int) (wrap64 (x11_1 + 1))))) else (none)) else (none)) = some r := by first | (rw [hji9] at H; exact H) | (simp only [hji9] at H ⊢; exact H)
         (try rw [hji9] at A6)
         have hji9w : (IntKind.i64.wrap (x11_1 - 1)) = ji9 := (i64_w _).trans hji9
         by_cases c10 : 0 ≤ (ji9)
         ·rw [if_pos c10] at H
          have c10b0 := decide_eq_true c10
          clear c10
          by_cases c11 : (ji9) < (l0.length : Int)
          ·rw [if_pos c11] at H
           have c11b0 := decide_eq_true c11
           clear c11
           replace H := ob H
           obtain ⟨t150, A120, H⟩ := H
           replace H : (if t150 ≥ 0 then (some 1) else (impl_TableFault.l0 k1 l0 l0 (l0.length : Int) (wrap64 (x11_1 + 1)))) = some r := H
           have A12 := am A120
           clear A120
           by_cases c13 : t150 ≥ 0
           ·rw [if_pos c13] at H
            have c13b0 := decide_eq_true c13
            clear c13
            obtain rfl := Option.some.inj H
            have p146 : 0 ≤ (x11_1 : Int) := q_d
            have q146 : x11_1 < (l0.length : Int) := q_d
            obtain ⟨ad146, e146, hx146_0, hx146_1, hx146_2, hx146_3⟩ := at_T49 HR0.out x11_1 p146 q146
            cases e146
            replace hx146_0 := q_x HB.out hx146_0
            replace hx146_1 := q_x HB.out hx146_1
            replace hx146_2 := q_x HB.out hx146_2
            replace hx146_3 := q_x HB.out hx146_3
            replace p146 := eq_true p146
            replace q146 := eq_true q146
            try go_wp2_with (first | ((with_reducible refine gate_dst (N := 4) rfl ?_); refine q_box (N := 4) (cs := #[.string (⟨#[]⟩ : ByteArray), .int .i64 0, .string (⟨#[]⟩ : ByteArray), .bool false]) (t := 49) ?_; intro gb147 hg w14 hbox hb; have n0_ := am (below_step bq hb); have n1_ := am (hbox); have n2_ := am ((q_g hg bq : w.heap.size ≤ gb147)); have n3_ := n2_; revert n0_ n1_ n2_ n3_; clear HB; intro HB BK147 GW147 GE147; clear hb hbox hg; obtain ⟨hcz15_0, hcz15_1, hcz15_2, hcz15_3, hfz15_0, hfz15_1, hfz15_2, hfz15_3⟩ := q_4 BK147.out) | ((with_reducible refine gate_callee (f := 66) rfl ?_); refine goesLq (some 17) rfl rfl Try.func66 (by kernel_rfl) rfl #[.agg #[.string ((rd_T49 l0 x11_1).f0), .int .i64 ((rd_T49 l0 x11_1).f1), .string ((rd_T49 l0 x11_1).f2), .bool ((rd_T49 l0 x11_1).f3)]] rfl ?_; (with_reducible refine (impl_RowFault.calls k1 ((rd_T49 l0 x11_1).f0) ((rd_T49 l0 x11_1).f1) ((rd_T49 l0 x11_1).f2) ((rd_T49 l0 x11_1).f3) t148 _ A6.out).mono ?_); rintro e w16 ⟨rfl, hb⟩; refine ⟨_, rfl, ?_⟩; have n0_ := am (blk_below (g := gb147) (o := .cells #[.string ((rd_T49 l0 x11_1).f0), .int .i64 ((rd_T49 l0 x11_1).f1), .string ((rd_T49 l0 x11_1).f2), .bool ((rd_T49 l0 x11_1).f3)] 49 (0, 0)) (by (with_reducible repeat (first | refine blk_drewN ?_ _ | refine blk_drew ?_ | refine blk_alloc ?_ _)); refine blk_put (cs := #[.string ((rd_T49 l0 x11_1).f0), .int .i64 ((rd_T49 l0 x11_1).f1), .string ((rd_T49 l0 x11_1).f2), .bool false]) ?_ 3 _ rfl; (with_reducible repeat (first | refine blk_drewN ?_ _ | refine blk_drew ?_ | refine blk_alloc ?_ _)); refine blk_put (cs := #[.string ((rd_T49 l0 x11_1).f0), .int .i64 ((rd_T49 l0 x11_1).f1), .string (⟨#[]⟩ : ByteArray), .bool false]) ?_ 2 _ rfl; (with_reducible repeat (first | refine blk_drewN ?_ _ | refine blk_drew ?_ | refine blk_alloc ?_ _)); refine blk_put (cs := #[.string ((rd_T49 l0 x11_1).f0), .int .i64 0, .string (⟨#[]⟩ : ByteArray), .bool false]) ?_ 1 _ rfl; (with_reducible repeat (first | refine blk_drewN ?_ _ | refine blk_drew ?_ | refine blk_alloc ?_ _)); refine blk_put (cs := #[.string (⟨#[]⟩ : ByteArray), .int .i64 0, .string (⟨#[]⟩ : ByteArray), .bool false]) ?_ 0 _ rfl; (with_reducible repeat (first | refine blk_drewN ?_ _ | refine blk_drew ?_ | refine blk_alloc ?_ _)); exact BK147.out) hb); have n1_ := am (below_step bq hb); revert n0_ n1_; clear BK147 HB; intro BK147 HB; (try clear hb); (try clear hb2); (try clear hk); (try clear hi)))
            have n0_ := am (blk_drew BK147.out)
            have n1_ := am (below_drew1 HB.out)
            clear BK147
            clear HB
            have BK147 := n0_
            have HB := n1_
            clear n0_ n1_
            have p149 : 0 ≤ ((ji9) : Int) := q_d
            have q149 : (ji9) < (l0.length : Int) := q_d
            obtain ⟨ad149, e149, hx149_0, hx149_1, hx149_2, hx149_3⟩ := at_T49 HR0.out (ji9) p149 q149
            have hw149_3 := hx149_3
            have hw149_2 := hx149_2
            have hw149_1 := hx149_1
            have hw149_0 := hx149_0
            obtain rfl : ad146 = ad149 := (by injection e149)
            replace hx149_0 := q_x HB.out hx149_0
            replace hx149_1 := q_x HB.out hx149_1
            replace hx149_2 := q_x HB.out hx149_2
            replace hx149_3 := q_x HB.out hx149_3
            replace p149 := eq_true p149
            replace q149 := eq_true q149
            refine start_ (n := 12) (S := fun w' => w'.cell? ⟨gb147, 0, none⟩ = some (.string ((rd_T49 l0 x11_1).f0)) ∧ w'.cell? ⟨gb147, 1, none⟩ = some (.int .i64 ((rd_T49 l0 x11_1).f1)) ∧ w'.cell? ⟨gb147, 2, none⟩ = some (.string ((rd_T49 l0 x11_1).f2)) ∧ w'.cell? ⟨gb147, 3, none⟩ = some (.bool ((rd_T49 l0 x11_1).f3)) ∧ w'.cell? (ad146.add (((ji9)).toNat * 4)) = some (.string ((rd_T49 l0 (ji9)).f0)) ∧ w'.cell? ⟨(ad146.add (((ji9)).toNat * 4)).block, (ad146.add (((ji9)).toNat * 4)).off + 1, none⟩ = some (.int .i64 ((rd_T49 l0 (ji9)).f1)) ∧ w'.cell? ⟨(ad146.add (((ji9)).toNat * 4)).block, (ad146.add (((ji9)).toNat * 4)).off + 2, none⟩ = some (.string ((rd_T49 l0 (ji9)).f2)) ∧ w'.cell? ⟨(ad146.add (((ji9)).toNat * 4)).block, (ad146.add (((ji9)).toNat * 4)).off + 3, none⟩ = some (.bool ((rd_T49 l0 (ji9)).f3))) (ds := []) #[false, false, false, false, false, false, false, false, false, false, false, false] (by kernel_rfl) rfl rfl ⟨q_z BK147.out 0, q_z BK147.out 1, q_z BK147.out 2, q_z BK147.out 3, ((HB.out.cell (wb hw149_0)).trans hw149_0), ((HB.out.cell (wb hw149_1)).trans hw149_1), ((HB.out.cell (wb hw149_2)).trans hw149_2), ((HB.out.cell (wb hw149_3)).trans hw149_3)⟩ (fun hHeld => ?_); refine with_tabW impl_TableFault.tab9 impl_TableFault.bits9 (fun HT_ HW_ => ?_)
            generalize w16.drew = w17 at BK147 HB hx149_0 hx149_1 hx149_2 hx149_3 hHeld ⊢
            refine q_p 0 (some 21) #[true, false, false, false, false, false, false, false, false, false, false, false] HT_.out ?_
            refine q_p 1 (some 22) #[true, true, false, false, false, false, false, false, false, false, false, false] HT_.out ?_
            refine q_p 2 (some 23) #[true, true, true, false, false, false, false, false, false, false, false, false] HT_.out ?_
            refine q_p 3 (some 24) #[true, true, true, true, false, false, false, false, false, false, false, false] HT_.out ?_
            refine q_p 4 (some 25) #[true, true, true, true, true, false, false, false, false, false, false, false] HT_.out ?_
            refine q_p 5 (some 26) #[true, true, true, true, true, true, false, false, false, false, false, false] HT_.out ?_
            refine q_p 6 (some 27) #[true, true, true, true, true, true, true, false, false, false, false, false] HT_.out ?_
            refine q_t 7 (some 28) #[true, true, true, true, true, true, true, true, false, false, false, false] HT_.out HW_.out hHeld ?_
            refine q_t 8 (some 29) #[true, true, true, true, true, true, true, true, true, false, false, false] HT_.out HW_.out hHeld ?_
            refine one_ (i := 9) (N := some 30) #[true, true, true, true, true, true, true, true, true, true, false, false] rfl rfl (one_of HT_.out (by kernel_rfl)) (by decide) (fun K hK => ?_)
            refine goes_ Try.func67 (by kernel_rfl) rfl #[.agg #[.string ((rd_T49 l0 (ji9)).f0), .int .i64 ((rd_T49 l0 (ji9)).f1), .string ((rd_T49 l0 (ji9)).f2), .bool ((rd_T49 l0 (ji9)).f3)], .agg #[.string ((rd_T49 l0 x11_1).f0), .int .i64 ((rd_T49 l0 x11_1).f1), .string ((rd_T49 l0 x11_1).f2), .bool ((rd_T49 l0 x11_1).f3)]] (by rfl) rfl rfl (by (try simp only [List.map_toArray, List.map_cons, List.map_nil]); first | done | (simp only [hji9]; rfl) | rfl | (simp only [List.length_drop, List.length_take]; rfl)) ?_
            with_reducible refine (impl_compareRows.calls k1 ((rd_T49 l0 (ji9)).f0) ((rd_T49 l0 (ji9)).f1) ((rd_T49 l0 (ji9)).f2) ((rd_T49 l0 (ji9)).f3) ((rd_T49 l0 x11_1).f0) ((rd_T49 l0 x11_1).f1) ((rd_T49 l0 x11_1).f2) ((rd_T49 l0 x11_1).f3) t150 _ A12.out).mono ?_
            rintro e w18 ⟨rfl, hb⟩
            refine ⟨_, rfl, ?_⟩
            have n0_ := am (blk_below (q_b BK147.out) hb)
            have n1_ := am (below_step bq hb)
            clear BK147
            clear HB
            have BK147 := n0_
            have HB := n1_
            clear n0_ n1_
            (try clear hb)
            (try clear hb2)
            (try clear hk)
            (try clear hi)
            refine hK.out _ _ ⟨q_z BK147.out 0, q_z BK147.out 1, q_z BK147.out 2, q_z BK147.out 3, ((HB.out.cell (wb hw149_0)).trans hw149_0), ((HB.out.cell (wb hw149_1)).trans hw149_1), ((HB.out.cell (wb hw149_2)).trans hw149_2), ((HB.out.cell (wb hw149_3)).trans hw149_3)⟩ (fun hHeld => ?_)
            clear hK K
            refine norm_ (a' := ?_) ?_ ?_
            rotate_left
            ·show Act.put _ (some 30) _ = _
             simp only [Act.put, List.setIfInBounds_toArray, List.set_cons_zero, List.set_cons_succ, i64_w, i32_w]
             rfl
            refine q_p 10 (some 31) #[true, true, true, true, true, true, true, true, true, true, true, false] HT_.out ?_
            refine q_p 11 (some 32) #[true, true, true, true, true, true, true, true, true, true, true, true] HT_.out ?_
            refine done_ (done_of HT_.out (by kernel_rfl)) ?_
            try go_wp2
            go_ret
            exact ⟨by first | rfl | (simp [errW_none, errW_some] <;> rfl) | (simp only [← hji9]; first | rfl | (simp [errW_none, errW_some] <;> rfl)) | (simp [*, errW_none, errW_some] <;> rfl), bq⟩
           ·rw [if_neg c13] at H
            have c13b0 := decide_eq_false c13
            clear c13
            have H' := am H
            clear H
            have p146 : 0 ≤ (x11_1 : Int) := q_d
            have q146 : x11_1 < (l0.length : Int) := q_d
            obtain ⟨ad146, e146, hx146_0, hx146_1, hx146_2, hx146_3⟩ := at_T49 HR0.out x11_1 p146 q146
            cases e146
            replace hx146_0 := q_x HB.out hx146_0
            replace hx146_1 := q_x HB.out hx146_1
            replace hx146_2 := q_x HB.out hx146_2
            replace hx146_3 := q_x HB.out hx146_3
            replace p146 := eq_true p146
            replace q146 := eq_true q146
            try go_wp2_with (first | ((with_reducible refine gate_dst (N := 4) rfl ?_); refine q_box (N := 4) (cs := #[.string (⟨#[]⟩ : ByteArray), .int .i64 0, .string (⟨#[]⟩ : ByteArray), .bool false]) (t := 49) ?_; intro gb147 hg w19 hbox hb; have n0_ := am (below_step bq hb); have n1_ := am (hbox); have n2_ := am ((q_g hg bq : w.heap.size ≤ gb147)); have n3_ := n2_; revert n0_ n1_ n2_ n3_; clear HB; intro HB BK147 GW147 GE147; clear hb hbox hg; obtain ⟨hcz20_0, hcz20_1, hcz20_2, hcz20_3, hfz20_0, hfz20_1, hfz20_2, hfz20_3⟩ := q_4 BK147.out) | ((with_reducible refine gate_callee (f := 66) rfl ?_); refine goesLq (some 17) rfl rfl Try.func66 (by kernel_rfl) rfl #[.agg #[.string ((rd_T49 l0 x11_1).f0), .int .i64 ((rd_T49 l0 x11_1).f1), .string ((rd_T49 l0 x11_1).f2), .bool ((rd_T49 l0 x11_1).f3)]] rfl ?_; (with_reducible refine (impl_RowFault.calls k1 ((rd_T49 l0 x11_1).f0) ((rd_T49 l0 x11_1).f1) ((rd_T49 l0 x11_1).f2) ((rd_T49 l0 x11_1).f3) t148 _ A6.out).mono ?_); rintro e w21 ⟨rfl, hb⟩; refine ⟨_, rfl, ?_⟩; have n0_ := am (blk_below (g := gb147) (o := .cells #[.string ((rd_T49 l0 x11_1).f0), .int .i64 ((rd_T49 l0 x11_1).f1), .string ((rd_T49 l0 x11_1).f2), .bool ((rd_T49 l0 x11_1).f3)] 49 (0, 0)) (by (with_reducible repeat (first | refine blk_drewN ?_ _ | refine blk_drew ?_ | refine blk_alloc ?_ _)); refine blk_put (cs := #[.string ((rd_T49 l0 x11_1).f0), .int .i64 ((rd_T49 l0 x11_1).f1), .string ((rd_T49 l0 x11_1).f2), .bool false]) ?_ 3 _ rfl; (with_reducible repeat (first | refine blk_drewN ?_ _ | refine blk_drew ?_ | refine blk_alloc ?_ _)); refine blk_put (cs := #[.string ((rd_T49 l0 x11_1).f0), .int .i64 ((rd_T49 l0 x11_1).f1), .string (⟨#[]⟩ : ByteArray), .bool false]) ?_ 2 _ rfl; (with_reducible repeat (first | refine blk_drewN ?_ _ | refine blk_drew ?_ | refine blk_alloc ?_ _)); refine blk_put (cs := #[.string ((rd_T49 l0 x11_1).f0), .int .i64 0, .string (⟨#[]⟩ : ByteArray), .bool false]) ?_ 1 _ rfl; (with_reducible repeat (first | refine blk_drewN ?_ _ | refine blk_drew ?_ | refine blk_alloc ?_ _)); refine blk_put (cs := #[.string (⟨#[]⟩ : ByteArray), .int .i64 0, .string (⟨#[]⟩ : ByteArray), .bool false]) ?_ 0 _ rfl; (with_reducible repeat (first | refine blk_drewN ?_ _ | refine blk_drew ?_ | refine blk_alloc ?_ _)); exact BK147.out) hb); have n1_ := am (below_step bq hb); revert n0_ n1_; clear BK147 HB; intro BK147 HB; (try clear hb); (try clear hb2); (try clear hk); (try clear hi)))
            have n0_ := am (blk_drew BK147.out)
            have n1_ := am (below_drew1 HB.out)
            clear BK147
            clear HB
            have BK147 := n0_
            have HB := n1_
            clear n0_ n1_
            have p149 : 0 ≤ ((ji9) : Int) := q_d
            have q149 : (ji9) < (l0.length : Int) := q_d
            obtain ⟨ad149, e149, hx149_0, hx149_1, hx149_2, hx149_3⟩ := at_T49 HR0.out (ji9) p149 q149
            have hw149_3 := hx149_3
            have hw149_2 := hx149_2
            have hw149_1 := hx149_1
            have hw149_0 := hx149_0
            obtain rfl : ad146 = ad149 := (by injection e149)
            replace hx149_0 := q_x HB.out hx149_0
            replace hx149_1 := q_x HB.out hx149_1
            replace hx149_2 := q_x HB.out hx149_2
            replace hx149_3 := q_x HB.out hx149_3
            replace p149 := eq_true p149
            replace q149 := eq_true q149
            refine start_ (n := 12) (S := fun w' => w'.cell? ⟨gb147, 0, none⟩ = some (.string ((rd_T49 l0 x11_1).f0)) ∧ w'.cell? ⟨gb147, 1, none⟩ = some (.int .i64 ((rd_T49 l0 x11_1).f1)) ∧ w'.cell? ⟨gb147, 2, none⟩ = some (.string ((rd_T49 l0 x11_1).f2)) ∧ w'.cell? ⟨gb147, 3, none⟩ = some (.bool ((rd_T49 l0 x11_1).f3)) ∧ w'.cell? (ad146.add (((ji9)).toNat * 4)) = some (.string ((rd_T49 l0 (ji9)).f0)) ∧ w'.cell? ⟨(ad146.add (((ji9)).toNat * 4)).block, (ad146.add (((ji9)).toNat * 4)).off + 1, none⟩ = some (.int .i64 ((rd_T49 l0 (ji9)).f1)) ∧ w'.cell? ⟨(ad146.add (((ji9)).toNat * 4)).block, (ad146.add (((ji9)).toNat * 4)).off + 2, none⟩ = some (.string ((rd_T49 l0 (ji9)).f2)) ∧ w'.cell? ⟨(ad146.add (((ji9)).toNat * 4)).block, (ad146.add (((ji9)).toNat * 4)).off + 3, none⟩ = some (.bool ((rd_T49 l0 (ji9)).f3))) (ds := []) #[false, false, false, false, false, false, false, false, false, false, false, false] (by kernel_rfl) rfl rfl ⟨q_z BK147.out 0, q_z BK147.out 1, q_z BK147.out 2, q_z BK147.out 3, ((HB.out.cell (wb hw149_0)).trans hw149_0), ((HB.out.cell (wb hw149_1)).trans hw149_1), ((HB.out.cell (wb hw149_2)).trans hw149_2), ((HB.out.cell (wb hw149_3)).trans hw149_3)⟩ (fun hHeld => ?_); refine with_tabW impl_TableFault.tab9 impl_TableFault.bits9 (fun HT_ HW_ => ?_)
            generalize w21.drew = w22 at BK147 HB hx149_0 hx149_1 hx149_2 hx149_3 hHeld ⊢
            refine q_p 0 (some 21) #[true, false, false, false, false, false, false, false, false, false, false, false] HT_.out ?_
            refine q_p 1 (some 22) #[true, true, false, false, false, false, false, false, false, false, false, false] HT_.out ?_
            refine q_p 2 (some 23) #[true, true, true, false, false, false, false, false, false, false, false, false] HT_.out ?_
            refine q_p 3 (some 24) #[true, true, true, true, false, false, false, false, false, false, false, false] HT_.out ?_
            refine q_p 4 (some 25) #[true, true, true, true, true, false, false, false, false, false, false, false] HT_.out ?_
            refine q_p 5 (some 26) #[true, true, true, true, true, true, false, false, false, false, false, false] HT_.out ?_
            refine q_p 6 (some 27) #[true, true, true, true, true, true, true, false, false, false, false, false] HT_.out ?_
            refine q_t 7 (some 28) #[true, true, true, true, true, true, true, true, false, false, false, false] HT_.out HW_.out hHeld ?_
            refine q_t 8 (some 29) #[true, true, true, true, true, true, true, true, true, false, false, false] HT_.out HW_.out hHeld ?_
            refine one_ (i := 9) (N := some 30) #[true, true, true, true, true, true, true, true, true, true, false, false] rfl rfl (one_of HT_.out (by kernel_rfl)) (by decide) (fun K hK => ?_)
            refine goes_ Try.func67 (by kernel_rfl) rfl #[.agg #[.string ((rd_T49 l0 (ji9)).f0), .int .i64 ((rd_T49 l0 (ji9)).f1), .string ((rd_T49 l0 (ji9)).f2), .bool ((rd_T49 l0 (ji9)).f3)], .agg #[.string ((rd_T49 l0 x11_1).f0), .int .i64 ((rd_T49 l0 x11_1).f1), .string ((rd_T49 l0 x11_1).f2), .bool ((rd_T49 l0 x11_1).f3)]] (by rfl) rfl rfl (by (try simp only [List.map_toArray, List.map_cons, List.map_nil]); first | done | (simp only [hji9]; rfl) | rfl | (simp only [List.length_drop, List.length_take]; rfl)) ?_
            with_reducible refine (impl_compareRows.calls k1 ((rd_T49 l0 (ji9)).f0) ((rd_T49 l0 (ji9)).f1) ((rd_T49 l0 (ji9)).f2) ((rd_T49 l0 (ji9)).f3) ((rd_T49 l0 x11_1).f0) ((rd_T49 l0 x11_1).f1) ((rd_T49 l0 x11_1).f2) ((rd_T49 l0 x11_1).f3) t150 _ A12.out).mono ?_
            rintro e w23 ⟨rfl, hb⟩
            refine ⟨_, rfl, ?_⟩
            have n0_ := am (blk_below (q_b BK147.out) hb)
            have n1_ := am (below_step bq hb)
            clear BK147
            clear HB
            have BK147 := n0_
            have HB := n1_
            clear n0_ n1_
            (try clear hb)
            (try clear hb2)
            (try clear hk)
            (try clear hi)
            refine hK.out _ _ ⟨q_z BK147.out 0, q_z BK147.out 1, q_z BK147.out 2, q_z BK147.out 3, ((HB.out.cell (wb hw149_0)).trans hw149_0), ((HB.out.cell (wb hw149_1)).trans hw149_1), ((HB.out.cell (wb hw149_2)).trans hw149_2), ((HB.out.cell (wb hw149_3)).trans hw149_3)⟩ (fun hHeld => ?_)
            clear hK K
            refine norm_ (a' := ?_) ?_ ?_
            rotate_left
            ·show Act.put _ (some 30) _ = _
             simp only [Act.put, List.setIfInBounds_toArray, List.set_cons_zero, List.set_cons_succ, i64_w, i32_w]
             rfl
            refine q_p 10 (some 31) #[true, true, true, true, true, true, true, true, true, true, true, false] HT_.out ?_
            refine q_p 11 (some 32) #[true, true, true, true, true, true, true, true, true, true, true, true] HT_.out ?_
            refine done_ (done_of HT_.out (by kernel_rfl)) ?_
            try go_wp2
            go_roundg k1
            case measure => have := HK1.out; omega
            case rel => exact ⟨(wrap64 (x11_1 + 1)), q_i, H', ⟨by have := HK1.out; omega⟩, ⟨bq⟩⟩
          ·rw [if_neg c11] at H
           exact absurd H (by simp)
         ·rw [if_neg c10] at H
          exact absurd H (by simp)
        ·rw [if_neg c8] at H
         have c8b0 := decide_eq_false c8
         clear c8
         have H' := am H
         clear H
         have p146 : 0 ≤ (x11_1 : Int) := q_d
         have q146 : x11_1 < (l0.length : Int) := q_d
         obtain ⟨ad146, e146, hx146_0, hx146_1, hx146_2, hx146_3⟩ := at_T49 HR0.out x11_1 p146 q146
         cases e146
         replace hx146_0 := q_x HB.out hx146_0
         replace hx146_1 := q_x HB.out hx146_1
         replace hx146_2 := q_x HB.out hx146_2
         replace hx146_3 := q_x HB.out hx146_3
         replace p146 := eq_true p146
         replace q146 := eq_true q146
         try go_wp2_with (first | ((with_reducible refine gate_dst (N := 4) rfl ?_); refine q_box (N := 4) (cs := #[.string (⟨#[]⟩ : ByteArray), .int .i64 0, .string (⟨#[]⟩ : ByteArray), .bool false]) (t := 49) ?_; intro gb147 hg w24 hbox hb; have n0_ := am (below_step bq hb); have n1_ := am (hbox); have n2_ := am ((q_g hg bq : w.heap.size ≤ gb147)); have n3_ := n2_; revert n0_ n1_ n2_ n3_; clear HB; intro HB BK147 GW147 GE147; clear hb hbox hg; obtain ⟨hcz25_0, hcz25_1, hcz25_2, hcz25_3, hfz25_0, hfz25_1, hfz25_2, hfz25_3⟩ := q_4 BK147.out) | ((with_reducible refine gate_callee (f := 66) rfl ?_); refine goesLq (some 17) rfl rfl Try.func66 (by kernel_rfl) rfl #[.agg #[.string ((rd_T49 l0 x11_1).f0), .int .i64 ((rd_T49 l0 x11_1).f1), .string ((rd_T49 l0 x11_1).f2), .bool ((rd_T49 l0 x11_1).f3)]] rfl ?_; (with_reducible refine (impl_RowFault.calls k1 ((rd_T49 l0 x11_1).f0) ((rd_T49 l0 x11_1).f1) ((rd_T49 l0 x11_1).f2) ((rd_T49 l0 x11_1).f3) t148 _ A6.out).mono ?_); rintro e w26 ⟨rfl, hb⟩; refine ⟨_, rfl, ?_⟩; have n0_ := am (blk_below (g := gb147) (o := .cells #[.string ((rd_T49 l0 x11_1).f0), .int .i64 ((rd_T49 l0 x11_1).f1), .string ((rd_T49 l0 x11_1).f2), .bool ((rd_T49 l0 x11_1).f3)] 49 (0, 0)) (by (with_reducible repeat (first | refine blk_drewN ?_ _ | refine blk_drew ?_ | refine blk_alloc ?_ _)); refine blk_put (cs := #[.string ((rd_T49 l0 x11_1).f0), .int .i64 ((rd_T49 l0 x11_1).f1), .string ((rd_T49 l0 x11_1).f2), .bool false]) ?_ 3 _ rfl; (with_reducible repeat (first | refine blk_drewN ?_ _ | refine blk_drew ?_ | refine blk_alloc ?_ _)); refine blk_put (cs := #[.string ((rd_T49 l0 x11_1).f0), .int .i64 ((rd_T49 l0 x11_1).f1), .string (⟨#[]⟩ : ByteArray), .bool false]) ?_ 2 _ rfl; (with_reducible repeat (first | refine blk_drewN ?_ _ | refine blk_drew ?_ | refine blk_alloc ?_ _)); refine blk_put (cs := #[.string ((rd_T49 l0 x11_1).f0), .int .i64 0, .string (⟨#[]⟩ : ByteArray), .bool false]) ?_ 1 _ rfl; (with_reducible repeat (first | refine blk_drewN ?_ _ | refine blk_drew ?_ | refine blk_alloc ?_ _)); refine blk_put (cs := #[.string (⟨#[]⟩ : ByteArray), .int .i64 0, .string (⟨#[]⟩ : ByteArray), .bool false]) ?_ 0 _ rfl; (with_reducible repeat (first | refine blk_drewN ?_ _ | refine blk_drew ?_ | refine blk_alloc ?_ _)); exact BK147.out) hb); have n1_ := am (below_step bq hb); revert n0_ n1_; clear BK147 HB; intro BK147 HB; (try clear hb); (try clear hb2); (try clear hk); (try clear hi)))
         have n0_ := am (blk_drew BK147.out)
         have n1_ := am (below_drew1 HB.out)
         clear BK147
         clear HB
         have BK147 := n0_
         have HB := n1_
         clear n0_ n1_
         refine start_ (n := 12) (S := fun w' => True) (ds := []) #[false, false, false, false, false, false, false, false, false, false, false, false] (by kernel_rfl) rfl rfl trivial (fun hHeld => ?_); refine with_tabW impl_TableFault.tab9 impl_TableFault.bits9 (fun HT_ HW_ => ?_)
         generalize w26.drew = w27 at BK147 HB hHeld ⊢
         refine q_p 0 (some 21) #[true, false, false, false, false, false, false, false, false, false, false, false] HT_.out ?_
         refine q_p 1 (some 22) #[true, true, false, false, false, false, false, false, false, false, false, false] HT_.out ?_
         refine q_p 2 (some 23) #[true, true, true, false, false, false, false, false, false, false, false, false] HT_.out ?_
         refine pure_ (i := 3) (N := some 24) (v := undef) (a' := ?_) #[true, true, true, true, false, false, false, false, false, false, false, false] rfl rfl (any_of HT_.out (by kernel_rfl)) (fun _ _ _ h => h) (Or.inr ⟨by rfl, rfl⟩) ?_ ?_
         rotate_left
         ·simp only [Act.put, List.setIfInBounds_toArray, List.set_cons_zero, List.set_cons_succ, i64_w, i32_w]
          rfl
         refine pure_ (i := 4) (N := some 25) (v := undef) (a' := ?_) #[true, true, true, true, true, false, false, false, false, false, false, false] rfl rfl (any_of HT_.out (by kernel_rfl)) (fun _ _ _ h => h) (Or.inr ⟨by rfl, rfl⟩) ?_ ?_
         rotate_left
         ·simp only [Act.put, List.setIfInBounds_toArray, List.set_cons_zero, List.set_cons_succ, i64_w, i32_w]
          rfl
         refine pure_ (i := 5) (N := some 26) (v := undef) (a' := ?_) #[true, true, true, true, true, true, false, false, false, false, false, false] rfl rfl (any_of HT_.out (by kernel_rfl)) (fun _ _ _ h => h) (Or.inr ⟨by rfl, rfl⟩) ?_ ?_
         rotate_left
         ·simp only [Act.put, List.setIfInBounds_toArray, List.set_cons_zero, List.set_cons_succ, i64_w, i32_w]
          rfl
         refine pure_ (i := 6) (N := some 27) (v := undef) (a' := ?_) #[true, true, true, true, true, true, true, false, false, false, false, false] rfl rfl (any_of HT_.out (by kernel_rfl)) (fun _ _ _ h => h) (Or.inr ⟨by rfl, rfl⟩) ?_ ?_
         rotate_left
         ·simp only [Act.put, List.setIfInBounds_toArray, List.set_cons_zero, List.set_cons_succ, i64_w, i32_w]
          rfl
         refine pure_ (i := 7) (N := some 28) (v := undef) (a' := ?_) #[true, true, true, true, true, true, true, true, false, false, false, false] rfl rfl (any_of HT_.out (by kernel_rfl)) (fun _ _ _ h => h) (Or.inr ⟨by rfl, rfl⟩) ?_ ?_
         rotate_left
         ·simp only [Act.put, List.setIfInBounds_toArray, List.set_cons_zero, List.set_cons_succ, i64_w, i32_w]
          rfl
         refine pure_ (i := 8) (N := some 29) (v := undef) (a' := ?_) #[true, true, true, true, true, true, true, true, true, false, false, false] rfl rfl (any_of HT_.out (by kernel_rfl)) (fun _ _ _ h => h) (Or.inr ⟨by rfl, rfl⟩) ?_ ?_
         rotate_left
         ·simp only [Act.put, List.setIfInBounds_toArray, List.set_cons_zero, List.set_cons_succ, i64_w, i32_w]
          rfl
         refine pure_ (i := 9) (N := some 30) (v := undef) (a' := ?_) #[true, true, true, true, true, true, true, true, true, true, false, false] rfl rfl (any_of HT_.out (by kernel_rfl)) (fun _ _ _ h => h) (Or.inr ⟨by rfl, rfl⟩) ?_ ?_
         rotate_left
         ·simp only [Act.put, List.setIfInBounds_toArray, List.set_cons_zero, List.set_cons_succ, i64_w, i32_w]
          rfl
         refine pure_ (i := 10) (N := some 31) (v := undef) (a' := ?_) #[true, true, true, true, true, true, true, true, true, true, true, false] rfl rfl (any_of HT_.out (by kernel_rfl)) (fun _ _ _ h => h) (Or.inr ⟨by rfl, rfl⟩) ?_ ?_
         rotate_left
         ·simp only [Act.put, List.setIfInBounds_toArray, List.set_cons_zero, List.set_cons_succ, i64_w, i32_w]
          rfl
         refine q_p 11 (some 32) #[true, true, true, true, true, true, true, true, true, true, true, true] HT_.out ?_
         refine done_ (done_of HT_.out (by kernel_rfl)) ?_
         try go_wp2
         go_roundg k1
         case measure => have := HK1.out; omega
         case rel => exact ⟨(wrap64 (x11_1 + 1)), q_i, H', ⟨by have := HK1.out; omega⟩, ⟨bq⟩⟩
       ·rw [if_neg c7] at H
        have c7b0 : (t148 == 0) = false := beq_eq_false_iff_ne.mpr c7
        have c7b1 : (t148 != 0) = true := bne_iff_ne.mpr c7
        obtain rfl := Option.some.inj H
        have p146 : 0 ≤ (x11_1 : Int) := q_d
        have q146 : x11_1 < (l0.length : Int) := q_d
        obtain ⟨ad146, e146, hx146_0, hx146_1, hx146_2, hx146_3⟩ := at_T49 HR0.out x11_1 p146 q146
        cases e146
        replace hx146_0 := q_x HB.out hx146_0
        replace hx146_1 := q_x HB.out hx146_1
        replace hx146_2 := q_x HB.out hx146_2
        replace hx146_3 := q_x HB.out hx146_3
        replace p146 := eq_true p146
        replace q146 := eq_true q146
        go_wp2_with (first | ((with_reducible refine gate_dst (N := 4) rfl ?_); refine q_box (N := 4) (cs := #[.string (⟨#[]⟩ : ByteArray), .int .i64 0, .string (⟨#[]⟩ : ByteArray), .bool false]) (t := 49) ?_; intro gb147 hg w28 hbox hb; have n0_ := am (below_step bq hb); have n1_ := am (hbox); have n2_ := am ((q_g hg bq : w.heap.size ≤ gb147)); have n3_ := n2_; revert n0_ n1_ n2_ n3_; clear HB; intro HB BK147 GW147 GE147; clear hb hbox hg; obtain ⟨hcz29_0, hcz29_1, hcz29_2, hcz29_3, hfz29_0, hfz29_1, hfz29_2, hfz29_3⟩ := q_4 BK147.out) | ((with_reducible refine gate_callee (f := 66) rfl ?_); refine goesLq (some 17) rfl rfl Try.func66 (by kernel_rfl) rfl #[.agg #[.string ((rd_T49 l0 x11_1).f0), .int .i64 ((rd_T49 l0 x11_1).f1), .string ((rd_T49 l0 x11_1).f2), .bool ((rd_T49 l0 x11_1).f3)]] rfl ?_; (with_reducible refine (impl_RowFault.calls k1 ((rd_T49 l0 x11_1).f0) ((rd_T49 l0 x11_1).f1) ((rd_T49 l0 x11_1).f2) ((rd_T49 l0 x11_1).f3) t148 _ A6.out).mono ?_); rintro e w30 ⟨rfl, hb⟩; refine ⟨_, rfl, ?_⟩; have n0_ := am (blk_below (g := gb147) (o := .cells #[.string ((rd_T49 l0 x11_1).f0), .int .i64 ((rd_T49 l0 x11_1).f1), .string ((rd_T49 l0 x11_1).f2), .bool ((rd_T49 l0 x11_1).f3)] 49 (0, 0)) (by (with_reducible repeat (first | refine blk_drewN ?_ _ | refine blk_drew ?_ | refine blk_alloc ?_ _)); refine blk_put (cs := #[.string ((rd_T49 l0 x11_1).f0), .int .i64 ((rd_T49 l0 x11_1).f1), .string ((rd_T49 l0 x11_1).f2), .bool false]) ?_ 3 _ rfl; (with_reducible repeat (first | refine blk_drewN ?_ _ | refine blk_drew ?_ | refine blk_alloc ?_ _)); refine blk_put (cs := #[.string ((rd_T49 l0 x11_1).f0), .int .i64 ((rd_T49 l0 x11_1).f1), .string (⟨#[]⟩ : ByteArray), .bool false]) ?_ 2 _ rfl; (with_reducible repeat (first | refine blk_drewN ?_ _ | refine blk_drew ?_ | refine blk_alloc ?_ _)); refine blk_put (cs := #[.string ((rd_T49 l0 x11_1).f0), .int .i64 0, .string (⟨#[]⟩ : ByteArray), .bool false]) ?_ 1 _ rfl; (with_reducible repeat (first | refine blk_drewN ?_ _ | refine blk_drew ?_ | refine blk_alloc ?_ _)); refine blk_put (cs := #[.string (⟨#[]⟩ : ByteArray), .int .i64 0, .string (⟨#[]⟩ : ByteArray), .bool false]) ?_ 0 _ rfl; (with_reducible repeat (first | refine blk_drewN ?_ _ | refine blk_drew ?_ | refine blk_alloc ?_ _)); exact BK147.out) hb); have n1_ := am (below_step bq hb); revert n0_ n1_; clear BK147 HB; intro BK147 HB; (try clear hb); (try clear hb2); (try clear hk); (try clear hi)))
        go_ret
        exact ⟨q_e, bq⟩
      ·rw [if_neg c5] at H
       exact absurd H (by simp)
     ·rw [if_neg c4] at H
      exact absurd H (by simp)
    ·rw [if_neg c3] at H
     have c3b0 := decide_eq_false c3
     clear c3
     obtain rfl := Option.some.inj H
     go_wp2
     go_ret
     exact ⟨q_e, bq⟩

/-! ### slices_Grow_impl_Row: function 134 -/
def slices_Grow_impl_Row.f (a0 : Int) : Option (List (S49)) := if 0 ≤ a0 ∧ a0 < 2932031007402 then some [] else none
theorem slices_Grow_impl_Row.calls (a0 : Int) (r : List (S49)) (w : World) (h : slices_Grow_impl_Row.f a0 = some r) :
  Calls Try.prog 134 #[.slice none 0 0, .int .i64 a0] w fun e w' => ∃ v0_ : Value, e = .returned (v0_) ∧ Kd.R k49 49 w' w.heap.size (fun _ => True) v0_ r ∧ Below w.heap.size w w' := by
 unfold slices_Grow_impl_Row.f at h
 by_cases hb : 0 ≤ a0 ∧ a0 < 2932031007402
 ·rw [if_pos hb] at h
  obtain rfl := Option.some.inj h
  obtain ⟨h0, h1⟩ := hb
  clear h
  by_cases hz : a0 = 0
  ·subst hz
   clear h0 h1
   go_enter Try.func134, Try.ntmps134
   go_wp2
   go_ret
   exact ⟨_, rfl, Kd.R_nil _ _ _ _ _, by repeat (first | exact Below.refl _ _ | apply below_drew1)⟩
  ·have hp : 0 < a0 := by omega
   clear hz
   have HB := am (Below.refl w.heap.size w)
   obtain ⟨y, hy⟩ : ∃ y_ : List (S49), y_ = ([] ++ List.replicate (a0 : Int).toNat z49) := ⟨_, rfl⟩
   have Ny := am hy
   clear hy
   obtain ⟨i0, hi0, _, hsz, _⟩ := info_parts info49
   go_enter Try.func134, Try.ntmps134
   go_wp2_with (first | (at_builtin; refine Kd.R_append_zeros k49 (w0 := w) w.heap.size rfl (.tmp 20) (.tmp 21) 25 3 49 (.agg #[(.string ⟨#[]⟩), (.int .i64 0), (.string ⟨#[]⟩), (.bool false)]) 48 rfl Try.underlying25 Try.underlying3 info49 rfl (by decide) (by omega) (.slice none 0 0) [] z49 (a0 : Int) (fun _ => True) rfl rfl (k49_mkM _ _ _ z49) ?aF ?aO h0 ?aB ?aS ?aL ?_; (case aF => exact fun _ _ => trivial); (case aO => exact Kd.R_nil _ _ _ _ _); (case aB => exact HB.out); (case aS => exact Nat.le_refl _); (case aL => simp; omega); intro v1 w1 ho hb hg hat; clear hg hat; rw [← Ny.out] at ho; obtain ⟨Ao, co, eo⟩ := Kd.R_slice ho; subst eo; have HO := am ho; have HB1 := am hb; clear ho hb; have hcut := cut_to (P := Try.prog) 25 49 .i64 Try.underlying25 hi0 Ao y.length co 0 (by omega) (by omega) (Kd.R_reads' HO.out).2.1; simp only [Int.toNat_zero] at hcut))
   go_ret
   exact ⟨_, rfl, q_r (Kd.R_take (m := 0) HO.out (by omega)), by repeat (first | exact HB1.out | apply below_drew1)⟩
 ·rw [if_neg hb] at h
  exact absurd h (by simp)

/-! ### slices_Concat_impl_Row: function 125 -/
mutual
def slices_Concat_impl_Row.l0 : Nat → List (List (S49)) → Int → List (List (S49)) → Int → Int → Option ((List (S49)))
  | 0, _, _, _, _, _ => none
  | k + 1, x0, x3, x9, x10, x11 => if x11 < x10 then (if 0 ≤ x11 then (if x11 < (x9.length : Int) then (if (wrap64 (x3 + ((rd_L5 x9 x11).length : Int))) < 0 then (none) else (slices_Concat_impl_Row.l0 k x0 (wrap64 (x3 + ((rd_L5 x9 x11).length : Int))) x9 x10 (wrap64 (x11 + 1)))) else (none)) else (none)) else ((slices_Grow_impl_Row.f x3).bind fun t152 => (slices_Concat_impl_Row.l1 k t152 x0 (x0.length : Int) 0))
def slices_Concat_impl_Row.l1 : Nat → List (S49) → List (List (S49)) → Int → Int → Option ((List (S49)))
  | 0, _, _, _, _ => none
  | k + 1, x6, x25, x26, x27 => if x27 < x26 then (if 0 ≤ x27 then (if x27 < (x25.length : Int) then (if x6.length + (rd_L5 x25 x27).length < 2932031007402 then (slices_Concat_impl_Row.l1 k (x6 ++ (rd_L5 x25 x27)) x25 x26 (wrap64 (x27 + 1))) else (none)) else (none)) else (none)) else (some x6)
end
def slices_Concat_impl_Row.f (k : Nat) (l0 : List (List (S49))) : Option ((List (S49))) := slices_Concat_impl_Row.l0 k l0 0 l0 (l0.length : Int) 0
theorem slices_Concat_impl_Row.calls (k : Nat) (A0 : Option Addr) (c0 : Nat) (l0 : List (List (S49))) (r : List (S49)) (w : World) (hr0 : Kd.C (Kd.slice 49 k49) w A0 l0.length l0) (hc0 : l0.length ≤ c0) (h : slices_Concat_impl_Row.f k l0 = some r) :
  Calls Try.prog 125 #[.slice A0 l0.length c0] w fun e w' => ∃ v0_ : Value, e = .returned (v0_) ∧ Kd.R k49 49 w' w.heap.size (fun _ => True) v0_ r ∧ Below w.heap.size w w' := by
 have HR0 := am hr0
 have HC0 := am hc0
 clear hr0 hc0
 have HB := am (Below.refl w.heap.size w)
 have H : (slices_Concat_impl_Row.l0 k l0 0 l0 (l0.length : Int) 0) = some r := h
 clear h
 have H' := am H
 clear H
 go_enter Try.func125, Try.ntmps125
 go_wp2
 go_loopg [3, 11] k (fun kq v3 v11 w' => ∃ (x3_1 : Int) (x11_1 : Int), v3 = .int .i64 x3_1 ∧ v11 = .int .i64 x11_1 ∧ Aside0 (slices_Concat_impl_Row.l0 kq l0 x3_1 l0 (l0.length : Int) x11_1 = some r) ∧ Aside0 (kq ≤ k) ∧ Aside0 (Below w.heap.size w w'))
 case atStart => exact ⟨(0), (0), q_i, q_i, H', ⟨Nat.le_refl _⟩, ⟨bq⟩⟩
 case round =>
  clear H'
  (try clear c1)
  obtain ⟨x3_1, x11_1, rfl, rfl, HA, HK1, HB⟩ := hrel
  cases gk with
  | zero => exact absurd HA.out (by simp [slices_Concat_impl_Row.l0])
  | succ k1 =>
   have H := HA.out
   clear HA
   simp only [slices_Concat_impl_Row.l0] at H
   by_cases c2 : x11_1 < (l0.length : Int)
   ·rw [if_pos c2] at H
    have c2b0 := decide_eq_true c2
    clear c2
    by_cases c3 : 0 ≤ x11_1
    ·rw [if_pos c3] at H
     have c3b0 := decide_eq_true c3
     clear c3
     by_cases c4 : x11_1 < (l0.length : Int)
     ·rw [if_pos c4] at H
      have c4b0 := decide_eq_true c4
      clear c4
      by_cases c5 : (wrap64 (x3_1 + ((rd_L5 l0 x11_1).length : Int))) < 0
      ·rw [if_pos c5] at H
       exact absurd H (by simp)
      ·rw [if_neg c5] at H
       have c5b0 := decide_eq_false c5
       clear c5
       have H' := am H
       clear H
       have p151 : 0 ≤ (x11_1 : Int) := q_d
       have q151 : x11_1 < (l0.length : Int) := q_d
       obtain ⟨ad151, A151_0, c151_0, e151, hx151_0, hl151_0, hi151_0⟩ := at_L5 HR0.out x11_1 p151 q151
       cases e151
       replace hx151_0 := q_x HB.out hx151_0
       have HR151_0 := am hi151_0
       have HC151_0 := am hl151_0
       clear hi151_0 hl151_0
       replace p151 := eq_true p151
       replace q151 := eq_true q151
       go_wp2
       go_roundg k1
       case measure => have := HK1.out; omega
       case rel => exact ⟨(wrap64 (x3_1 + ((rd_L5 l0 x11_1).length : Int))), (wrap64 (x11_1 + 1)), q_i, q_i, H', ⟨by have := HK1.out; omega⟩, ⟨bq⟩⟩
     ·rw [if_neg c4] at H
      exact absurd H (by simp)
    ·rw [if_neg c3] at H
     exact absurd H (by simp)
   ·rw [if_neg c2] at H
    have c2b0 := decide_eq_false c2
    clear c2
    replace H := ob H
    obtain ⟨t152, A60, H⟩ := H
    replace H : (slices_Concat_impl_Row.l1 k1 t152 l0 (l0.length : Int) 0) = some r := H
    have A6 := am A60
    clear A60
    have H' := am H
    clear H
    go_wp2_with (first | ((with_reducible refine gate_callee (f := 134) rfl ?_); refine goesLq (some 24) rfl rfl Try.func134 (by kernel_rfl) rfl #[.slice none 0 0, .int .i64 x3_1] rfl ?_; (with_reducible refine (slices_Grow_impl_Row.calls x3_1 t152 _ A6.out).mono ?_); rintro e w7 ⟨v153, rfl, ho0, hb⟩; refine ⟨_, rfl, ?_⟩; have n0_ := am (Kd.R_lower ho0 (below_size bq)); have n1_ := am (below_step bq hb); revert n0_ n1_; clear HB; intro HO154 HB; (try clear hb); (try clear hb2); (try clear hk); (try clear hi); (try clear ho0)))
    go_loopg [6, 27] k1 (fun kq v6 v27 w' => ∃ (x6_2 : List (S49)) (x27_2 : Int), v27 = .int .i64 x27_2 ∧ Aside0 (slices_Concat_impl_Row.l1 kq x6_2 l0 (l0.length : Int) x27_2 = some r) ∧ Aside0 (kq ≤ k1) ∧ Aside0 (Kd.R k49 49 w' w.heap.size (fun _ => True) v6 x6_2) ∧ Aside0 (Below w.heap.size w w'))
    case atStart => exact ⟨(t152), (0), q_i, H', ⟨Nat.le_refl _⟩, ⟨q_r (HO154.out)⟩, ⟨bq⟩⟩
    case round =>
     clear H'
     (try clear c1); (try clear p1); (try clear q1); (try clear hx1); (try clear c2); (try clear c2b0); (try clear p2); (try clear c3); (try clear c3b0); (try clear c4); (try clear c4b0); (try clear c5)
     (try clear c5b0); (try clear p6); (try clear hx151_0); (try clear p151); (try clear q151)
     obtain ⟨x6_2, x27_2, rfl, HA, HK2, HO_6, HB⟩ := hrel
     cases gk with
     | zero => exact absurd HA.out (by simp [slices_Concat_impl_Row.l1])
     | succ k2 =>
      have H := HA.out
      clear HA
      simp only [slices_Concat_impl_Row.l1] at H
      by_cases c8 : x27_2 < (l0.length : Int)
      ·rw [if_pos c8] at H
       have c8b0 := decide_eq_true c8
       clear c8
       by_cases c9 : 0 ≤ x27_2
       ·rw [if_pos c9] at H
        have c9b0 := decide_eq_true c9
        clear c9
        by_cases c10 : x27_2 < (l0.length : Int)
        ·rw [if_pos c10] at H
         have c10b0 := decide_eq_true c10
         clear c10
         by_cases c11 : x6_2.length + (rd_L5 l0 x27_2).length < 2932031007402
         ·rw [if_pos c11] at H
          have LMc11 := am c11
          clear c11
          obtain ⟨y156, hy156⟩ : ∃ y_ : List (S49), y_ = (x6_2 ++ (rd_L5 l0 x27_2)) := ⟨_, rfl⟩
          replace H : (slices_Concat_impl_Row.l1 k2 y156 l0 (l0.length : Int) (wrap64 (x27_2 + 1))) = some r := q_h hy156 H
          have Ny156 := am hy156
          clear hy156
          have H' := am H
          clear H
          have p155 : 0 ≤ (x27_2 : Int) := q_d
          have q155 : x27_2 < (l0.length : Int) := q_d
          obtain ⟨ad155, A155_0, c155_0, e155, hx155_0, hl155_0, hi155_0⟩ := at_L5 HR0.out x27_2 p155 q155
          cases e155
          replace hx155_0 := q_x HB.out hx155_0
          have HR155_0 := am hi155_0
          have HC155_0 := am hl155_0
          clear hi155_0 hl155_0
          replace p155 := eq_true p155
          replace q155 := eq_true q155
          go_wp2_with (first | ((with_reducible refine gate_builtin (b := .append) (xs := #[.tmp 31, .tmp 32]) rfl ?_); at_builtin; refine Kd.R_append_rows k49 (w0 := w) w.heap.size rfl (.tmp 31) (.tmp 32) 25 49 (.agg #[(.string ⟨#[]⟩), (.int .i64 0), (.string ⟨#[]⟩), (.bool false)]) 48 rfl Try.underlying25 info49 rfl (by decide) (by omega) u6 x6_2 (rd_L5 l0 x27_2) _ _ _ (fun _ => True) (fun _ => False) rfl rfl ?aO ?aR (fun _ _ h => h) (fun _ h => h.elim) ?aF ?aB ?aS ?aL ?_; (case aR => repeat (first | exact (Kd.C_below HR155_0.out HB.out) | (with_reducible refine Kd.C_alloc ?_ _) | (with_reducible refine Kd.C_drewN ?_ _) | (with_reducible refine Kd.C_drew ?_))); (case aB => exact bq); (case aF => exact (fun _ _ => trivial)); (case aO => exact (q_r (HO_6.out))); (case aS => exact (below_size bq)); (case aL => have := LMc11.out; omega); intro v157 w12 ho hb hg hat; rw [← Ny156.out] at ho; have n0_ := am (hb); have n1_ := am (ho); revert n0_ n1_; clear HB HO_6; intro HB HO158; clear ho hb hg hat))
          go_roundg k2
          case measure => have := HK1.out; have := HK2.out; omega
          case rel => exact ⟨(y156), (wrap64 (x27_2 + 1)), q_i, H', ⟨by have := HK1.out; have := HK2.out; omega⟩, ⟨q_r (HO158.out)⟩, ⟨bq⟩⟩
         ·rw [if_neg c11] at H
          exact absurd H (by simp)
        ·rw [if_neg c10] at H
         exact absurd H (by simp)
       ·rw [if_neg c9] at H
        exact absurd H (by simp)
      ·rw [if_neg c8] at H
       have c8b0 := decide_eq_false c8
       clear c8
       obtain rfl := Option.some.inj H
       go_wp2
       go_ret
       exact ⟨_, q_e, q_r (HO_6.out), bq⟩

end Go.Proofs.Ytdhlcnlcpjlliaa.PFnExactMergeTables
