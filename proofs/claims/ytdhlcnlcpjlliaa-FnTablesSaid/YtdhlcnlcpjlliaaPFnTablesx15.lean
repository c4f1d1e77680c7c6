/- Functions that a law reaches, as plain Lean functions, with the proof that the machine comes to their answers. No conditions. -/
import Derived.Test.YtdhlcnlcpjlliaaPFnTablesx0
import Derived.Test.YtdhlcnlcpjlliaaPFnTablesx1
import Derived.Test.YtdhlcnlcpjlliaaPFnTablesx3
import Derived.Test.YtdhlcnlcpjlliaaPFnTablesx6
import Derived.Test.YtdhlcnlcpjlliaaPFnTablesx12
import Derived.Test.YtdhlcnlcpjlliaaPFnTablesx14
namespace Go.Proofs.Ytdhlcnlcpjlliaa.PFnTables
open Go.RowKit Go.Proofs.YtdhlcnlcpjlliaaW.PrintWords Go.Proofs.YtdhlcnlcpjlliaaW.PrintLast Go.Proofs.YtdhlcnlcpjlliaaW.PrintMore
attribute [local go_sem] max2_int min2_int max_two min_two max_three min_three max_four min_four   -- for this text's walks alone
set_option linter.unusedVariables false
set_option linter.unusedSimpArgs false
set_option maxHeartbeats 8000000
set_option maxRecDepth 100000
theorem q_P {P : Program} {ops : Array Oper} {Q : Exit → Act → World → Prop} {md : Region.Mode} {S : World → Prop} {ds : List Nat} {T : Bool × List (List Nat × List Nat)} (i : Nat) (N : Option Tmp) {oi : Oper} {v : Value} {fuel : Nat} {l : Array Bool} {a : Act} {w : World} (l' : Array Bool) (hT : rtab md ops = T) {a' : Act}
    (h : wpAnyLast P md ops Q S ds fuel l' a' w) (hi : ops[i]? = some oi := by rfl) (hN : oi.dst = N := by rfl) (hc : anyT T l.toList l'.toList i = true := by kernel_rfl) (hQ : ∀ c a w, Q (.panic c) (a.put oi.dst v) w → Q (.panic c) a w := by exact fun _ _ _ h => h)
    (hy : Yields P ops oi v a := by refine Or.inl ⟨by rfl, ?_⟩; intro w'; go_simp; (try (simp only [Instr.field, asAgg]; go_simp)); with_reducible rfl) (ha : a.put N v = a' := by simp only [Act.put, List.setIfInBounds_toArray, List.set_cons_zero, List.set_cons_succ, i64_w, i32_w]; rfl) : wpAnyLast P md ops Q S ds (fuel + 1) l a w := pure_ l' hi hN (any_of hT hc) hQ hy ha h

attribute [local go_sem high] eqA49
/-! ### laws_FnTables: function 13 -/
mutual
def laws_FnTables.l0 : Nat → List (List (S49)) → Int → Int → List (S49) → Option (Bool)
  | 0, _, _, _, _ => none
  | k + 1, x3, x5, x388000, x388001 => if x5 ≥ 0 then (laws_FnTables.l1 k x3 x5 0 x388000 x388001) else ((spec_MergeTables.f k x3).bind fun bt396 => (some ((x388001.length : Int) == (bt396.2.length : Int))))
def laws_FnTables.l1 : Nat → List (List (S49)) → Int → Int → Int → List (S49) → Option (Bool)
  | 0, _, _, _, _, _ => none
  | k + 1, x3, x5, x6, x388000, x388001 => if 0 ≤ x5 then (if x5 < (x3.length : Int) then (if x6 < ((rd_L5 x3 x5).length : Int) then (if 0 ≤ x6 then (laws_FnTables.l2 k x3 x5 x6 false 0 x388000 x388001 ((rd_T49 (rd_L5 x3 x5) x6).f0) ((rd_T49 (rd_L5 x3 x5) x6).f1) ((rd_T49 (rd_L5 x3 x5) x6).f2) ((rd_T49 (rd_L5 x3 x5) x6).f3)) else (none)) else (laws_FnTables.l0 k x3 (wrap64 (x5 - 1)) x388000 x388001)) else (none)) else (none)
def laws_FnTables.l2 : Nat → List (List (S49)) → Int → Int → Bool → Int → Int → List (S49) → ByteArray → Int → ByteArray → Bool → Option (Bool)
  | 0, _, _, _, _, _, _, _, _, _, _, _ => none
  | k + 1, x3, x5, x6, x8, x9, x388000, x388001, x393000, x393001, x393002, x393003 => if x9 < (x388001.length : Int) then (if x8 = true then (laws_FnTables.l2 k x3 x5 x6 true (wrap64 (x9 + 1)) x388000 x388001 x393000 x393001 x393002 x393003) else (if 0 ≤ x9 then (if ((rd_T49 x388001 x9).f0).toList = x393000.toList then (if ((rd_T49 x388001 x9).f1) = x393001 then (if x5 > 0 then (laws_FnTables.l2 k x3 x5 x6 true (wrap64 (x9 + 1)) x388000 x388001 x393000 x393001 x393002 x393003) else (laws_FnTables.l2 k x3 x5 x6 ((((rd_T49 x388001 x9).f0).toList) == x393000.toList && (((rd_T49 x388001 x9).f1) == x393001 && ((((rd_T49 x388001 x9).f2).toList) == x393002.toList && (((rd_T49 x388001 x9).f3) == x393003)))) (wrap64 (x9 + 1)) x388000 x388001 x393000 x393001 x393002 x393003)) else (laws_FnTables.l2 k x3 x5 x6 false (wrap64 (x9 + 1)) x388000 x388001 x393000 x393001 x393002 x393003)) else (laws_FnTables.l2 k x3 x5 x6 false (wrap64 (x9 + 1)) x388000 x388001 x393000 x393001 x393002 x393003)) else (none))) else (if x8 = true then (laws_FnTables.l1 k x3 x5 (wrap64 (x6 + 1)) x388000 x388001) else (none))
end
def laws_FnTables.f (k : Nat) (l0 : List Int) : Option (Bool) := (laws_lwBig.f l0).bind fun t379 => (if t379 = true then (some true) else ((spec_DrawMergeTables.f k l0).bind fun t380 => ((impl_MergeTables.f k t380).bind fun bt383 => (if bt383.1 = 0 then ((impl_TableFault.f k bt383.2).bind fun t388 => (if t388 = 0 then (laws_FnTables.l0 k t380 (wrap64 ((t380.length : Int) - 1)) bt383.1 bt383.2) else (none))) else ((spec_MergeTables.f k t380).bind fun bt400 => (some (bt400.1 == bt383.1)))))))
def laws_FnTables.T20 : Bool × List (List Nat × List Nat) := (true, [([], []), ([0], [0]), ([1], [1]), ([2, 1], [1, 2]), ([1], [1]), ([3, 4, 1], [1, 3, 4]), ([5, 1], [1, 5]), ([6, 1], [1, 6]), ([1], [1]), ([8, 1], [1, 8]), ([7, 9, 1], [1, 7, 9]), ([10, 1, 1], [1, 10]), ([11], [11]), ([12, 11], [11, 12]), ([11], [11]), ([13, 14, 11], [11, 13, 14]), ([15, 11], [11, 15]), ([16, 11], [11, 16]), ([11], [11]), ([18, 11], [11, 18]), ([17, 19, 11], [11, 17, 19]), ([11, 20, 1], [1, 11, 20]), ([21, 11, 1], [1, 21]), ([22], [22]), ([23, 22], [22, 23]), ([24, 22, 22], [22, 24]), ([25], [25]), ([26, 25], [25, 26]), ([25], [25]), ([27, 28, 25], [25, 27, 28]), ([29, 25], [25, 29]), ([25], [25]), ([30, 31, 25], [25, 30, 31]), ([25, 32, 22], [22, 25, 32]), ([22, 33, 1], [1, 22, 33]), ([1, 34], [1, 34]), ([35, 25, 0, 1, 2, 3, 4, 5, 6, 7, 8, 9, 10, 11, 12, 13, 14, 15, 16, 17, 18, 19, 20, 21, 22, 23, 24, 25, 26, 27, 28, 29, 30, 31, 32, 33, 34, 35], [0, 35])])
def laws_FnTables.B20 : List Nat := [0, 1, 3, 7, 3, 31, 63, 127, 3, 259, 1023, 2047, 4095, 8191, 4095, 32767, 65535, 131071, 4095, 266239, 1048575, 2097151, 4194303, 8388607, 16777215, 33554431, 67108863, 134217727, 67108863, 536870911, 1073741823, 67108863, 4294967295, 8589934591, 17179869183, 34359738367, 68719476735]
theorem laws_FnTables.tab20 : rtab .any (opsOf Try.f13 20) = laws_FnTables.T20 := by kernel_rfl
theorem laws_FnTables.bits20 : waitsOk laws_FnTables.T20.2 laws_FnTables.B20 = true := by kernel_rfl
def laws_FnTables.T23 : Bool × List (List Nat × List Nat) := (true, [([], []), ([0], [0]), ([1], [1]), ([], []), ([3], [3]), ([4], [4]), ([5], [5]), ([2, 6], [2, 6]), ([7, 4, 0, 1, 2, 3, 4, 5, 6, 7], [7])])
def laws_FnTables.B23 : List Nat := [0, 1, 3, 0, 8, 24, 56, 127, 255]
theorem laws_FnTables.tab23 : rtab .any (opsOf Try.f13 23) = laws_FnTables.T23 := by kernel_rfl
theorem laws_FnTables.bits23 : waitsOk laws_FnTables.T23.2 laws_FnTables.B23 = true := by kernel_rfl
attribute [local go_sem] Instr.field asAgg
theorem laws_FnTables.calls (k : Nat) (A0 : Option Addr) (c0 : Nat) (l0 : List Int) (r : Bool) (w : World) (hr0 : Kd.C (Kd.int .u8) w A0 l0.length l0) (hc0 : l0.length ≤ c0) (h : laws_FnTables.f k l0 = some r) :
  Calls Try.prog 13 #[.slice A0 l0.length c0] w fun e w' => e = .returned (.bool r) ∧ Below w.heap.size w w' := by
 have hu46 := Try.underlying46
 have hu49 := Try.underlying49
 have HR0 := am hr0
 have HC0 := am hc0
 clear hr0 hc0
 have HB := am (Below.refl w.heap.size w)
 have H : ((laws_lwBig.f l0).bind fun t379 => (if t379 = true then (some true) else ((spec_DrawMergeTables.f k l0).bind fun t380 => ((impl_MergeTables.f k t380).bind fun bt383 => (if bt383.1 = 0 then ((impl_TableFault.f k bt383.2).bind fun t388 => (if t388 = 0 then (laws_FnTables.l0 k t380 (wrap64 ((t380.length : Int) - 1)) bt383.1 bt383.2) else (none))) else ((spec_MergeTables.f k t380).bind fun bt400 => (some (bt400.1 == bt383.1)))))))) = some r := h
 clear h
 replace H := ob H
 obtain ⟨t379, A20, H⟩ := H
 replace H : (if t379 = true then (some true) else ((spec_DrawMergeTables.f k l0).bind fun t380 => ((impl_MergeTables.f k t380).bind fun bt383 => (if bt383.1 = 0 then ((impl_TableFault.f k bt383.2).bind fun t388 => (if t388 = 0 then (laws_FnTables.l0 k t380 (wrap64 ((t380.length : Int) - 1)) bt383.1 bt383.2) else (none))) else ((spec_MergeTables.f k t380).bind fun bt400 => (some (bt400.1 == bt383.1))))))) = some r := H
 have A2 := am A20
 clear A20
 by_cases c3 : t379 = true
 ·subst c3
  have H1 : (some true) = some r := by rw [if_pos rfl] at H; exact H
  clear H
  have H := H1
  clear H1
  obtain rfl := Option.some.inj H
  go_enter Try.func13, Try.ntmps13
  go_wp2_with (first | ((with_reducible refine gate_callee (f := 28) rfl ?_); refine goesLq (some 11) rfl rfl Try.func28 (by kernel_rfl) rfl #[.slice A0 l0.length c0] rfl ?_; (with_reducible refine (laws_lwBig.calls _ _ l0 true _ ?side1 ?side2 A2.out).mono ?_); (case side1 => exact q_c (HR0.out)); (case side2 => exact HC0.out); rintro e w' ⟨rfl, ⟨nd, rfl⟩⟩; refine ⟨_, rfl, ?_⟩))
  go_ret
  exact ⟨q_e, bq⟩
 ·replace c3 := Bool.eq_false_iff.mpr c3
  subst c3
  have H1 : ((spec_DrawMergeTables.f k l0).bind fun t380 => ((impl_MergeTables.f k t380).bind fun bt383 => (if bt383.1 = 0 then ((impl_TableFault.f k bt383.2).bind fun t388 => (if t388 = 0 then (laws_FnTables.l0 k t380 (wrap64 ((t380.length : Int) - 1)) bt383.1 bt383.2) else (none))) else ((spec_MergeTables.f k t380).bind fun bt400 => (some (bt400.1 == bt383.1)))))) = some r := by rw [if_neg (show ¬ (false = true) by decide)] at H; exact H
  clear H
  have H := H1
  clear H1
  replace H := ob H
  obtain ⟨t380, A40, H⟩ := H
  replace H : ((impl_MergeTables.f k t380).bind fun bt383 => (if bt383.1 = 0 then ((impl_TableFault.f k bt383.2).bind fun t388 => (if t388 = 0 then (laws_FnTables.l0 k t380 (wrap64 ((t380.length : Int) - 1)) bt383.1 bt383.2) else (none))) else ((spec_MergeTables.f k t380).bind fun bt400 => (some (bt400.1 == bt383.1))))) = some r := H
  have A4 := am A40
  clear A40
  replace H := ob H
  obtain ⟨⟨t383, t384⟩, A50, H⟩ := H
  replace H : (if t383 = 0 then ((impl_TableFault.f k t384).bind fun t388 => (if t388 = 0 then (laws_FnTables.l0 k t380 (wrap64 ((t380.length : Int) - 1)) t383 t384) else (none))) else ((spec_MergeTables.f k t380).bind fun bt400 => (some (bt400.1 == t383)))) = some r := H
  have A5 := am A50
  clear A50
  by_cases c6 : t383 = 0
  ·rw [if_pos c6] at H
   have c6b0 : (t383 == 0) = true := beq_iff_eq.mpr c6
   have c6b1 : (t383 != 0) = false := bne_eq_false_iff_eq.mpr c6
   clear c6
   replace H := ob H
   obtain ⟨t388, A70, H⟩ := H
   replace H : (if t388 = 0 then (laws_FnTables.l0 k t380 (wrap64 ((t380.length : Int) - 1)) t383 t384) else (none)) = some r := H
   have A7 := am A70
   clear A70
   by_cases c8 : t388 = 0
   ·rw [if_pos c8] at H
    have c8b0 : (t388 == 0) = true := beq_iff_eq.mpr c8
    have c8b1 : (t388 != 0) = false := bne_eq_false_iff_eq.mpr c8
    clear c8
    have H' := am H
    clear H
    go_enter Try.func13, Try.ntmps13
    go_wp2_with (first | ((with_reducible refine gate_callee (f := 28) rfl ?_); refine goesLq (some 11) rfl rfl Try.func28 (by kernel_rfl) rfl #[.slice A0 l0.length c0] rfl ?_; (with_reducible refine (laws_lwBig.calls _ _ l0 false _ ?side1 ?side2 A2.out).mono ?_); (case side1 => exact q_c (HR0.out)); (case side2 => exact HC0.out); rintro e w' ⟨rfl, ⟨nd, rfl⟩⟩; refine ⟨_, rfl, ?_⟩) | ((with_reducible refine gate_callee (f := 55) rfl ?_); refine goesLq (some 13) rfl rfl Try.func55 (by kernel_rfl) rfl #[.slice A0 l0.length c0] rfl ?_; (with_reducible refine (spec_DrawMergeTables.calls k _ _ l0 t380 _ ?side1 ?side2 A4.out).mono ?_); (case side1 => exact q_c (HR0.out)); (case side2 => exact HC0.out); rintro e w9 ⟨v381, rfl, ho0, hb⟩; refine ⟨_, rfl, ?_⟩; have n0_ := am (Kd.S_lower ho0 (below_size bq)); have n1_ := am (below_step bq hb); revert n0_ n1_; clear HB; intro HO382 HB; (try clear hb); (try clear hb2); (try clear hk); (try clear hi); (try clear ho0); obtain ⟨Ao10, co10, eo10⟩ := Kd.S_slice HO382.out; subst eo10) | ((with_reducible refine gate_callee (f := 56) rfl ?_); refine goesLq (some 15) rfl rfl Try.func56 (by kernel_rfl) rfl #[.slice Ao10 t380.length co10] rfl ?_; (with_reducible refine (impl_MergeTables.calls k _ _ t380 t383 t384 _ ?side1 ?side2 A5.out).mono ?_); (case side1 => exact q_c ((Kd.S_reads' HO382.out).2.2)); (case side2 => exact (Kd.S_reads' HO382.out).2.1); rintro e w11 ⟨v385, rfl, ho0, hb⟩; refine ⟨_, rfl, ?_⟩; have n0_ := am (Kd.S_elder' (q_s (HO382.out)) (Kd.R_base ho0) hb); have n1_ := am (Kd.R_lower ho0 (below_size bq)); have n2_ := am (below_step bq hb); revert n0_ n1_ n2_; clear HO382 HB; intro HO382 HO386 HB; (try clear hb); (try clear hb2); (try clear hk); (try clear hi); (try clear ho0)) | ((with_reducible refine gate_dst (N := 4) rfl ?_); refine q_box (N := 4) (cs := #[.int .i64 0, .slice none 0 0]) (t := 46) ?_; intro gb387 hg w12 hbox hb; have n0_ := am (Kd.S_below (q_s (HO382.out)) hb); have n1_ := am (Kd.R_below (q_r (HO386.out)) hb); have n2_ := am (below_step bq hb); have n3_ := am (hbox); have n4_ := am ((q_g hg bq : w.heap.size ≤ gb387)); have n5_ := n4_; revert n0_ n1_ n2_ n3_ n4_ n5_; clear HO382 HO386 HB; intro HO382 HO386 HB BK387 GW387 GE387; clear hb hbox hg; obtain ⟨hcz13_0, hcz13_1, hfz13_0, hfz13_1⟩ := q_2 BK387.out; obtain ⟨Ao14, co14, eo14⟩ := Kd.R_slice HO386.out; subst eo14) | ((with_reducible refine gate_callee (f := 18) rfl ?_); refine goesLq (some 27) rfl rfl Try.func18 (by kernel_rfl) rfl #[.slice Ao14 t384.length co14] rfl ?_; (with_reducible refine (impl_TableFault.calls k _ _ t384 t388 _ ?side1 ?side2 A7.out).mono ?_); (case side1 => refine (Kd.R_reads' (e := 49) (base := w.heap.size) (ok := fun k_ => True) (n := t384.length) (c := co14) ?_).2.2; exact (by (with_reducible repeat (first | apply Kd.R_alloc | apply Kd.R_drewN | apply Kd.R_drew)); exact (Kd.R_mono (Kd.R_far (p := ⟨gb387, 1, none⟩) (Kd.R_far (p := ⟨gb387, 0, none⟩) (Kd.R_types HO386.out BK387.out (by decide)) (fun _ hk => hk.2) (.int .i64 t383)) (fun _ hk => hk.2) (.slice Ao14 t384.length co14)) (fun _ h_ => h_.1)))); (case side2 => exact (Kd.R_reads' HO386.out).2.1); rintro e w15 ⟨rfl, hb⟩; refine ⟨_, rfl, ?_⟩; have n0_ := am (Kd.S_below (by (with_reducible repeat (first | apply Kd.S_alloc | apply Kd.S_drewN | apply Kd.S_drew)); exact (Kd.S_mono (Kd.S_far (p := ⟨gb387, 1, none⟩) (Kd.S_far (p := ⟨gb387, 0, none⟩) (Kd.S_types HO382.out BK387.out (by decide)) (fun _ hk => hk.2) (.int .i64 t383)) (fun _ hk => hk.2) (.slice Ao14 t384.length co14)) (fun _ h_ => h_.1))) hb); have n1_ := am (Kd.R_below (by (with_reducible repeat (first | apply Kd.R_alloc | apply Kd.R_drewN | apply Kd.R_drew)); exact (Kd.R_mono (Kd.R_far (p := ⟨gb387, 1, none⟩) (Kd.R_far (p := ⟨gb387, 0, none⟩) (Kd.R_types HO386.out BK387.out (by decide)) (fun _ hk => hk.2) (.int .i64 t383)) (fun _ hk => hk.2) (.slice Ao14 t384.length co14)) (fun _ h_ => h_.1))) hb); have n2_ := am (blk_below (g := gb387) (o := .cells #[.int .i64 t383, .slice Ao14 t384.length co14] 46 (0, 0)) (by (with_reducible repeat (first | refine blk_drewN ?_ _ | refine blk_drew ?_ | refine blk_alloc ?_ _)); refine blk_put (cs := #[.int .i64 t383, .slice none 0 0]) ?_ 1 _ rfl; (with_reducible repeat (first | refine blk_drewN ?_ _ | refine blk_drew ?_ | refine blk_alloc ?_ _)); refine blk_put (cs := #[.int .i64 0, .slice none 0 0]) ?_ 0 _ rfl; (with_reducible repeat (first | refine blk_drewN ?_ _ | refine blk_drew ?_ | refine blk_alloc ?_ _)); exact BK387.out) hb); have n3_ := am (below_step bq hb); revert n0_ n1_ n2_ n3_; clear HO382 HO386 BK387 HB; intro HO382 HO386 BK387 HB; (try clear hb); (try clear hb2); (try clear hk); (try clear hi)))
    go_loopg [5] k (fun kq v5 w' => ∃ (x5_1 : Int), v5 = .int .i64 x5_1 ∧ Aside0 (laws_FnTables.l0 kq t380 x5_1 t383 t384 = some r) ∧ Aside0 (kq ≤ k) ∧ Aside0 (Kd.S (Kd.slice 49 k49) 25 w' w.heap.size (fun k_ => some k_ ≠ ((.slice Ao14 t384.length co14) : Value).ownBlock) (.slice Ao10 t380.length co10) t380) ∧ Aside0 (Kd.R k49 49 w' w.heap.size (fun _ => True) (.slice Ao14 t384.length co14) t384) ∧ Aside0 (w'.heap[gb387]? = some (.cells #[.int .i64 t383, (.slice Ao14 t384.length co14)] 46 (0, 0))) ∧ Aside0 (Below w.heap.size w w'))
    case atStart => exact ⟨(wrap64 ((t380.length : Int) - 1)), q_i, H', ⟨Nat.le_refl _⟩, ⟨q_s (Kd.S_mono HO382.out (fun _ hk => hk.2))⟩, ⟨q_r (HO386.out)⟩, ⟨q_b BK387.out⟩, ⟨bq⟩⟩
    case round =>
     clear H'
     (try clear c1); (try clear c2); (try clear p2); (try clear c3); (try clear c5); (try clear c6); (try clear c6b0); (try clear c6b1); (try clear p6); (try clear c8); (try clear c8b0); (try clear c8b1)
     (try clear c13); (try clear hcz13_0); (try clear hcz13_1); (try clear hfz13_0); (try clear hfz13_1)
     obtain ⟨x5_1, rfl, HA, HK1, HO_3, HO_388001, BK387, HB⟩ := hrel
     cases gk with
     | zero => exact absurd HA.out (by simp [laws_FnTables.l0])
     | succ k1 =>
      have H := HA.out
      clear HA
      simp only [laws_FnTables.l0] at H
      by_cases c16 : x5_1 ≥ 0
      ·rw [if_pos c16] at H
       have c16b0 := decide_eq_true c16
       clear c16
       have H' := am H
       clear H
       go_wp2
       go_loopg [6] k1 (fun kq v6 w' => ∃ (x6_2 : Int), v6 = .int .i64 x6_2 ∧ Aside0 (laws_FnTables.l1 kq t380 x5_1 x6_2 t383 t384 = some r) ∧ Aside0 (kq ≤ k1) ∧ Aside0 (Kd.S (Kd.slice 49 k49) 25 w' w.heap.size (fun k_ => some k_ ≠ ((.slice Ao14 t384.length co14) : Value).ownBlock) (.slice Ao10 t380.length co10) t380) ∧ Aside0 (Kd.R k49 49 w' w.heap.size (fun _ => True) (.slice Ao14 t384.length co14) t384) ∧ Aside0 (w'.heap[gb387]? = some (.cells #[.int .i64 t383, (.slice Ao14 t384.length co14)] 46 (0, 0))) ∧ Aside0 (Below w.heap.size w w'))
       case atStart => exact ⟨(0), q_i, H', ⟨Nat.le_refl _⟩, ⟨q_s (HO_3.out)⟩, ⟨q_r (HO_388001.out)⟩, ⟨q_b BK387.out⟩, ⟨bq⟩⟩
       case round =>
        clear H'
        (try clear c1); (try clear c2); (try clear p2); (try clear c3); (try clear c5); (try clear c6); (try clear c6b0); (try clear c6b1); (try clear p6); (try clear c8); (try clear c8b0); (try clear c8b1)
        (try clear c13); (try clear c16); (try clear c16b0); (try clear hcz13_0); (try clear hcz13_1); (try clear hfz13_0); (try clear hfz13_1); (try clear p2); (try clear p6)
        obtain ⟨x6_2, rfl, HA, HK2, HO_3, HO_388001, BK387, HB⟩ := hrel
        cases gk with
        | zero => exact absurd HA.out (by simp [laws_FnTables.l1])
        | succ k2 =>
         have H := HA.out
         clear HA
         simp only [laws_FnTables.l1] at H
         by_cases c17 : 0 ≤ x5_1
         ·rw [if_pos c17] at H
          have c17b0 := decide_eq_true c17
          clear c17
          by_cases c18 : x5_1 < (t380.length : Int)
          ·rw [if_pos c18] at H
           have c18b0 := decide_eq_true c18
           clear c18
           by_cases c19 : x6_2 < ((rd_L5 t380 x5_1).length : Int)
           ·rw [if_pos c19] at H
            have c19b0 := decide_eq_true c19
            clear c19
            by_cases c20 : 0 ≤ x6_2
            ·rw [if_pos c20] at H
             have c20b0 := decide_eq_true c20
             clear c20
             have H' := am H
             clear H
             have p389 : 0 ≤ (x5_1 : Int) := q_d
             have q389 : x5_1 < (t380.length : Int) := q_d
             obtain ⟨ad389, A389_0, c389_0, e389, hx389_0, hl389_0, hi389_0⟩ := at_L5 (Kd.S_reads' HO_3.out).2.2 x5_1 p389 q389
             cases e389
             obtain ⟨ce389, hce389, hMe389, hcc389⟩ := Kd.S_get HO_3.out [] x5_1 p389 (by first | exact q389 | exact q_d | (have e_ := (Kd.S_reads' HO_3.out).1; omega))
             obtain ⟨ve389_0, rfl, ge389_0⟩ := hMe389
             have hv389_0 := hcc389 0 _ rfl
             rw [Nat.add_zero, show ((Kd.slice 49 k49)).sz = 1 from rfl, Nat.mul_one] at hv389_0
             replace hv389_0 := Option.some.inj (hv389_0.symm.trans hx389_0)
             rw [hv389_0] at ge389_0
             have HL389_0 := am (show Kd.R k49 49 _ _ _ _ (rd_L5 t380 x5_1) from ge389_0)
             clear hv389_0 ge389_0
             clear hcc389 hce389
             have HR389_0 := am hi389_0
             have HC389_0 := am hl389_0
             clear hi389_0 hl389_0
             replace p389 := eq_true p389
             replace q389 := eq_true q389
             have p390 : 0 ≤ (x5_1 : Int) := q_d
             have q390 : x5_1 < (t380.length : Int) := q_d
             obtain ⟨ad390, A390_0, c390_0, e390, hx390_0, hl390_0, hi390_0⟩ := at_L5 (Kd.S_reads' HO_3.out).2.2 x5_1 p390 q390
             obtain rfl : ad389 = ad390 := (by injection e390)
             obtain ⟨ce390, hce390, hMe390, hcc390⟩ := Kd.S_get HO_3.out [] x5_1 p390 (by first | exact q390 | exact q_d | (have e_ := (Kd.S_reads' HO_3.out).1; omega))
             obtain ⟨ve390_0, rfl, ge390_0⟩ := hMe390
             have hv390_0 := hcc390 0 _ rfl
             rw [Nat.add_zero, show ((Kd.slice 49 k49)).sz = 1 from rfl, Nat.mul_one] at hv390_0
             replace hv390_0 := Option.some.inj (hv390_0.symm.trans hx390_0)
             rw [hv390_0] at ge390_0
             have HL390_0 := am (show Kd.R k49 49 _ _ _ _ (rd_L5 t380 x5_1) from ge390_0)
             clear hv390_0 ge390_0
             clear hcc390 hce390
             have HR390_0 := am hi390_0
             have HC390_0 := am hl390_0
             clear hi390_0 hl390_0
             replace p390 := eq_true p390
             replace q390 := eq_true q390
             have ea_ := Option.some.inj (hx389_0.symm.trans hx390_0)
             injection ea_ with ea_ en_ ec_
             subst ea_
             subst ec_
             clear en_
             have p391 : 0 ≤ (x6_2 : Int) := q_d
             have q391 : x6_2 < ((rd_L5 t380 x5_1).length : Int) := q_d
             obtain ⟨ad391, e391, hx391_0, hx391_1, hx391_2, hx391_3⟩ := at_T49 (by repeat (first | (with_reducible exact HR390_0.out) | (with_reducible refine Kd.C_alloc ?_ _) | (with_reducible refine Kd.C_drewN ?_ _) | (with_reducible refine Kd.C_drew ?_) | exact HR390_0.out)) x6_2 p391 q391
             cases e391
             replace p391 := eq_true p391
             replace q391 := eq_true q391
             go_wp2_with (first | ((with_reducible refine gate_dst (N := 7) rfl ?_); refine q_box (N := 7) (cs := #[.string (⟨#[]⟩ : ByteArray), .int .i64 0, .string (⟨#[]⟩ : ByteArray), .bool false]) (t := 49) ?_; intro gb392 hg w21 hbox hb; have n0_ := am (Kd.S_below (Kd.S_elderB (q_s (HO_3.out)) gb392 (Nat.le_of_eq hg.symm)) hb); have n1_ := am (Kd.R_below (Kd.R_elderB (q_r (HO_388001.out)) gb392 (Nat.le_of_eq hg.symm)) hb); have n2_ := am (Kd.R_below (Kd.R_elderB (q_r (HL389_0.out)) gb392 (Nat.le_of_eq hg.symm)) hb); have n3_ := am (Kd.R_below (Kd.R_elderB (q_r (HL390_0.out)) gb392 (Nat.le_of_eq hg.symm)) hb); have n4_ := am (blk_below (q_b BK387.out) hb); have n5_ := am (Kd.C_below (by repeat (first | (with_reducible exact HR389_0.out) | (with_reducible refine Kd.C_alloc ?_ _) | (with_reducible refine Kd.C_drewN ?_ _) | (with_reducible refine Kd.C_drew ?_) | exact HR389_0.out)) hb); have n6_ := am (Kd.C_below (by repeat (first | (with_reducible exact HR390_0.out) | (with_reducible refine Kd.C_alloc ?_ _) | (with_reducible refine Kd.C_drewN ?_ _) | (with_reducible refine Kd.C_drew ?_) | exact HR390_0.out)) hb); have n7_ := am (below_step bq hb); have n8_ := am (hbox); have n9_ := am ((q_g hg bq : w.heap.size ≤ gb392)); have n10_ := n9_; have n11_ := am ((q_n hg (q_b BK387.out) : gb387 ≠ gb392)); have n12_ := am n11_.out.symm; revert n0_ n1_ n2_ n3_ n4_ n5_ n6_ n7_ n8_ n9_ n10_ n11_ n12_; clear HO_3 HO_388001 HL389_0 HL390_0 BK387 HR389_0 HR390_0 HB; intro HO_3 HO_388001 HL389_0 HL390_0 BK387 HR389_0 HR390_0 HB BK392 GW392 GE392 NB387_392 NB392_387; clear hb hbox hg; have hnb22 := NB392_387.out; have hnc22 := NB387_392.out; obtain ⟨hcz23_0, hcz23_1, hcz23_2, hcz23_3, hfz23_0, hfz23_1, hfz23_2, hfz23_3⟩ := q_4 BK392.out))
             go_loopg [8, 9] k2 (fun kq v8 v9 w' => ∃ (x8_3 : Bool) (x9_3 : Int), v8 = .bool x8_3 ∧ v9 = .int .i64 x9_3 ∧ Aside0 (laws_FnTables.l2 kq t380 x5_1 x6_2 x8_3 x9_3 t383 t384 ((rd_T49 (rd_L5 t380 x5_1) x6_2).f0) ((rd_T49 (rd_L5 t380 x5_1) x6_2).f1) ((rd_T49 (rd_L5 t380 x5_1) x6_2).f2) ((rd_T49 (rd_L5 t380 x5_1) x6_2).f3) = some r) ∧ Aside0 (kq ≤ k2) ∧ Aside0 (Kd.S (Kd.slice 49 k49) 25 w' w.heap.size (fun k_ => some k_ ≠ ((.slice Ao14 t384.length co14) : Value).ownBlock ∧ k_ ≠ gb392) (.slice (some ad389) t380.length co10) t380) ∧ Aside0 (Kd.R k49 49 w' w.heap.size (fun k_ => k_ ≠ gb392) (.slice Ao14 t384.length co14) t384) ∧ Aside0 (w'.heap[gb387]? = some (.cells #[.int .i64 t383, (.slice Ao14 t384.length co14)] 46 (0, 0))) ∧ Aside0 (w'.heap[gb392]? = some (.cells #[.string ((rd_T49 (rd_L5 t380 x5_1) x6_2).f0), .int .i64 ((rd_T49 (rd_L5 t380 x5_1) x6_2).f1), .string ((rd_T49 (rd_L5 t380 x5_1) x6_2).f2), .bool ((rd_T49 (rd_L5 t380 x5_1) x6_2).f3)] 49 (0, 0))) ∧ Aside0 (Kd.C k49 w' (some ad391) (rd_L5 t380 x5_1).length (rd_L5 t380 x5_1)) ∧ Aside0 (Kd.C k49 w' (some ad391) (rd_L5 t380 x5_1).length (rd_L5 t380 x5_1)) ∧ Aside0 (Below w.heap.size w w'))
             case atStart => exact ⟨(false), (0), q_i, q_i, H', ⟨Nat.le_refl _⟩, ⟨by (with_reducible repeat (first | apply Kd.S_alloc | apply Kd.S_drewN | apply Kd.S_drew)); exact Kd.S_mono (Kd.S_far (p := ⟨gb392, 3, none⟩) (Kd.S_far (p := ⟨gb392, 2, none⟩) (Kd.S_far (p := ⟨gb392, 1, none⟩) (Kd.S_far (p := ⟨gb392, 0, none⟩) (Kd.S_mono HO_3.out (fun k_ hk => (⟨hk, hk.2⟩ : _ ∧ k_ ≠ gb392))) (fun _ hk => hk.2) (.string ((rd_T49 (rd_L5 t380 x5_1) x6_2).f0))) (fun _ hk => hk.2) (.int .i64 ((rd_T49 (rd_L5 t380 x5_1) x6_2).f1))) (fun _ hk => hk.2) (.string ((rd_T49 (rd_L5 t380 x5_1) x6_2).f2))) (fun _ hk => hk.2) (.bool ((rd_T49 (rd_L5 t380 x5_1) x6_2).f3))) (fun _ hk => ⟨hk.1.1, hk.1.2⟩)⟩, ⟨by (with_reducible repeat (first | apply Kd.R_alloc | apply Kd.R_drewN | apply Kd.R_drew)); exact Kd.R_mono (Kd.R_far (p := ⟨gb392, 3, none⟩) (Kd.R_far (p := ⟨gb392, 2, none⟩) (Kd.R_far (p := ⟨gb392, 1, none⟩) (Kd.R_far (p := ⟨gb392, 0, none⟩) (Kd.R_mono HO_388001.out (fun k_ hk => (⟨hk, hk.2⟩ : _ ∧ k_ ≠ gb392))) (fun _ hk => hk.2) (.string ((rd_T49 (rd_L5 t380 x5_1) x6_2).f0))) (fun _ hk => hk.2) (.int .i64 ((rd_T49 (rd_L5 t380 x5_1) x6_2).f1))) (fun _ hk => hk.2) (.string ((rd_T49 (rd_L5 t380 x5_1) x6_2).f2))) (fun _ hk => hk.2) (.bool ((rd_T49 (rd_L5 t380 x5_1) x6_2).f3))) (fun _ hk => hk.1.2)⟩, ⟨by (with_reducible repeat (first | refine blk_drewN ?_ _ | refine blk_drew ?_ | refine blk_alloc ?_ _)); refine blk_far ?_ NB387_392.out _; (with_reducible repeat (first | refine blk_drewN ?_ _ | refine blk_drew ?_ | refine blk_alloc ?_ _)); refine blk_far ?_ NB387_392.out _; (with_reducible repeat (first | refine blk_drewN ?_ _ | refine blk_drew ?_ | refine blk_alloc ?_ _)); refine blk_far ?_ NB387_392.out _; (with_reducible repeat (first | refine blk_drewN ?_ _ | refine blk_drew ?_ | refine blk_alloc ?_ _)); refine blk_far ?_ NB387_392.out _; (with_reducible repeat (first | refine blk_drewN ?_ _ | refine blk_drew ?_ | refine blk_alloc ?_ _)); exact BK387.out⟩, ⟨by (with_reducible repeat (first | refine blk_drewN ?_ _ | refine blk_drew ?_ | refine blk_alloc ?_ _)); refine blk_put (cs := #[.string ((rd_T49 (rd_L5 t380 x5_1) x6_2).f0), .int .i64 ((rd_T49 (rd_L5 t380 x5_1) x6_2).f1), .string ((rd_T49 (rd_L5 t380 x5_1) x6_2).f2), .bool false]) ?_ 3 _ rfl; (with_reducible repeat (first | refine blk_drewN ?_ _ | refine blk_drew ?_ | refine blk_alloc ?_ _)); refine blk_put (cs := #[.string ((rd_T49 (rd_L5 t380 x5_1) x6_2).f0), .int .i64 ((rd_T49 (rd_L5 t380 x5_1) x6_2).f1), .string (⟨#[]⟩ : ByteArray), .bool false]) ?_ 2 _ rfl; (with_reducible repeat (first | refine blk_drewN ?_ _ | refine blk_drew ?_ | refine blk_alloc ?_ _)); refine blk_put (cs := #[.string ((rd_T49 (rd_L5 t380 x5_1) x6_2).f0), .int .i64 0, .string (⟨#[]⟩ : ByteArray), .bool false]) ?_ 1 _ rfl; (with_reducible repeat (first | refine blk_drewN ?_ _ | refine blk_drew ?_ | refine blk_alloc ?_ _)); refine blk_put (cs := #[.string (⟨#[]⟩ : ByteArray), .int .i64 0, .string (⟨#[]⟩ : ByteArray), .bool false]) ?_ 0 _ rfl; (with_reducible repeat (first | refine blk_drewN ?_ _ | refine blk_drew ?_ | refine blk_alloc ?_ _)); exact BK392.out⟩, ⟨(Kd.R_reads' (by (with_reducible repeat (first | apply Kd.R_alloc | apply Kd.R_drewN | apply Kd.R_drew)); exact (Kd.R_mono (Kd.R_far (p := ⟨gb392, 3, none⟩) (Kd.R_far (p := ⟨gb392, 2, none⟩) (Kd.R_far (p := ⟨gb392, 1, none⟩) (Kd.R_far (p := ⟨gb392, 0, none⟩) (Kd.R_mono HL389_0.out (fun k_ hk => (⟨hk, hk.2⟩ : _ ∧ k_ ≠ gb392))) (fun _ hk => hk.2) (.string ((rd_T49 (rd_L5 t380 x5_1) x6_2).f0))) (fun _ hk => hk.2) (.int .i64 ((rd_T49 (rd_L5 t380 x5_1) x6_2).f1))) (fun _ hk => hk.2) (.string ((rd_T49 (rd_L5 t380 x5_1) x6_2).f2))) (fun _ hk => hk.2) (.bool ((rd_T49 (rd_L5 t380 x5_1) x6_2).f3))) (fun _ h_ => h_.1)))).2.2⟩, ⟨(Kd.R_reads' (by (with_reducible repeat (first | apply Kd.R_alloc | apply Kd.R_drewN | apply Kd.R_drew)); exact (Kd.R_mono (Kd.R_far (p := ⟨gb392, 3, none⟩) (Kd.R_far (p := ⟨gb392, 2, none⟩) (Kd.R_far (p := ⟨gb392, 1, none⟩) (Kd.R_far (p := ⟨gb392, 0, none⟩) (Kd.R_mono HL390_0.out (fun k_ hk => (⟨hk, hk.2⟩ : _ ∧ k_ ≠ gb392))) (fun _ hk => hk.2) (.string ((rd_T49 (rd_L5 t380 x5_1) x6_2).f0))) (fun _ hk => hk.2) (.int .i64 ((rd_T49 (rd_L5 t380 x5_1) x6_2).f1))) (fun _ hk => hk.2) (.string ((rd_T49 (rd_L5 t380 x5_1) x6_2).f2))) (fun _ hk => hk.2) (.bool ((rd_T49 (rd_L5 t380 x5_1) x6_2).f3))) (fun _ h_ => h_.1)))).2.2⟩, ⟨bq⟩⟩
             case round =>
              clear H'
              (try clear c1); (try clear c2); (try clear p2); (try clear c3); (try clear p3); (try clear q3); (try clear hx3); (try clear c5); (try clear c6); (try clear c6b0); (try clear c6b1); (try clear p6)
              (try clear c8); (try clear c8b0); (try clear c8b1); (try clear c13); (try clear c16); (try clear c16b0); (try clear c17); (try clear c17b0); (try clear c18); (try clear c18b0); (try clear c19)
              (try clear c19b0); (try clear c20); (try clear c20b0); (try clear c22); (try clear hcz13_0); (try clear hcz13_1); (try clear hcz23_0); (try clear hcz23_1); (try clear hcz23_2); (try clear hcz23_3)
              (try clear hfz13_0); (try clear hfz13_1); (try clear hfz23_0); (try clear hfz23_1); (try clear hfz23_2); (try clear hfz23_3); (try clear hx389_0); (try clear hx390_0); (try clear hx391_0)
              (try clear hx391_1); (try clear hx391_2); (try clear hx391_3); (try clear p2); (try clear p389); (try clear p390); (try clear p391); (try clear p6); (try clear q389); (try clear q390); (try clear q391)
              obtain ⟨x8_3, x9_3, rfl, rfl, HA, HK3, HO_3, HO_388001, BK387, BK392, HR389_0, HR390_0, HB⟩ := hrel
              cases gk with
              | zero => exact absurd HA.out (by simp [laws_FnTables.l2])
              | succ k3 =>
               have H := HA.out
               clear HA
               simp only [laws_FnTables.l2] at H
               by_cases c24 : x9_3 < (t384.length : Int)
               ·rw [if_pos c24] at H
                have c24b0 := decide_eq_true c24
                clear c24
                by_cases c25 : x8_3 = true
                ·subst c25
                 have H1 : (laws_FnTables.l2 k3 t380 x5_1 x6_2 true (wrap64 (x9_3 + 1)) t383 t384 ((rd_T49 (rd_L5 t380 x5_1) x6_2).f0) ((rd_T49 (rd_L5 t380 x5_1) x6_2).f1) ((rd_T49 (rd_L5 t380 x5_1) x6_2).f2) ((rd_T49 (rd_L5 t380 x5_1) x6_2).f3)) = some r := by rw [if_pos rfl] at H; exact H
                 clear H
                 have H := H1
                 clear H1
                 have H' := am H
                 clear H
                 have hnb26 := NB387_392.out
                 have hnc26 := NB392_387.out
                 obtain ⟨hcz27_0, hcz27_1, hfz27_0, hfz27_1⟩ := q_2 BK387.out
                 try go_wp2
                 have n0_ := am (Kd.S_drew HO_3.out)
                 have n1_ := am (Kd.R_drew HO_388001.out)
                 have n2_ := am (blk_drew BK387.out)
                 have n3_ := am (blk_drew BK392.out)
                 have n4_ := am (Kd.C_drew HR389_0.out)
                 have n5_ := am (Kd.C_drew HR390_0.out)
                 have n6_ := am (below_drew1 HB.out)
                 clear HO_3
                 clear HO_388001
                 clear BK387
                 clear BK392
                 clear HR389_0
                 clear HR390_0
                 clear HB
                 have HO_3 := n0_
                 have HO_388001 := n1_
                 have BK387 := n2_
                 have BK392 := n3_
                 have HR389_0 := n4_
                 have HR390_0 := n5_
                 have HB := n6_
                 clear n0_ n1_ n2_ n3_ n4_ n5_ n6_
                 refine start_ (n := 37) (S := fun w' => True) (ds := []) #[false, false, false, false, false, false, false, false, false, false, false, false, false, false, false, false, false, false, false, false, false, false, false, false, false, false, false, false, false, false, false, false, false, false, false, false, false] (by kernel_rfl) rfl rfl trivial (fun hHeld => ?_); refine with_tabW laws_FnTables.tab20 laws_FnTables.bits20 (fun HT_ HW_ => ?_)
                 generalize wr.drew = w28 at HO_3 HO_388001 BK387 BK392 HR389_0 HR390_0 HB hHeld ⊢
                 refine q_P 0 (some 59) #[true, false, false, false, false, false, false, false, false, false, false, false, false, false, false, false, false, false, false, false, false, false, false, false, false, false, false, false, false, false, false, false, false, false, false, false, false] HT_.out ?_
                 refine q_P 1 (some 60) #[true, true, false, false, false, false, false, false, false, false, false, false, false, false, false, false, false, false, false, false, false, false, false, false, false, false, false, false, false, false, false, false, false, false, false, false, false] HT_.out ?_
                 refine pure_ (i := 2) (N := some 61) (v := undef) (a' := ?_) #[true, true, true, false, false, false, false, false, false, false, false, false, false, false, false, false, false, false, false, false, false, false, false, false, false, false, false, false, false, false, false, false, false, false, false, false, false] rfl rfl (any_of HT_.out (by kernel_rfl)) (fun _ _ _ h => h) (Or.inr ⟨by rfl, rfl⟩) ?_ ?_
                 rotate_left
                 ·simp only [Act.put, List.setIfInBounds_toArray, List.set_cons_zero, List.set_cons_succ, i64_w, i32_w]
                  rfl
                 refine pure_ (i := 3) (N := some 62) (v := undef) (a' := ?_) #[true, true, true, true, false, false, false, false, false, false, false, false, false, false, false, false, false, false, false, false, false, false, false, false, false, false, false, false, false, false, false, false, false, false, false, false, false] rfl rfl (any_of HT_.out (by kernel_rfl)) (fun _ _ _ h => h) (Or.inr ⟨by rfl, rfl⟩) ?_ ?_
                 rotate_left
                 ·simp only [Act.put, List.setIfInBounds_toArray, List.set_cons_zero, List.set_cons_succ, i64_w, i32_w]
                  rfl
                 refine pure_ (i := 4) (N := some 63) (v := undef) (a' := ?_) #[true, true, true, true, true, false, false, false, false, false, false, false, false, false, false, false, false, false, false, false, false, false, false, false, false, false, false, false, false, false, false, false, false, false, false, false, false] rfl rfl (any_of HT_.out (by kernel_rfl)) (fun _ _ _ h => h) (Or.inr ⟨by rfl, rfl⟩) ?_ ?_
                 rotate_left
                 ·simp only [Act.put, List.setIfInBounds_toArray, List.set_cons_zero, List.set_cons_succ, i64_w, i32_w]
                  rfl
                 refine pure_ (i := 5) (N := some 64) (v := undef) (a' := ?_) #[true, true, true, true, true, true, false, false, false, false, false, false, false, false, false, false, false, false, false, false, false, false, false, false, false, false, false, false, false, false, false, false, false, false, false, false, false] rfl rfl (any_of HT_.out (by kernel_rfl)) (fun _ _ _ h => h) (Or.inr ⟨by rfl, rfl⟩) ?_ ?_
                 rotate_left
                 ·simp only [Act.put, List.setIfInBounds_toArray, List.set_cons_zero, List.set_cons_succ, i64_w, i32_w]
                  rfl
                 refine pure_ (i := 6) (N := some 65) (v := undef) (a' := ?_) #[true, true, true, true, true, true, true, false, false, false, false, false, false, false, false, false, false, false, false, false, false, false, false, false, false, false, false, false, false, false, false, false, false, false, false, false, false] rfl rfl (any_of HT_.out (by kernel_rfl)) (fun _ _ _ h => h) (Or.inr ⟨by rfl, rfl⟩) ?_ ?_
                 rotate_left
                 ·simp only [Act.put, List.setIfInBounds_toArray, List.set_cons_zero, List.set_cons_succ, i64_w, i32_w]
                  rfl
                 refine pure_ (i := 7) (N := some 66) (v := undef) (a' := ?_) #[true, true, true, true, true, true, true, true, false, false, false, false, false, false, false, false, false, false, false, false, false, false, false, false, false, false, false, false, false, false, false, false, false, false, false, false, false] rfl rfl (any_of HT_.out (by kernel_rfl)) (fun _ _ _ h => h) (Or.inr ⟨by rfl, rfl⟩) ?_ ?_
                 rotate_left
                 ·simp only [Act.put, List.setIfInBounds_toArray, List.set_cons_zero, List.set_cons_succ, i64_w, i32_w]
                  rfl
                 refine pure_ (i := 8) (N := some 67) (v := undef) (a' := ?_) #[true, true, true, true, true, true, true, true, true, false, false, false, false, false, false, false, false, false, false, false, false, false, false, false, false, false, false, false, false, false, false, false, false, false, false, false, false] rfl rfl (any_of HT_.out (by kernel_rfl)) (fun _ _ _ h => h) (Or.inr ⟨by rfl, rfl⟩) ?_ ?_
                 rotate_left
                 ·simp only [Act.put, List.setIfInBounds_toArray, List.set_cons_zero, List.set_cons_succ, i64_w, i32_w]
                  rfl
                 refine pure_ (i := 9) (N := some 68) (v := undef) (a' := ?_) #[true, true, true, true, true, true, true, true, true, true, false, false, false, false, false, false, false, false, false, false, false, false, false, false, false, false, false, false, false, false, false, false, false, false, false, false, false] rfl rfl (any_of HT_.out (by kernel_rfl)) (fun _ _ _ h => h) (Or.inr ⟨by rfl, rfl⟩) ?_ ?_
                 rotate_left
                 ·simp only [Act.put, List.setIfInBounds_toArray, List.set_cons_zero, List.set_cons_succ, i64_w, i32_w]
                  rfl
                 refine pure_ (i := 10) (N := some 69) (v := undef) (a' := ?_) #[true, true, true, true, true, true, true, true, true, true, true, false, false, false, false, false, false, false, false, false, false, false, false, false, false, false, false, false, false, false, false, false, false, false, false, false, false] rfl rfl (any_of HT_.out (by kernel_rfl)) (fun _ _ _ h => h) (Or.inr ⟨by rfl, rfl⟩) ?_ ?_
                 rotate_left
                 ·simp only [Act.put, List.setIfInBounds_toArray, List.set_cons_zero, List.set_cons_succ, i64_w, i32_w]
                  rfl
                 refine pure_ (i := 11) (N := some 70) (v := undef) (a' := ?_) #[true, true, true, true, true, true, true, true, true, true, true, true, false, false, false, false, false, false, false, false, false, false, false, false, false, false, false, false, false, false, false, false, false, false, false, false, false] rfl rfl (any_of HT_.out (by kernel_rfl)) (fun _ _ _ h => h) (Or.inr ⟨by rfl, rfl⟩) ?_ ?_
                 rotate_left
                 ·simp only [Act.put, List.setIfInBounds_toArray, List.set_cons_zero, List.set_cons_succ, i64_w, i32_w]
                  rfl
                 refine pure_ (i := 12) (N := some 71) (v := undef) (a' := ?_) #[true, true, true, true, true, true, true, true, true, true, true, true, true, false, false, false, false, false, false, false, false, false, false, false, false, false, false, false, false, false, false, false, false, false, false, false, false] rfl rfl (any_of HT_.out (by kernel_rfl)) (fun _ _ _ h => h) (Or.inr ⟨by rfl, rfl⟩) ?_ ?_
                 rotate_left
                 ·simp only [Act.put, List.setIfInBounds_toArray, List.set_cons_zero, List.set_cons_succ, i64_w, i32_w]
                  rfl
                 refine pure_ (i := 13) (N := some 72) (v := undef) (a' := ?_) #[true, true, true, true, true, true, true, true, true, true, true, true, true, true, false, false, false, false, false, false, false, false, false, false, false, false, false, false, false, false, false, false, false, false, false, false, false] rfl rfl (any_of HT_.out (by kernel_rfl)) (fun _ _ _ h => h) (Or.inr ⟨by rfl, rfl⟩) ?_ ?_
                 rotate_left
                 ·simp only [Act.put, List.setIfInBounds_toArray, List.set_cons_zero, List.set_cons_succ, i64_w, i32_w]
                  rfl
                 refine pure_ (i := 14) (N := some 73) (v := undef) (a' := ?_) #[true, true, true, true, true, true, true, true, true, true, true, true, true, true, true, false, false, false, false, false, false, false, false, false, false, false, false, false, false, false, false, false, false, false, false, false, false] rfl rfl (any_of HT_.out (by kernel_rfl)) (fun _ _ _ h => h) (Or.inr ⟨by rfl, rfl⟩) ?_ ?_
                 rotate_left
                 ·simp only [Act.put, List.setIfInBounds_toArray, List.set_cons_zero, List.set_cons_succ, i64_w, i32_w]
                  rfl
                 refine pure_ (i := 15) (N := some 74) (v := undef) (a' := ?_) #[true, true, true, true, true, true, true, true, true, true, true, true, true, true, true, true, false, false, false, false, false, false, false, false, false, false, false, false, false, false, false, false, false, false, false, false, false] rfl rfl (any_of HT_.out (by kernel_rfl)) (fun _ _ _ h => h) (Or.inr ⟨by rfl, rfl⟩) ?_ ?_
                 rotate_left
                 ·simp only [Act.put, List.setIfInBounds_toArray, List.set_cons_zero, List.set_cons_succ, i64_w, i32_w]
                  rfl
                 refine pure_ (i := 16) (N := some 75) (v := undef) (a' := ?_) #[true, true, true, true, true, true, true, true, true, true, true, true, true, true, true, true, true, false, false, false, false, false, false, false, false, false, false, false, false, false, false, false, false, false, false, false, false] rfl rfl (any_of HT_.out (by kernel_rfl)) (fun _ _ _ h => h) (Or.inr ⟨by rfl, rfl⟩) ?_ ?_
                 rotate_left
                 ·simp only [Act.put, List.setIfInBounds_toArray, List.set_cons_zero, List.set_cons_succ, i64_w, i32_w]
                  rfl
                 refine pure_ (i := 17) (N := some 76) (v := undef) (a' := ?_) #[true, true, true, true, true, true, true, true, true, true, true, true, true, true, true, true, true, true, false, false, false, false, false, false, false, false, false, false, false, false, false, false, false, false, false, false, false] rfl rfl (any_of HT_.out (by kernel_rfl)) (fun _ _ _ h => h) (Or.inr ⟨by rfl, rfl⟩) ?_ ?_
                 rotate_left
                 ·simp only [Act.put, List.setIfInBounds_toArray, List.set_cons_zero, List.set_cons_succ, i64_w, i32_w]
                  rfl
                 refine pure_ (i := 18) (N := some 77) (v := undef) (a' := ?_) #[true, true, true, true, true, true, true, true, true, true, true, true, true, true, true, true, true, true, true, false, false, false, false, false, false, false, false, false, false, false, false, false, false, false, false, false, false] rfl rfl (any_of HT_.out (by kernel_rfl)) (fun _ _ _ h => h) (Or.inr ⟨by rfl, rfl⟩) ?_ ?_
                 rotate_left
                 ·simp only [Act.put, List.setIfInBounds_toArray, List.set_cons_zero, List.set_cons_succ, i64_w, i32_w]
                  rfl
                 refine pure_ (i := 19) (N := some 78) (v := undef) (a' := ?_) #[true, true, true, true, true, true, true, true, true, true, true, true, true, true, true, true, true, true, true, true, false, false, false, false, false, false, false, false, false, false, false, false, false, false, false, false, false] rfl rfl (any_of HT_.out (by kernel_rfl)) (fun _ _ _ h => h) (Or.inr ⟨by rfl, rfl⟩) ?_ ?_
                 rotate_left
                 ·simp only [Act.put, List.setIfInBounds_toArray, List.set_cons_zero, List.set_cons_succ, i64_w, i32_w]
                  rfl
                 refine pure_ (i := 20) (N := some 79) (v := undef) (a' := ?_) #[true, true, true, true, true, true, true, true, true, true, true, true, true, true, true, true, true, true, true, true, true, false, false, false, false, false, false, false, false, false, false, false, false, false, false, false, false] rfl rfl (any_of HT_.out (by kernel_rfl)) (fun _ _ _ h => h) (Or.inr ⟨by rfl, rfl⟩) ?_ ?_
                 rotate_left
                 ·simp only [Act.put, List.setIfInBounds_toArray, List.set_cons_zero, List.set_cons_succ, i64_w, i32_w]
                  rfl
                 refine pure_ (i := 21) (N := some 80) (v := undef) (a' := ?_) #[true, true, true, true, true, true, true, true, true, true, true, true, true, true, true, true, true, true, true, true, true, true, false, false, false, false, false, false, false, false, false, false, false, false, false, false, false] rfl rfl (any_of HT_.out (by kernel_rfl)) (fun _ _ _ h => h) (Or.inr ⟨by rfl, rfl⟩) ?_ ?_
                 rotate_left
                 ·simp only [Act.put, List.setIfInBounds_toArray, List.set_cons_zero, List.set_cons_succ, i64_w, i32_w]
                  rfl
                 refine pure_ (i := 22) (N := some 81) (v := undef) (a' := ?_) #[true, true, true, true, true, true, true, true, true, true, true, true, true, true, true, true, true, true, true, true, true, true, true, false, false, false, false, false, false, false, false, false, false, false, false, false, false] rfl rfl (any_of HT_.out (by kernel_rfl)) (fun _ _ _ h => h) (Or.inr ⟨by rfl, rfl⟩) ?_ ?_
                 rotate_left
                 ·simp only [Act.put, List.setIfInBounds_toArray, List.set_cons_zero, List.set_cons_succ, i64_w, i32_w]
                  rfl
                 refine pure_ (i := 23) (N := some 82) (v := undef) (a' := ?_) #[true, true, true, true, true, true, true, true, true, true, true, true, true, true, true, true, true, true, true, true, true, true, true, true, false, false, false, false, false, false, false, false, false, false, false, false, false] rfl rfl (any_of HT_.out (by kernel_rfl)) (fun _ _ _ h => h) (Or.inr ⟨by rfl, rfl⟩) ?_ ?_
                 rotate_left
                 ·simp only [Act.put, List.setIfInBounds_toArray, List.set_cons_zero, List.set_cons_succ, i64_w, i32_w]
                  rfl
                 refine pure_ (i := 24) (N := some 83) (v := undef) (a' := ?_) #[true, true, true, true, true, true, true, true, true, true, true, true, true, true, true, true, true, true, true, true, true, true, true, true, true, false, false, false, false, false, false, false, false, false, false, false, false] rfl rfl (any_of HT_.out (by kernel_rfl)) (fun _ _ _ h => h) (Or.inr ⟨by rfl, rfl⟩) ?_ ?_
                 rotate_left
                 ·simp only [Act.put, List.setIfInBounds_toArray, List.set_cons_zero, List.set_cons_succ, i64_w, i32_w]
                  rfl
                 refine pure_ (i := 25) (N := some 84) (v := undef) (a' := ?_) #[true, true, true, true, true, true, true, true, true, true, true, true, true, true, true, true, true, true, true, true, true, true, true, true, true, true, false, false, false, false, false, false, false, false, false, false, false] rfl rfl (any_of HT_.out (by kernel_rfl)) (fun _ _ _ h => h) (Or.inr ⟨by rfl, rfl⟩) ?_ ?_
                 rotate_left
                 ·simp only [Act.put, List.setIfInBounds_toArray, List.set_cons_zero, List.set_cons_succ, i64_w, i32_w]
                  rfl
                 refine pure_ (i := 26) (N := some 85) (v := undef) (a' := ?_) #[true, true, true, true, true, true, true, true, true, true, true, true, true, true, true, true, true, true, true, true, true, true, true, true, true, true, true, false, false, false, false, false, false, false, false, false, false] rfl rfl (any_of HT_.out (by kernel_rfl)) (fun _ _ _ h => h) (Or.inr ⟨by rfl, rfl⟩) ?_ ?_
                 rotate_left
                 ·simp only [Act.put, List.setIfInBounds_toArray, List.set_cons_zero, List.set_cons_succ, i64_w, i32_w]
                  rfl
                 refine pure_ (i := 27) (N := some 86) (v := undef) (a' := ?_) #[true, true, true, true, true, true, true, true, true, true, true, true, true, true, true, true, true, true, true, true, true, true, true, true, true, true, true, true, false, false, false, false, false, false, false, false, false] rfl rfl (any_of HT_.out (by kernel_rfl)) (fun _ _ _ h => h) (Or.inr ⟨by rfl, rfl⟩) ?_ ?_
                 rotate_left
                 ·simp only [Act.put, List.setIfInBounds_toArray, List.set_cons_zero, List.set_cons_succ, i64_w, i32_w]
                  rfl
                 refine pure_ (i := 28) (N := some 87) (v := undef) (a' := ?_) #[true, true, true, true, true, true, true, true, true, true, true, true, true, true, true, true, true, true, true, true, true, true, true, true, true, true, true, true, true, false, false, false, false, false, false, false, false] rfl rfl (any_of HT_.out (by kernel_rfl)) (fun _ _ _ h => h) (Or.inr ⟨by rfl, rfl⟩) ?_ ?_
                 rotate_left
                 ·simp only [Act.put, List.setIfInBounds_toArray, List.set_cons_zero, List.set_cons_succ, i64_w, i32_w]
                  rfl
                 refine pure_ (i := 29) (N := some 88) (v := undef) (a' := ?_) #[true, true, true, true, true, true, true, true, true, true, true, true, true, true, true, true, true, true, true, true, true, true, true, true, true, true, true, true, true, true, false, false, false, false, false, false, false] rfl rfl (any_of HT_.out (by kernel_rfl)) (fun _ _ _ h => h) (Or.inr ⟨by rfl, rfl⟩) ?_ ?_
                 rotate_left
                 ·simp only [Act.put, List.setIfInBounds_toArray, List.set_cons_zero, List.set_cons_succ, i64_w, i32_w]
                  rfl
                 refine pure_ (i := 30) (N := some 89) (v := undef) (a' := ?_) #[true, true, true, true, true, true, true, true, true, true, true, true, true, true, true, true, true, true, true, true, true, true, true, true, true, true, true, true, true, true, true, false, false, false, false, false, false] rfl rfl (any_of HT_.out (by kernel_rfl)) (fun _ _ _ h => h) (Or.inr ⟨by rfl, rfl⟩) ?_ ?_
                 rotate_left
                 ·simp only [Act.put, List.setIfInBounds_toArray, List.set_cons_zero, List.set_cons_succ, i64_w, i32_w]
                  rfl
                 refine pure_ (i := 31) (N := some 90) (v := undef) (a' := ?_) #[true, true, true, true, true, true, true, true, true, true, true, true, true, true, true, true, true, true, true, true, true, true, true, true, true, true, true, true, true, true, true, true, false, false, false, false, false] rfl rfl (any_of HT_.out (by kernel_rfl)) (fun _ _ _ h => h) (Or.inr ⟨by rfl, rfl⟩) ?_ ?_
                 rotate_left
                 ·simp only [Act.put, List.setIfInBounds_toArray, List.set_cons_zero, List.set_cons_succ, i64_w, i32_w]
                  rfl
                 refine pure_ (i := 32) (N := some 91) (v := undef) (a' := ?_) #[true, true, true, true, true, true, true, true, true, true, true, true, true, true, true, true, true, true, true, true, true, true, true, true, true, true, true, true, true, true, true, true, true, false, false, false, false] rfl rfl (any_of HT_.out (by kernel_rfl)) (fun _ _ _ h => h) (Or.inr ⟨by rfl, rfl⟩) ?_ ?_
                 rotate_left
                 ·simp only [Act.put, List.setIfInBounds_toArray, List.set_cons_zero, List.set_cons_succ, i64_w, i32_w]
                  rfl
                 refine pure_ (i := 33) (N := some 92) (v := undef) (a' := ?_) #[true, true, true, true, true, true, true, true, true, true, true, true, true, true, true, true, true, true, true, true, true, true, true, true, true, true, true, true, true, true, true, true, true, true, false, false, false] rfl rfl (any_of HT_.out (by kernel_rfl)) (fun _ _ _ h => h) (Or.inr ⟨by rfl, rfl⟩) ?_ ?_
                 rotate_left
                 ·simp only [Act.put, List.setIfInBounds_toArray, List.set_cons_zero, List.set_cons_succ, i64_w, i32_w]
                  rfl
                 refine pure_ (i := 34) (N := some 93) (v := undef) (a' := ?_) #[true, true, true, true, true, true, true, true, true, true, true, true, true, true, true, true, true, true, true, true, true, true, true, true, true, true, true, true, true, true, true, true, true, true, true, false, false] rfl rfl (any_of HT_.out (by kernel_rfl)) (fun _ _ _ h => h) (Or.inr ⟨by rfl, rfl⟩) ?_ ?_
                 rotate_left
                 ·simp only [Act.put, List.setIfInBounds_toArray, List.set_cons_zero, List.set_cons_succ, i64_w, i32_w]
                  rfl
                 refine q_P 35 (some 94) #[true, true, true, true, true, true, true, true, true, true, true, true, true, true, true, true, true, true, true, true, true, true, true, true, true, true, true, true, true, true, true, true, true, true, true, true, false] HT_.out ?_
                 refine q_P 36 (some 8) #[true, true, true, true, true, true, true, true, true, true, true, true, true, true, true, true, true, true, true, true, true, true, true, true, true, true, true, true, true, true, true, true, true, true, true, true, true] HT_.out ?_
                 refine done_ (done_of HT_.out (by kernel_rfl)) ?_
                 try go_wp2
                 go_roundg k3
                 case measure => have := HK1.out; have := HK2.out; have := HK3.out; omega
                 case rel => exact ⟨(true), (wrap64 (x9_3 + 1)), q_i, q_i, H', ⟨by have := HK1.out; have := HK2.out; have := HK3.out; omega⟩, ⟨q_s (HO_3.out)⟩, ⟨q_r (HO_388001.out)⟩, ⟨q_b BK387.out⟩, ⟨q_b BK392.out⟩, ⟨by repeat (first | (with_reducible exact HR389_0.out) | (with_reducible refine Kd.C_alloc ?_ _) | (with_reducible refine Kd.C_drewN ?_ _) | (with_reducible refine Kd.C_drew ?_) | exact HR389_0.out)⟩, ⟨by repeat (first | (with_reducible exact HR390_0.out) | (with_reducible refine Kd.C_alloc ?_ _) | (with_reducible refine Kd.C_drewN ?_ _) | (with_reducible refine Kd.C_drew ?_) | exact HR390_0.out)⟩, ⟨bq⟩⟩
                ·replace c25 := Bool.eq_false_iff.mpr c25
                 subst c25
                 have H1 : (if 0 ≤ x9_3 then (if ((rd_T49 t384 x9_3).f0).toList = ((rd_T49 (rd_L5 t380 x5_1) x6_2).f0).toList then (if ((rd_T49 t384 x9_3).f1) = ((rd_T49 (rd_L5 t380 x5_1) x6_2).f1) then (if x5_1 > 0 then (laws_FnTables.l2 k3 t380 x5_1 x6_2 true (wrap64 (x9_3 + 1)) t383 t384 ((rd_T49 (rd_L5 t380 x5_1) x6_2).f0) ((rd_T49 (rd_L5 t380 x5_1) x6_2).f1) ((rd_T49 (rd_L5 t380 x5_1) x6_2).f2) ((rd_T49 (rd_L5 t380 x5_1) x6_2).f3)) else (laws_FnTables.l2 k3 t380 x5_1 x6_2 ((((rd_T49 t384 x9_3).f0).toList) == ((rd_T49 (rd_L5 t380 x5_1) x6_2).f0).toList && (((rd_T49 t384 x9_3).f1) == ((rd_T49 (rd_L5 t380 x5_1) x6_2).f1) && ((((rd_T49 t384 x9_3).f2).toList) == ((rd_T49 (rd_L5 t380 x5_1) x6_2).f2).toList && (((rd_T49 t384 x9_3).f3) == ((rd_T49 (rd_L5 t380 x5_1) x6_2).f3))))) (wrap64 (x9_3 + 1)) t383 t384 ((rd_T49 (rd_L5 t380 x5_1) x6_2).f0) ((rd_T49 (rd_L5 t380 x5_1) x6_2).f1) ((rd_T49 (rd_L5 t380 x5_1) x6_2).f2) ((rd_T49 (rd_L5 t380 x5_1) x6_2).f3))) else (laws_FnTables.l2 k3 t380 x5_1 x6_2 false (wrap64 (x9_3 + 1)) t383 t384 ((rd_T49 (rd_L5 t380 x5_1) x6_2).f0) ((rd_T49 (rd_L5 t380 x5_1) x6_2).f1) ((rd_T49 (rd_L5 t380 x5_1) x6_2).f2) ((rd_T49 (rd_L5 t380 x5_1) x6_2).f3))) else (laws_FnTables.l2 k3 t380 x5_1 x6_2 false (wrap64 (x9_3 + 1)) t383 t384 ((rd_T49 (rd_L5 t380 x5_1) x6_2).f0) ((rd_T49 (rd_L5 t380 x5_1) x6_2).f1) ((rd_T49 (rd_L5 t380 x5_1) x6_2).f2) ((rd_T49 (rd_L5 t380 x5_1) x6_2).f3))) else (none)) = some r := by rw [if_neg (show ¬ (false = true) by decide)] at H; exact H
                 clear H
                 have H := H1
                 clear H1
                 by_cases c29 : 0 ≤ x9_3
                 ·rw [if_pos c29] at H
                  have c29b0 := decide_eq_true c29
                  clear c29
                  by_cases c30 : ((rd_T49 t384 x9_3).f0).toList = ((rd_T49 (rd_L5 t380 x5_1) x6_2).f0).toList
                  ·rw [if_pos c30] at H
                   have c30b0 : (((rd_T49 t384 x9_3).f0).toList == ((rd_T49 (rd_L5 t380 x5_1) x6_2).f0).toList) = true := beq_iff_eq.mpr c30
                   have c30b1 : (((rd_T49 t384 x9_3).f0).toList != ((rd_T49 (rd_L5 t380 x5_1) x6_2).f0).toList) = false := bne_eq_false_iff_eq.mpr c30
                   clear c30
                   by_cases c31 : ((rd_T49 t384 x9_3).f1) = ((rd_T49 (rd_L5 t380 x5_1) x6_2).f1)
                   ·rw [if_pos c31] at H
                    have c31b0 : (((rd_T49 t384 x9_3).f1) == ((rd_T49 (rd_L5 t380 x5_1) x6_2).f1)) = true := beq_iff_eq.mpr c31
                    have c31b1 : (((rd_T49 t384 x9_3).f1) != ((rd_T49 (rd_L5 t380 x5_1) x6_2).f1)) = false := bne_eq_false_iff_eq.mpr c31
                    clear c31
                    by_cases c32 : x5_1 > 0
                    ·rw [if_pos c32] at H
                     have c32b0 := decide_eq_true c32
                     clear c32
                     have H' := am H
                     clear H
                     have hnb33 := NB387_392.out
                     have hnc33 := NB392_387.out
                     obtain ⟨hcz34_0, hcz34_1, hfz34_0, hfz34_1⟩ := q_2 BK387.out
                     try go_wp2
                     have n0_ := am (Kd.S_drew HO_3.out)
                     have n1_ := am (Kd.R_drew HO_388001.out)
                     have n2_ := am (blk_drew BK387.out)
                     have n3_ := am (blk_drew BK392.out)
                     have n4_ := am (Kd.C_drew HR389_0.out)
                     have n5_ := am (Kd.C_drew HR390_0.out)
                     have n6_ := am (below_drew1 HB.out)
                     clear HO_3
                     clear HO_388001
                     clear BK387
                     clear BK392
                     clear HR389_0
                     clear HR390_0
                     clear HB
                     have HO_3 := n0_
                     have HO_388001 := n1_
                     have BK387 := n2_
                     have BK392 := n3_
                     have HR389_0 := n4_
                     have HR390_0 := n5_
                     have HB := n6_
                     clear n0_ n1_ n2_ n3_ n4_ n5_ n6_
                     have p393 : 0 ≤ (x9_3 : Int) := q_d
                     have q393 : x9_3 < (t384.length : Int) := q_d
                     obtain ⟨ad393, e393, hx393_0, hx393_1, hx393_2, hx393_3⟩ := at_T49 (Kd.R_reads' HO_388001.out).2.2 x9_3 p393 q393
                     cases e393
                     replace p393 := eq_true p393
                     replace q393 := eq_true q393
                     have p394 : 0 ≤ (x9_3 : Int) := q_d
                     have q394 : x9_3 < (t384.length : Int) := q_d
                     obtain ⟨ad394, e394, hx394_0, hx394_1, hx394_2, hx394_3⟩ := at_T49 (Kd.R_reads' HO_388001.out).2.2 x9_3 p394 q394
                     obtain rfl : ad393 = ad394 := (by injection e394)
                     replace p394 := eq_true p394
                     replace q394 := eq_true q394
                     refine start_ (n := 37) (S := fun w' => w'.cell? ⟨gb387, 0, none⟩ = some (.int .i64 t383) ∧ w'.cell? ⟨gb387, 1, none⟩ = some (.slice (some ad393) t384.length co14) ∧ w'.cell? ⟨gb392, 0, none⟩ = some (.string ((rd_T49 (rd_L5 t380 x5_1) x6_2).f0)) ∧ w'.cell? ⟨gb392, 1, none⟩ = some (.int .i64 ((rd_T49 (rd_L5 t380 x5_1) x6_2).f1)) ∧ w'.cell? ⟨gb392, 2, none⟩ = some (.string ((rd_T49 (rd_L5 t380 x5_1) x6_2).f2)) ∧ w'.cell? ⟨gb392, 3, none⟩ = some (.bool ((rd_T49 (rd_L5 t380 x5_1) x6_2).f3)) ∧ w'.cell? (ad393.add ((x9_3).toNat * 4)) = some (.string ((rd_T49 t384 x9_3).f0)) ∧ w'.cell? ⟨(ad393.add ((x9_3).toNat * 4)).block, (ad393.add ((x9_3).toNat * 4)).off + 1, none⟩ = some (.int .i64 ((rd_T49 t384 x9_3).f1)) ∧ w'.cell? ⟨(ad393.add ((x9_3).toNat * 4)).block, (ad393.add ((x9_3).toNat * 4)).off + 2, none⟩ = some (.string ((rd_T49 t384 x9_3).f2)) ∧ w'.cell? ⟨(ad393.add ((x9_3).toNat * 4)).block, (ad393.add ((x9_3).toNat * 4)).off + 3, none⟩ = some (.bool ((rd_T49 t384 x9_3).f3)) ∧ w'.cell? (ad393.add ((x9_3).toNat * 4)) = some (.string ((rd_T49 t384 x9_3).f0)) ∧ w'.cell? ⟨(ad393.add ((x9_3).toNat * 4)).block, (ad393.add ((x9_3).toNat * 4)).off + 1, none⟩ = some (.int .i64 ((rd_T49 t384 x9_3).f1)) ∧ w'.cell? ⟨(ad393.add ((x9_3).toNat * 4)).block, (ad393.add ((x9_3).toNat * 4)).off + 2, none⟩ = some (.string ((rd_T49 t384 x9_3).f2)) ∧ w'.cell? ⟨(ad393.add ((x9_3).toNat * 4)).block, (ad393.add ((x9_3).toNat * 4)).off + 3, none⟩ = some (.bool ((rd_T49 t384 x9_3).f3))) (ds := []) #[false, false, false, false, false, false, false, false, false, false, false, false, false, false, false, false, false, false, false, false, false, false, false, false, false, false, false, false, false, false, false, false, false, false, false, false, false] (by kernel_rfl) rfl rfl ⟨q_z BK387.out 0, q_z BK387.out 1, q_z BK392.out 0, q_z BK392.out 1, q_z BK392.out 2, q_z BK392.out 3, hx393_0, hx393_1, hx393_2, hx393_3, hx394_0, hx394_1, hx394_2, hx394_3⟩ (fun hHeld => ?_); refine with_tabW laws_FnTables.tab20 laws_FnTables.bits20 (fun HT_ HW_ => ?_)
                     generalize wr.drew = w35 at HO_3 HO_388001 BK387 BK392 HR389_0 HR390_0 HB hx393_0 hx393_1 hx393_2 hx393_3 hx394_0 hx394_1 hx394_2 hx394_3 hHeld ⊢
                     refine q_P 0 (some 59) #[true, false, false, false, false, false, false, false, false, false, false, false, false, false, false, false, false, false, false, false, false, false, false, false, false, false, false, false, false, false, false, false, false, false, false, false, false] HT_.out ?_
                     refine q_P 1 (some 60) #[true, true, false, false, false, false, false, false, false, false, false, false, false, false, false, false, false, false, false, false, false, false, false, false, false, false, false, false, false, false, false, false, false, false, false, false, false] HT_.out ?_
                     refine q_P 2 (some 61) #[true, true, true, false, false, false, false, false, false, false, false, false, false, false, false, false, false, false, false, false, false, false, false, false, false, false, false, false, false, false, false, false, false, false, false, false, false] HT_.out ?_
                     refine q_P 4 (some 63) #[true, true, true, false, true, false, false, false, false, false, false, false, false, false, false, false, false, false, false, false, false, false, false, false, false, false, false, false, false, false, false, false, false, false, false, false, false] HT_.out ?_
                     refine q_P 8 (some 67) #[true, true, true, false, true, false, false, false, true, false, false, false, false, false, false, false, false, false, false, false, false, false, false, false, false, false, false, false, false, false, false, false, false, false, false, false, false] HT_.out ?_
                     refine q_t 3 (some 62) #[true, true, true, true, true, false, false, false, true, false, false, false, false, false, false, false, false, false, false, false, false, false, false, false, false, false, false, false, false, false, false, false, false, false, false, false, false] HT_.out HW_.out hHeld ?_
                     refine q_P 5 (some 64) #[true, true, true, true, true, true, false, false, true, false, false, false, false, false, false, false, false, false, false, false, false, false, false, false, false, false, false, false, false, false, false, false, false, false, false, false, false] HT_.out ?_
                     refine q_P 6 (some 65) #[true, true, true, true, true, true, true, false, true, false, false, false, false, false, false, false, false, false, false, false, false, false, false, false, false, false, false, false, false, false, false, false, false, false, false, false, false] HT_.out ?_
                     refine q_t 7 (some 66) #[true, true, true, true, true, true, true, true, true, false, false, false, false, false, false, false, false, false, false, false, false, false, false, false, false, false, false, false, false, false, false, false, false, false, false, false, false] HT_.out HW_.out hHeld ?_
                     refine q_t 9 (some 68) #[true, true, true, true, true, true, true, true, true, true, false, false, false, false, false, false, false, false, false, false, false, false, false, false, false, false, false, false, false, false, false, false, false, false, false, false, false] HT_.out HW_.out hHeld ?_
                     refine q_P 10 (some 69) #[true, true, true, true, true, true, true, true, true, true, true, false, false, false, false, false, false, false, false, false, false, false, false, false, false, false, false, false, false, false, false, false, false, false, false, false, false] HT_.out ?_
                     refine q_P 11 (some 70) #[true, true, true, true, true, true, true, true, true, true, true, true, false, false, false, false, false, false, false, false, false, false, false, false, false, false, false, false, false, false, false, false, false, false, false, false, false] HT_.out ?_
                     refine q_P 12 (some 71) #[true, true, true, true, true, true, true, true, true, true, true, true, true, false, false, false, false, false, false, false, false, false, false, false, false, false, false, false, false, false, false, false, false, false, false, false, false] HT_.out ?_
                     refine q_P 14 (some 73) #[true, true, true, true, true, true, true, true, true, true, true, true, true, false, true, false, false, false, false, false, false, false, false, false, false, false, false, false, false, false, false, false, false, false, false, false, false] HT_.out ?_
                     refine q_P 18 (some 77) #[true, true, true, true, true, true, true, true, true, true, true, true, true, false, true, false, false, false, true, false, false, false, false, false, false, false, false, false, false, false, false, false, false, false, false, false, false] HT_.out ?_
                     refine q_t 13 (some 72) #[true, true, true, true, true, true, true, true, true, true, true, true, true, true, true, false, false, false, true, false, false, false, false, false, false, false, false, false, false, false, false, false, false, false, false, false, false] HT_.out HW_.out hHeld ?_
                     refine q_P 15 (some 74) #[true, true, true, true, true, true, true, true, true, true, true, true, true, true, true, true, false, false, true, false, false, false, false, false, false, false, false, false, false, false, false, false, false, false, false, false, false] HT_.out ?_
                     refine q_P 16 (some 75) #[true, true, true, true, true, true, true, true, true, true, true, true, true, true, true, true, true, false, true, false, false, false, false, false, false, false, false, false, false, false, false, false, false, false, false, false, false] HT_.out ?_
                     refine q_t 17 (some 76) #[true, true, true, true, true, true, true, true, true, true, true, true, true, true, true, true, true, true, true, false, false, false, false, false, false, false, false, false, false, false, false, false, false, false, false, false, false] HT_.out HW_.out hHeld ?_
                     refine q_t 19 (some 78) #[true, true, true, true, true, true, true, true, true, true, true, true, true, true, true, true, true, true, true, true, false, false, false, false, false, false, false, false, false, false, false, false, false, false, false, false, false] HT_.out HW_.out hHeld ?_
                     refine q_P 20 (some 79) #[true, true, true, true, true, true, true, true, true, true, true, true, true, true, true, true, true, true, true, true, true, false, false, false, false, false, false, false, false, false, false, false, false, false, false, false, false] HT_.out ?_
                     refine q_P 21 (some 80) #[true, true, true, true, true, true, true, true, true, true, true, true, true, true, true, true, true, true, true, true, true, true, false, false, false, false, false, false, false, false, false, false, false, false, false, false, false] HT_.out ?_
                     refine q_P 22 (some 81) #[true, true, true, true, true, true, true, true, true, true, true, true, true, true, true, true, true, true, true, true, true, true, true, false, false, false, false, false, false, false, false, false, false, false, false, false, false] HT_.out ?_
                     refine q_P 23 (some 82) #[true, true, true, true, true, true, true, true, true, true, true, true, true, true, true, true, true, true, true, true, true, true, true, true, false, false, false, false, false, false, false, false, false, false, false, false, false] HT_.out ?_
                     refine q_P 24 (some 83) #[true, true, true, true, true, true, true, true, true, true, true, true, true, true, true, true, true, true, true, true, true, true, true, true, true, false, false, false, false, false, false, false, false, false, false, false, false] HT_.out ?_
                     refine q_P 25 (some 84) #[true, true, true, true, true, true, true, true, true, true, true, true, true, true, true, true, true, true, true, true, true, true, true, true, true, true, false, false, false, false, false, false, false, false, false, false, false] HT_.out ?_
                     refine pure_ (i := 26) (N := some 85) (v := undef) (a' := ?_) #[true, true, true, true, true, true, true, true, true, true, true, true, true, true, true, true, true, true, true, true, true, true, true, true, true, true, true, false, false, false, false, false, false, false, false, false, false] rfl rfl (any_of HT_.out (by kernel_rfl)) (fun _ _ _ h => h) (Or.inr ⟨by rfl, rfl⟩) ?_ ?_
                     rotate_left
                     ·simp only [Act.put, List.setIfInBounds_toArray, List.set_cons_zero, List.set_cons_succ, i64_w, i32_w]
                      rfl
                     refine pure_ (i := 27) (N := some 86) (v := undef) (a' := ?_) #[true, true, true, true, true, true, true, true, true, true, true, true, true, true, true, true, true, true, true, true, true, true, true, true, true, true, true, true, false, false, false, false, false, false, false, false, false] rfl rfl (any_of HT_.out (by kernel_rfl)) (fun _ _ _ h => h) (Or.inr ⟨by rfl, rfl⟩) ?_ ?_
                     rotate_left
                     ·simp only [Act.put, List.setIfInBounds_toArray, List.set_cons_zero, List.set_cons_succ, i64_w, i32_w]
                      rfl
                     refine pure_ (i := 28) (N := some 87) (v := undef) (a' := ?_) #[true, true, true, true, true, true, true, true, true, true, true, true, true, true, true, true, true, true, true, true, true, true, true, true, true, true, true, true, true, false, false, false, false, false, false, false, false] rfl rfl (any_of HT_.out (by kernel_rfl)) (fun _ _ _ h => h) (Or.inr ⟨by rfl, rfl⟩) ?_ ?_
                     rotate_left
                     ·simp only [Act.put, List.setIfInBounds_toArray, List.set_cons_zero, List.set_cons_succ, i64_w, i32_w]
                      rfl
                     refine pure_ (i := 29) (N := some 88) (v := undef) (a' := ?_) #[true, true, true, true, true, true, true, true, true, true, true, true, true, true, true, true, true, true, true, true, true, true, true, true, true, true, true, true, true, true, false, false, false, false, false, false, false] rfl rfl (any_of HT_.out (by kernel_rfl)) (fun _ _ _ h => h) (Or.inr ⟨by rfl, rfl⟩) ?_ ?_
                     rotate_left
                     ·simp only [Act.put, List.setIfInBounds_toArray, List.set_cons_zero, List.set_cons_succ, i64_w, i32_w]
                      rfl
                     refine pure_ (i := 30) (N := some 89) (v := undef) (a' := ?_) #[true, true, true, true, true, true, true, true, true, true, true, true, true, true, true, true, true, true, true, true, true, true, true, true, true, true, true, true, true, true, true, false, false, false, false, false, false] rfl rfl (any_of HT_.out (by kernel_rfl)) (fun _ _ _ h => h) (Or.inr ⟨by rfl, rfl⟩) ?_ ?_
                     rotate_left
                     ·simp only [Act.put, List.setIfInBounds_toArray, List.set_cons_zero, List.set_cons_succ, i64_w, i32_w]
                      rfl
                     refine pure_ (i := 31) (N := some 90) (v := undef) (a' := ?_) #[true, true, true, true, true, true, true, true, true, true, true, true, true, true, true, true, true, true, true, true, true, true, true, true, true, true, true, true, true, true, true, true, false, false, false, false, false] rfl rfl (any_of HT_.out (by kernel_rfl)) (fun _ _ _ h => h) (Or.inr ⟨by rfl, rfl⟩) ?_ ?_
                     rotate_left
                     ·simp only [Act.put, List.setIfInBounds_toArray, List.set_cons_zero, List.set_cons_succ, i64_w, i32_w]
                      rfl
                     refine pure_ (i := 32) (N := some 91) (v := undef) (a' := ?_) #[true, true, true, true, true, true, true, true, true, true, true, true, true, true, true, true, true, true, true, true, true, true, true, true, true, true, true, true, true, true, true, true, true, false, false, false, false] rfl rfl (any_of HT_.out (by kernel_rfl)) (fun _ _ _ h => h) (Or.inr ⟨by rfl, rfl⟩) ?_ ?_
                     rotate_left
                     ·simp only [Act.put, List.setIfInBounds_toArray, List.set_cons_zero, List.set_cons_succ, i64_w, i32_w]
                      rfl
                     refine q_P 33 (some 92) #[true, true, true, true, true, true, true, true, true, true, true, true, true, true, true, true, true, true, true, true, true, true, true, true, true, true, true, true, true, true, true, true, true, true, false, false, false] HT_.out ?_
                     refine q_P 34 (some 93) #[true, true, true, true, true, true, true, true, true, true, true, true, true, true, true, true, true, true, true, true, true, true, true, true, true, true, true, true, true, true, true, true, true, true, true, false, false] HT_.out ?_
                     refine q_P 35 (some 94) #[true, true, true, true, true, true, true, true, true, true, true, true, true, true, true, true, true, true, true, true, true, true, true, true, true, true, true, true, true, true, true, true, true, true, true, true, false] HT_.out ?_
                     refine q_P 36 (some 8) #[true, true, true, true, true, true, true, true, true, true, true, true, true, true, true, true, true, true, true, true, true, true, true, true, true, true, true, true, true, true, true, true, true, true, true, true, true] HT_.out ?_
                     refine done_ (done_of HT_.out (by kernel_rfl)) ?_
                     try go_wp2
                     go_roundg k3
                     case measure => have := HK1.out; have := HK2.out; have := HK3.out; omega
                     case rel => exact ⟨(true), (wrap64 (x9_3 + 1)), q_i, q_i, H', ⟨by have := HK1.out; have := HK2.out; have := HK3.out; omega⟩, ⟨q_s (HO_3.out)⟩, ⟨q_r (HO_388001.out)⟩, ⟨q_b BK387.out⟩, ⟨q_b BK392.out⟩, ⟨by repeat (first | (with_reducible exact HR389_0.out) | (with_reducible refine Kd.C_alloc ?_ _) | (with_reducible refine Kd.C_drewN ?_ _) | (with_reducible refine Kd.C_drew ?_) | exact HR389_0.out)⟩, ⟨by repeat (first | (with_reducible exact HR390_0.out) | (with_reducible refine Kd.C_alloc ?_ _) | (with_reducible refine Kd.C_drewN ?_ _) | (with_reducible refine Kd.C_drew ?_) | exact HR390_0.out)⟩, ⟨bq⟩⟩
                    ·rw [if_neg c32] at H
                     have c32b0 := decide_eq_false c32
                     clear c32
                     have H' := am H
                     clear H
                     have hnb36 := NB387_392.out
                     have hnc36 := NB392_387.out
                     obtain ⟨hcz37_0, hcz37_1, hfz37_0, hfz37_1⟩ := q_2 BK387.out
                     try go_wp2
                     have n0_ := am (Kd.S_drew HO_3.out)
                     have n1_ := am (Kd.R_drew HO_388001.out)
                     have n2_ := am (blk_drew BK387.out)
                     have n3_ := am (blk_drew BK392.out)
                     have n4_ := am (Kd.C_drew HR389_0.out)
                     have n5_ := am (Kd.C_drew HR390_0.out)
                     have n6_ := am (below_drew1 HB.out)
                     clear HO_3
                     clear HO_388001
                     clear BK387
                     clear BK392
                     clear HR389_0
                     clear HR390_0
                     clear HB
                     have HO_3 := n0_
                     have HO_388001 := n1_
                     have BK387 := n2_
                     have BK392 := n3_
                     have HR389_0 := n4_
                     have HR390_0 := n5_
                     have HB := n6_
                     clear n0_ n1_ n2_ n3_ n4_ n5_ n6_
                     have p393 : 0 ≤ (x9_3 : Int) := q_d
                     have q393 : x9_3 < (t384.length : Int) := q_d
                     obtain ⟨ad393, e393, hx393_0, hx393_1, hx393_2, hx393_3⟩ := at_T49 (Kd.R_reads' HO_388001.out).2.2 x9_3 p393 q393
                     cases e393
                     replace p393 := eq_true p393
                     replace q393 := eq_true q393
                     have p394 : 0 ≤ (x9_3 : Int) := q_d
                     have q394 : x9_3 < (t384.length : Int) := q_d
                     obtain ⟨ad394, e394, hx394_0, hx394_1, hx394_2, hx394_3⟩ := at_T49 (Kd.R_reads' HO_388001.out).2.2 x9_3 p394 q394
                     obtain rfl : ad393 = ad394 := (by injection e394)
                     replace p394 := eq_true p394
                     replace q394 := eq_true q394
                     have p395 : 0 ≤ (x9_3 : Int) := q_d
                     have q395 : x9_3 < (t384.length : Int) := q_d
                     obtain ⟨ad395, e395, hx395_0, hx395_1, hx395_2, hx395_3⟩ := at_T49 (Kd.R_reads' HO_388001.out).2.2 x9_3 p395 q395
                     obtain rfl : ad393 = ad395 := (by injection e395)
                     replace p395 := eq_true p395
                     replace q395 := eq_true q395
                     refine start_ (n := 37) (S := fun w' => w'.cell? ⟨gb387, 0, none⟩ = some (.int .i64 t383) ∧ w'.cell? ⟨gb387, 1, none⟩ = some (.slice (some ad393) t384.length co14) ∧ w'.cell? ⟨gb392, 0, none⟩ = some (.string ((rd_T49 (rd_L5 t380 x5_1) x6_2).f0)) ∧ w'.cell? ⟨gb392, 1, none⟩ = some (.int .i64 ((rd_T49 (rd_L5 t380 x5_1) x6_2).f1)) ∧ w'.cell? ⟨gb392, 2, none⟩ = some (.string ((rd_T49 (rd_L5 t380 x5_1) x6_2).f2)) ∧ w'.cell? ⟨gb392, 3, none⟩ = some (.bool ((rd_T49 (rd_L5 t380 x5_1) x6_2).f3)) ∧ w'.cell? (ad393.add ((x9_3).toNat * 4)) = some (.string ((rd_T49 t384 x9_3).f0)) ∧ w'.cell? ⟨(ad393.add ((x9_3).toNat * 4)).block, (ad393.add ((x9_3).toNat * 4)).off + 1, none⟩ = some (.int .i64 ((rd_T49 t384 x9_3).f1)) ∧ w'.cell? ⟨(ad393.add ((x9_3).toNat * 4)).block, (ad393.add ((x9_3).toNat * 4)).off + 2, none⟩ = some (.string ((rd_T49 t384 x9_3).f2)) ∧ w'.cell? ⟨(ad393.add ((x9_3).toNat * 4)).block, (ad393.add ((x9_3).toNat * 4)).off + 3, none⟩ = some (.bool ((rd_T49 t384 x9_3).f3)) ∧ w'.cell? (ad393.add ((x9_3).toNat * 4)) = some (.string ((rd_T49 t384 x9_3).f0)) ∧ w'.cell? ⟨(ad393.add ((x9_3).toNat * 4)).block, (ad393.add ((x9_3).toNat * 4)).off + 1, none⟩ = some (.int .i64 ((rd_T49 t384 x9_3).f1)) ∧ w'.cell? ⟨(ad393.add ((x9_3).toNat * 4)).block, (ad393.add ((x9_3).toNat * 4)).off + 2, none⟩ = some (.string ((rd_T49 t384 x9_3).f2)) ∧ w'.cell? ⟨(ad393.add ((x9_3).toNat * 4)).block, (ad393.add ((x9_3).toNat * 4)).off + 3, none⟩ = some (.bool ((rd_T49 t384 x9_3).f3)) ∧ w'.cell? (ad393.add ((x9_3).toNat * 4)) = some (.string ((rd_T49 t384 x9_3).f0)) ∧ w'.cell? ⟨(ad393.add ((x9_3).toNat * 4)).block, (ad393.add ((x9_3).toNat * 4)).off + 1, none⟩ = some (.int .i64 ((rd_T49 t384 x9_3).f1)) ∧ w'.cell? ⟨(ad393.add ((x9_3).toNat * 4)).block, (ad393.add ((x9_3).toNat * 4)).off + 2, none⟩ = some (.string ((rd_T49 t384 x9_3).f2)) ∧ w'.cell? ⟨(ad393.add ((x9_3).toNat * 4)).block, (ad393.add ((x9_3).toNat * 4)).off + 3, none⟩ = some (.bool ((rd_T49 t384 x9_3).f3))) (ds := []) #[false, false, false, false, false, false, false, false, false, false, false, false, false, false, false, false, false, false, false, false, false, false, false, false, false, false, false, false, false, false, false, false, false, false, false, false, false] (by kernel_rfl) rfl rfl ⟨q_z BK387.out 0, q_z BK387.out 1, q_z BK392.out 0, q_z BK392.out 1, q_z BK392.out 2, q_z BK392.out 3, hx393_0, hx393_1, hx393_2, hx393_3, hx394_0, hx394_1, hx394_2, hx394_3, hx395_0, hx395_1, hx395_2, hx395_3⟩ (fun hHeld => ?_); refine with_tabW laws_FnTables.tab20 laws_FnTables.bits20 (fun HT_ HW_ => ?_)
                     generalize wr.drew = w38 at HO_3 HO_388001 BK387 BK392 HR389_0 HR390_0 HB hx393_0 hx393_1 hx393_2 hx393_3 hx394_0 hx394_1 hx394_2 hx394_3 hx395_0 hx395_1 hx395_2 hx395_3 hHeld ⊢
                     refine q_P 0 (some 59) #[true, false, false, false, false, false, false, false, false, false, false, false, false, false, false, false, false, false, false, false, false, false, false, false, false, false, false, false, false, false, false, false, false, false, false, false, false] HT_.out ?_
                     refine q_P 1 (some 60) #[true, true, false, false, false, false, false, false, false, false, false, false, false, false, false, false, false, false, false, false, false, false, false, false, false, false, false, false, false, false, false, false, false, false, false, false, false] HT_.out ?_
                     refine q_P 2 (some 61) #[true, true, true, false, false, false, false, false, false, false, false, false, false, false, false, false, false, false, false, false, false, false, false, false, false, false, false, false, false, false, false, false, false, false, false, false, false] HT_.out ?_
                     refine q_P 4 (some 63) #[true, true, true, false, true, false, false, false, false, false, false, false, false, false, false, false, false, false, false, false, false, false, false, false, false, false, false, false, false, false, false, false, false, false, false, false, false] HT_.out ?_
                     refine q_P 8 (some 67) #[true, true, true, false, true, false, false, false, true, false, false, false, false, false, false, false, false, false, false, false, false, false, false, false, false, false, false, false, false, false, false, false, false, false, false, false, false] HT_.out ?_
                     refine q_t 3 (some 62) #[true, true, true, true, true, false, false, false, true, false, false, false, false, false, false, false, false, false, false, false, false, false, false, false, false, false, false, false, false, false, false, false, false, false, false, false, false] HT_.out HW_.out hHeld ?_
                     refine q_P 5 (some 64) #[true, true, true, true, true, true, false, false, true, false, false, false, false, false, false, false, false, false, false, false, false, false, false, false, false, false, false, false, false, false, false, false, false, false, false, false, false] HT_.out ?_
                     refine q_P 6 (some 65) #[true, true, true, true, true, true, true, false, true, false, false, false, false, false, false, false, false, false, false, false, false, false, false, false, false, false, false, false, false, false, false, false, false, false, false, false, false] HT_.out ?_
                     refine q_t 7 (some 66) #[true, true, true, true, true, true, true, true, true, false, false, false, false, false, false, false, false, false, false, false, false, false, false, false, false, false, false, false, false, false, false, false, false, false, false, false, false] HT_.out HW_.out hHeld ?_
                     refine q_t 9 (some 68) #[true, true, true, true, true, true, true, true, true, true, false, false, false, false, false, false, false, false, false, false, false, false, false, false, false, false, false, false, false, false, false, false, false, false, false, false, false] HT_.out HW_.out hHeld ?_
                     refine q_P 10 (some 69) #[true, true, true, true, true, true, true, true, true, true, true, false, false, false, false, false, false, false, false, false, false, false, false, false, false, false, false, false, false, false, false, false, false, false, false, false, false] HT_.out ?_
                     refine q_P 11 (some 70) #[true, true, true, true, true, true, true, true, true, true, true, true, false, false, false, false, false, false, false, false, false, false, false, false, false, false, false, false, false, false, false, false, false, false, false, false, false] HT_.out ?_
                     refine q_P 12 (some 71) #[true, true, true, true, true, true, true, true, true, true, true, true, true, false, false, false, false, false, false, false, false, false, false, false, false, false, false, false, false, false, false, false, false, false, false, false, false] HT_.out ?_
                     refine q_P 14 (some 73) #[true, true, true, true, true, true, true, true, true, true, true, true, true, false, true, false, false, false, false, false, false, false, false, false, false, false, false, false, false, false, false, false, false, false, false, false, false] HT_.out ?_
                     refine q_P 18 (some 77) #[true, true, true, true, true, true, true, true, true, true, true, true, true, false, true, false, false, false, true, false, false, false, false, false, false, false, false, false, false, false, false, false, false, false, false, false, false] HT_.out ?_
                     refine q_t 13 (some 72) #[true, true, true, true, true, true, true, true, true, true, true, true, true, true, true, false, false, false, true, false, false, false, false, false, false, false, false, false, false, false, false, false, false, false, false, false, false] HT_.out HW_.out hHeld ?_
                     refine q_P 15 (some 74) #[true, true, true, true, true, true, true, true, true, true, true, true, true, true, true, true, false, false, true, false, false, false, false, false, false, false, false, false, false, false, false, false, false, false, false, false, false] HT_.out ?_
                     refine q_P 16 (some 75) #[true, true, true, true, true, true, true, true, true, true, true, true, true, true, true, true, true, false, true, false, false, false, false, false, false, false, false, false, false, false, false, false, false, false, false, false, false] HT_.out ?_
                     refine q_t 17 (some 76) #[true, true, true, true, true, true, true, true, true, true, true, true, true, true, true, true, true, true, true, false, false, false, false, false, false, false, false, false, false, false, false, false, false, false, false, false, false] HT_.out HW_.out hHeld ?_
                     refine q_t 19 (some 78) #[true, true, true, true, true, true, true, true, true, true, true, true, true, true, true, true, true, true, true, true, false, false, false, false, false, false, false, false, false, false, false, false, false, false, false, false, false] HT_.out HW_.out hHeld ?_
                     refine q_P 20 (some 79) #[true, true, true, true, true, true, true, true, true, true, true, true, true, true, true, true, true, true, true, true, true, false, false, false, false, false, false, false, false, false, false, false, false, false, false, false, false] HT_.out ?_
                     refine q_P 21 (some 80) #[true, true, true, true, true, true, true, true, true, true, true, true, true, true, true, true, true, true, true, true, true, true, false, false, false, false, false, false, false, false, false, false, false, false, false, false, false] HT_.out ?_
                     refine q_P 22 (some 81) #[true, true, true, true, true, true, true, true, true, true, true, true, true, true, true, true, true, true, true, true, true, true, true, false, false, false, false, false, false, false, false, false, false, false, false, false, false] HT_.out ?_
                     refine q_P 23 (some 82) #[true, true, true, true, true, true, true, true, true, true, true, true, true, true, true, true, true, true, true, true, true, true, true, true, false, false, false, false, false, false, false, false, false, false, false, false, false] HT_.out ?_
                     refine q_P 24 (some 83) #[true, true, true, true, true, true, true, true, true, true, true, true, true, true, true, true, true, true, true, true, true, true, true, true, true, false, false, false, false, false, false, false, false, false, false, false, false] HT_.out ?_
                     refine q_P 25 (some 84) #[true, true, true, true, true, true, true, true, true, true, true, true, true, true, true, true, true, true, true, true, true, true, true, true, true, true, false, false, false, false, false, false, false, false, false, false, false] HT_.out ?_
                     refine q_P 26 (some 85) #[true, true, true, true, true, true, true, true, true, true, true, true, true, true, true, true, true, true, true, true, true, true, true, true, true, true, true, false, false, false, false, false, false, false, false, false, false] HT_.out ?_
                     refine q_P 28 (some 87) #[true, true, true, true, true, true, true, true, true, true, true, true, true, true, true, true, true, true, true, true, true, true, true, true, true, true, true, false, true, false, false, false, false, false, false, false, false] HT_.out ?_
                     refine q_t 27 (some 86) #[true, true, true, true, true, true, true, true, true, true, true, true, true, true, true, true, true, true, true, true, true, true, true, true, true, true, true, true, true, false, false, false, false, false, false, false, false] HT_.out HW_.out hHeld ?_
                     refine q_P 29 (some 88) #[true, true, true, true, true, true, true, true, true, true, true, true, true, true, true, true, true, true, true, true, true, true, true, true, true, true, true, true, true, true, false, false, false, false, false, false, false] HT_.out ?_
                     refine q_t 30 (some 89) #[true, true, true, true, true, true, true, true, true, true, true, true, true, true, true, true, true, true, true, true, true, true, true, true, true, true, true, true, true, true, true, false, false, false, false, false, false] HT_.out HW_.out hHeld ?_
                     refine q_t 31 (some 90) #[true, true, true, true, true, true, true, true, true, true, true, true, true, true, true, true, true, true, true, true, true, true, true, true, true, true, true, true, true, true, true, true, false, false, false, false, false] HT_.out HW_.out hHeld ?_
                     refine q_P 32 (some 91) #[true, true, true, true, true, true, true, true, true, true, true, true, true, true, true, true, true, true, true, true, true, true, true, true, true, true, true, true, true, true, true, true, true, false, false, false, false] HT_.out ?_
                     refine q_P 33 (some 92) #[true, true, true, true, true, true, true, true, true, true, true, true, true, true, true, true, true, true, true, true, true, true, true, true, true, true, true, true, true, true, true, true, true, true, false, false, false] HT_.out ?_
                     refine q_P 34 (some 93) #[true, true, true, true, true, true, true, true, true, true, true, true, true, true, true, true, true, true, true, true, true, true, true, true, true, true, true, true, true, true, true, true, true, true, true, false, false] HT_.out ?_
                     refine q_P 35 (some 94) #[true, true, true, true, true, true, true, true, true, true, true, true, true, true, true, true, true, true, true, true, true, true, true, true, true, true, true, true, true, true, true, true, true, true, true, true, false] HT_.out ?_
                     refine q_P 36 (some 8) #[true, true, true, true, true, true, true, true, true, true, true, true, true, true, true, true, true, true, true, true, true, true, true, true, true, true, true, true, true, true, true, true, true, true, true, true, true] HT_.out ?_
                     refine done_ (done_of HT_.out (by kernel_rfl)) ?_
                     try go_wp2
                     go_roundg k3
                     case measure => have := HK1.out; have := HK2.out; have := HK3.out; omega
                     case rel => exact ⟨(((((rd_T49 t384 x9_3).f0).toList) == ((rd_T49 (rd_L5 t380 x5_1) x6_2).f0).toList && (((rd_T49 t384 x9_3).f1) == ((rd_T49 (rd_L5 t380 x5_1) x6_2).f1) && ((((rd_T49 t384 x9_3).f2).toList) == ((rd_T49 (rd_L5 t380 x5_1) x6_2).f2).toList && (((rd_T49 t384 x9_3).f3) == ((rd_T49 (rd_L5 t380 x5_1) x6_2).f3)))))), (wrap64 (x9_3 + 1)), q_i, q_i, H', ⟨by have := HK1.out; have := HK2.out; have := HK3.out; omega⟩, ⟨q_s (HO_3.out)⟩, ⟨q_r (HO_388001.out)⟩, ⟨q_b BK387.out⟩, ⟨q_b BK392.out⟩, ⟨by repeat (first | (with_reducible exact HR389_0.out) | (with_reducible refine Kd.C_alloc ?_ _) | (with_reducible refine Kd.C_drewN ?_ _) | (with_reducible refine Kd.C_drew ?_) | exact HR389_0.out)⟩, ⟨by repeat (first | (with_reducible exact HR390_0.out) | (with_reducible refine Kd.C_alloc ?_ _) | (with_reducible refine Kd.C_drewN ?_ _) | (with_reducible refine Kd.C_drew ?_) | exact HR390_0.out)⟩, ⟨bq⟩⟩
                   ·rw [if_neg c31] at H
                    have c31b0 : (((rd_T49 t384 x9_3).f1) == ((rd_T49 (rd_L5 t380 x5_1) x6_2).f1)) = false := beq_eq_false_iff_ne.mpr c31
                    have c31b1 : (((rd_T49 t384 x9_3).f1) != ((rd_T49 (rd_L5 t380 x5_1) x6_2).f1)) = true := bne_iff_ne.mpr c31
                    have H' := am H
                    clear H
                    have hnb39 := NB387_392.out
                    have hnc39 := NB392_387.out
                    obtain ⟨hcz40_0, hcz40_1, hfz40_0, hfz40_1⟩ := q_2 BK387.out
                    try go_wp2
                    have n0_ := am (Kd.S_drew HO_3.out)
                    have n1_ := am (Kd.R_drew HO_388001.out)
                    have n2_ := am (blk_drew BK387.out)
                    have n3_ := am (blk_drew BK392.out)
                    have n4_ := am (Kd.C_drew HR389_0.out)
                    have n5_ := am (Kd.C_drew HR390_0.out)
                    have n6_ := am (below_drew1 HB.out)
                    clear HO_3
                    clear HO_388001
                    clear BK387
                    clear BK392
                    clear HR389_0
                    clear HR390_0
                    clear HB
                    have HO_3 := n0_
                    have HO_388001 := n1_
                    have BK387 := n2_
                    have BK392 := n3_
                    have HR389_0 := n4_
                    have HR390_0 := n5_
                    have HB := n6_
                    clear n0_ n1_ n2_ n3_ n4_ n5_ n6_
                    have p393 : 0 ≤ (x9_3 : Int) := q_d
                    have q393 : x9_3 < (t384.length : Int) := q_d
                    obtain ⟨ad393, e393, hx393_0, hx393_1, hx393_2, hx393_3⟩ := at_T49 (Kd.R_reads' HO_388001.out).2.2 x9_3 p393 q393
                    cases e393
                    replace p393 := eq_true p393
                    replace q393 := eq_true q393
                    have p394 : 0 ≤ (x9_3 : Int) := q_d
                    have q394 : x9_3 < (t384.length : Int) := q_d
                    obtain ⟨ad394, e394, hx394_0, hx394_1, hx394_2, hx394_3⟩ := at_T49 (Kd.R_reads' HO_388001.out).2.2 x9_3 p394 q394
                    obtain rfl : ad393 = ad394 := (by injection e394)
                    replace p394 := eq_true p394
                    replace q394 := eq_true q394
                    refine start_ (n := 37) (S := fun w' => w'.cell? ⟨gb387, 0, none⟩ = some (.int .i64 t383) ∧ w'.cell? ⟨gb387, 1, none⟩ = some (.slice (some ad393) t384.length co14) ∧ w'.cell? ⟨gb392, 0, none⟩ = some (.string ((rd_T49 (rd_L5 t380 x5_1) x6_2).f0)) ∧ w'.cell? ⟨gb392, 1, none⟩ = some (.int .i64 ((rd_T49 (rd_L5 t380 x5_1) x6_2).f1)) ∧ w'.cell? ⟨gb392, 2, none⟩ = some (.string ((rd_T49 (rd_L5 t380 x5_1) x6_2).f2)) ∧ w'.cell? ⟨gb392, 3, none⟩ = some (.bool ((rd_T49 (rd_L5 t380 x5_1) x6_2).f3)) ∧ w'.cell? (ad393.add ((x9_3).toNat * 4)) = some (.string ((rd_T49 t384 x9_3).f0)) ∧ w'.cell? ⟨(ad393.add ((x9_3).toNat * 4)).block, (ad393.add ((x9_3).toNat * 4)).off + 1, none⟩ = some (.int .i64 ((rd_T49 t384 x9_3).f1)) ∧ w'.cell? ⟨(ad393.add ((x9_3).toNat * 4)).block, (ad393.add ((x9_3).toNat * 4)).off + 2, none⟩ = some (.string ((rd_T49 t384 x9_3).f2)) ∧ w'.cell? ⟨(ad393.add ((x9_3).toNat * 4)).block, (ad393.add ((x9_3).toNat * 4)).off + 3, none⟩ = some (.bool ((rd_T49 t384 x9_3).f3)) ∧ w'.cell? (ad393.add ((x9_3).toNat * 4)) = some (.string ((rd_T49 t384 x9_3).f0)) ∧ w'.cell? ⟨(ad393.add ((x9_3).toNat * 4)).block, (ad393.add ((x9_3).toNat * 4)).off + 1, none⟩ = some (.int .i64 ((rd_T49 t384 x9_3).f1)) ∧ w'.cell? ⟨(ad393.add ((x9_3).toNat * 4)).block, (ad393.add ((x9_3).toNat * 4)).off + 2, none⟩ = some (.string ((rd_T49 t384 x9_3).f2)) ∧ w'.cell? ⟨(ad393.add ((x9_3).toNat * 4)).block, (ad393.add ((x9_3).toNat * 4)).off + 3, none⟩ = some (.bool ((rd_T49 t384 x9_3).f3))) (ds := []) #[false, false, false, false, false, false, false, false, false, false, false, false, false, false, false, false, false, false, false, false, false, false, false, false, false, false, false, false, false, false, false, false, false, false, false, false, false] (by kernel_rfl) rfl rfl ⟨q_z BK387.out 0, q_z BK387.out 1, q_z BK392.out 0, q_z BK392.out 1, q_z BK392.out 2, q_z BK392.out 3, hx393_0, hx393_1, hx393_2, hx393_3, hx394_0, hx394_1, hx394_2, hx394_3⟩ (fun hHeld => ?_); refine with_tabW laws_FnTables.tab20 laws_FnTables.bits20 (fun HT_ HW_ => ?_)
                    generalize wr.drew = w41 at HO_3 HO_388001 BK387 BK392 HR389_0 HR390_0 HB hx393_0 hx393_1 hx393_2 hx393_3 hx394_0 hx394_1 hx394_2 hx394_3 hHeld ⊢
                    refine q_P 0 (some 59) #[true, false, false, false, false, false, false, false, false, false, false, false, false, false, false, false, false, false, false, false, false, false, false, false, false, false, false, false, false, false, false, false, false, false, false, false, false] HT_.out ?_
                    refine q_P 1 (some 60) #[true, true, false, false, false, false, false, false, false, false, false, false, false, false, false, false, false, false, false, false, false, false, false, false, false, false, false, false, false, false, false, false, false, false, false, false, false] HT_.out ?_
                    refine q_P 2 (some 61) #[true, true, true, false, false, false, false, false, false, false, false, false, false, false, false, false, false, false, false, false, false, false, false, false, false, false, false, false, false, false, false, false, false, false, false, false, false] HT_.out ?_
                    refine q_P 4 (some 63) #[true, true, true, false, true, false, false, false, false, false, false, false, false, false, false, false, false, false, false, false, false, false, false, false, false, false, false, false, false, false, false, false, false, false, false, false, false] HT_.out ?_
                    refine q_P 8 (some 67) #[true, true, true, false, true, false, false, false, true, false, false, false, false, false, false, false, false, false, false, false, false, false, false, false, false, false, false, false, false, false, false, false, false, false, false, false, false] HT_.out ?_
                    refine q_t 3 (some 62) #[true, true, true, true, true, false, false, false, true, false, false, false, false, false, false, false, false, false, false, false, false, false, false, false, false, false, false, false, false, false, false, false, false, false, false, false, false] HT_.out HW_.out hHeld ?_
                    refine q_P 5 (some 64) #[true, true, true, true, true, true, false, false, true, false, false, false, false, false, false, false, false, false, false, false, false, false, false, false, false, false, false, false, false, false, false, false, false, false, false, false, false] HT_.out ?_
                    refine q_P 6 (some 65) #[true, true, true, true, true, true, true, false, true, false, false, false, false, false, false, false, false, false, false, false, false, false, false, false, false, false, false, false, false, false, false, false, false, false, false, false, false] HT_.out ?_
                    refine q_t 7 (some 66) #[true, true, true, true, true, true, true, true, true, false, false, false, false, false, false, false, false, false, false, false, false, false, false, false, false, false, false, false, false, false, false, false, false, false, false, false, false] HT_.out HW_.out hHeld ?_
                    refine q_t 9 (some 68) #[true, true, true, true, true, true, true, true, true, true, false, false, false, false, false, false, false, false, false, false, false, false, false, false, false, false, false, false, false, false, false, false, false, false, false, false, false] HT_.out HW_.out hHeld ?_
                    refine q_P 10 (some 69) #[true, true, true, true, true, true, true, true, true, true, true, false, false, false, false, false, false, false, false, false, false, false, false, false, false, false, false, false, false, false, false, false, false, false, false, false, false] HT_.out ?_
                    refine q_P 11 (some 70) #[true, true, true, true, true, true, true, true, true, true, true, true, false, false, false, false, false, false, false, false, false, false, false, false, false, false, false, false, false, false, false, false, false, false, false, false, false] HT_.out ?_
                    refine q_P 12 (some 71) #[true, true, true, true, true, true, true, true, true, true, true, true, true, false, false, false, false, false, false, false, false, false, false, false, false, false, false, false, false, false, false, false, false, false, false, false, false] HT_.out ?_
                    refine q_P 14 (some 73) #[true, true, true, true, true, true, true, true, true, true, true, true, true, false, true, false, false, false, false, false, false, false, false, false, false, false, false, false, false, false, false, false, false, false, false, false, false] HT_.out ?_
                    refine q_P 18 (some 77) #[true, true, true, true, true, true, true, true, true, true, true, true, true, false, true, false, false, false, true, false, false, false, false, false, false, false, false, false, false, false, false, false, false, false, false, false, false] HT_.out ?_
                    refine q_t 13 (some 72) #[true, true, true, true, true, true, true, true, true, true, true, true, true, true, true, false, false, false, true, false, false, false, false, false, false, false, false, false, false, false, false, false, false, false, false, false, false] HT_.out HW_.out hHeld ?_
                    refine q_P 15 (some 74) #[true, true, true, true, true, true, true, true, true, true, true, true, true, true, true, true, false, false, true, false, false, false, false, false, false, false, false, false, false, false, false, false, false, false, false, false, false] HT_.out ?_
                    refine q_P 16 (some 75) #[true, true, true, true, true, true, true, true, true, true, true, true, true, true, true, true, true, false, true, false, false, false, false, false, false, false, false, false, false, false, false, false, false, false, false, false, false] HT_.out ?_
                    refine q_t 17 (some 76) #[true, true, true, true, true, true, true, true, true, true, true, true, true, true, true, true, true, true, true, false, false, false, false, false, false, false, false, false, false, false, false, false, false, false, false, false, false] HT_.out HW_.out hHeld ?_
                    refine q_t 19 (some 78) #[true, true, true, true, true, true, true, true, true, true, true, true, true, true, true, true, true, true, true, true, false, false, false, false, false, false, false, false, false, false, false, false, false, false, false, false, false] HT_.out HW_.out hHeld ?_
                    refine q_P 20 (some 79) #[true, true, true, true, true, true, true, true, true, true, true, true, true, true, true, true, true, true, true, true, true, false, false, false, false, false, false, false, false, false, false, false, false, false, false, false, false] HT_.out ?_
                    refine q_P 21 (some 80) #[true, true, true, true, true, true, true, true, true, true, true, true, true, true, true, true, true, true, true, true, true, true, false, false, false, false, false, false, false, false, false, false, false, false, false, false, false] HT_.out ?_
                    refine q_P 22 (some 81) #[true, true, true, true, true, true, true, true, true, true, true, true, true, true, true, true, true, true, true, true, true, true, true, false, false, false, false, false, false, false, false, false, false, false, false, false, false] HT_.out ?_
                    refine pure_ (i := 23) (N := some 82) (v := undef) (a' := ?_) #[true, true, true, true, true, true, true, true, true, true, true, true, true, true, true, true, true, true, true, true, true, true, true, true, false, false, false, false, false, false, false, false, false, false, false, false, false] rfl rfl (any_of HT_.out (by kernel_rfl)) (fun _ _ _ h => h) (Or.inr ⟨by rfl, rfl⟩) ?_ ?_
                    rotate_left
                    ·simp only [Act.put, List.setIfInBounds_toArray, List.set_cons_zero, List.set_cons_succ, i64_w, i32_w]
                     rfl
                    refine pure_ (i := 24) (N := some 83) (v := undef) (a' := ?_) #[true, true, true, true, true, true, true, true, true, true, true, true, true, true, true, true, true, true, true, true, true, true, true, true, true, false, false, false, false, false, false, false, false, false, false, false, false] rfl rfl (any_of HT_.out (by kernel_rfl)) (fun _ _ _ h => h) (Or.inr ⟨by rfl, rfl⟩) ?_ ?_
                    rotate_left
                    ·simp only [Act.put, List.setIfInBounds_toArray, List.set_cons_zero, List.set_cons_succ, i64_w, i32_w]
                     rfl
                    refine pure_ (i := 25) (N := some 84) (v := undef) (a' := ?_) #[true, true, true, true, true, true, true, true, true, true, true, true, true, true, true, true, true, true, true, true, true, true, true, true, true, true, false, false, false, false, false, false, false, false, false, false, false] rfl rfl (any_of HT_.out (by kernel_rfl)) (fun _ _ _ h => h) (Or.inr ⟨by rfl, rfl⟩) ?_ ?_
                    rotate_left
                    ·simp only [Act.put, List.setIfInBounds_toArray, List.set_cons_zero, List.set_cons_succ, i64_w, i32_w]
                     rfl
                    refine pure_ (i := 26) (N := some 85) (v := undef) (a' := ?_) #[true, true, true, true, true, true, true, true, true, true, true, true, true, true, true, true, true, true, true, true, true, true, true, true, true, true, true, false, false, false, false, false, false, false, false, false, false] rfl rfl (any_of HT_.out (by kernel_rfl)) (fun _ _ _ h => h) (Or.inr ⟨by rfl, rfl⟩) ?_ ?_
                    rotate_left
                    ·simp only [Act.put, List.setIfInBounds_toArray, List.set_cons_zero, List.set_cons_succ, i64_w, i32_w]
                     rfl
                    refine pure_ (i := 27) (N := some 86) (v := undef) (a' := ?_) #[true, true, true, true, true, true, true, true, true, true, true, true, true, true, true, true, true, true, true, true, true, true, true, true, true, true, true, true, false, false, false, false, false, false, false, false, false] rfl rfl (any_of HT_.out (by kernel_rfl)) (fun _ _ _ h => h) (Or.inr ⟨by rfl, rfl⟩) ?_ ?_
                    rotate_left
                    ·simp only [Act.put, List.setIfInBounds_toArray, List.set_cons_zero, List.set_cons_succ, i64_w, i32_w]
                     rfl
                    refine pure_ (i := 28) (N := some 87) (v := undef) (a' := ?_) #[true, true, true, true, true, true, true, true, true, true, true, true, true, true, true, true, true, true, true, true, true, true, true, true, true, true, true, true, true, false, false, false, false, false, false, false, false] rfl rfl (any_of HT_.out (by kernel_rfl)) (fun _ _ _ h => h) (Or.inr ⟨by rfl, rfl⟩) ?_ ?_
                    rotate_left
                    ·simp only [Act.put, List.setIfInBounds_toArray, List.set_cons_zero, List.set_cons_succ, i64_w, i32_w]
                     rfl
                    refine pure_ (i := 29) (N := some 88) (v := undef) (a' := ?_) #[true, true, true, true, true, true, true, true, true, true, true, true, true, true, true, true, true, true, true, true, true, true, true, true, true, true, true, true, true, true, false, false, false, false, false, false, false] rfl rfl (any_of HT_.out (by kernel_rfl)) (fun _ _ _ h => h) (Or.inr ⟨by rfl, rfl⟩) ?_ ?_
                    rotate_left
                    ·simp only [Act.put, List.setIfInBounds_toArray, List.set_cons_zero, List.set_cons_succ, i64_w, i32_w]
                     rfl
                    refine pure_ (i := 30) (N := some 89) (v := undef) (a' := ?_) #[true, true, true, true, true, true, true, true, true, true, true, true, true, true, true, true, true, true, true, true, true, true, true, true, true, true, true, true, true, true, true, false, false, false, false, false, false] rfl rfl (any_of HT_.out (by kernel_rfl)) (fun _ _ _ h => h) (Or.inr ⟨by rfl, rfl⟩) ?_ ?_
                    rotate_left
                    ·simp only [Act.put, List.setIfInBounds_toArray, List.set_cons_zero, List.set_cons_succ, i64_w, i32_w]
                     rfl
                    refine pure_ (i := 31) (N := some 90) (v := undef) (a' := ?_) #[true, true, true, true, true, true, true, true, true, true, true, true, true, true, true, true, true, true, true, true, true, true, true, true, true, true, true, true, true, true, true, true, false, false, false, false, false] rfl rfl (any_of HT_.out (by kernel_rfl)) (fun _ _ _ h => h) (Or.inr ⟨by rfl, rfl⟩) ?_ ?_
                    rotate_left
                    ·simp only [Act.put, List.setIfInBounds_toArray, List.set_cons_zero, List.set_cons_succ, i64_w, i32_w]
                     rfl
                    refine pure_ (i := 32) (N := some 91) (v := undef) (a' := ?_) #[true, true, true, true, true, true, true, true, true, true, true, true, true, true, true, true, true, true, true, true, true, true, true, true, true, true, true, true, true, true, true, true, true, false, false, false, false] rfl rfl (any_of HT_.out (by kernel_rfl)) (fun _ _ _ h => h) (Or.inr ⟨by rfl, rfl⟩) ?_ ?_
                    rotate_left
                    ·simp only [Act.put, List.setIfInBounds_toArray, List.set_cons_zero, List.set_cons_succ, i64_w, i32_w]
                     rfl
                    refine pure_ (i := 33) (N := some 92) (v := undef) (a' := ?_) #[true, true, true, true, true, true, true, true, true, true, true, true, true, true, true, true, true, true, true, true, true, true, true, true, true, true, true, true, true, true, true, true, true, true, false, false, false] rfl rfl (any_of HT_.out (by kernel_rfl)) (fun _ _ _ h => h) (Or.inr ⟨by rfl, rfl⟩) ?_ ?_
                    rotate_left
                    ·simp only [Act.put, List.setIfInBounds_toArray, List.set_cons_zero, List.set_cons_succ, i64_w, i32_w]
                     rfl
                    refine q_P 34 (some 93) #[true, true, true, true, true, true, true, true, true, true, true, true, true, true, true, true, true, true, true, true, true, true, true, true, true, true, true, true, true, true, true, true, true, true, true, false, false] HT_.out ?_
                    refine q_P 35 (some 94) #[true, true, true, true, true, true, true, true, true, true, true, true, true, true, true, true, true, true, true, true, true, true, true, true, true, true, true, true, true, true, true, true, true, true, true, true, false] HT_.out ?_
                    refine q_P 36 (some 8) #[true, true, true, true, true, true, true, true, true, true, true, true, true, true, true, true, true, true, true, true, true, true, true, true, true, true, true, true, true, true, true, true, true, true, true, true, true] HT_.out ?_
                    refine done_ (done_of HT_.out (by kernel_rfl)) ?_
                    try go_wp2
                    go_roundg k3
                    case measure => have := HK1.out; have := HK2.out; have := HK3.out; omega
                    case rel => exact ⟨(false), (wrap64 (x9_3 + 1)), q_i, q_i, H', ⟨by have := HK1.out; have := HK2.out; have := HK3.out; omega⟩, ⟨q_s (HO_3.out)⟩, ⟨q_r (HO_388001.out)⟩, ⟨q_b BK387.out⟩, ⟨q_b BK392.out⟩, ⟨by repeat (first | (with_reducible exact HR389_0.out) | (with_reducible refine Kd.C_alloc ?_ _) | (with_reducible refine Kd.C_drewN ?_ _) | (with_reducible refine Kd.C_drew ?_) | exact HR389_0.out)⟩, ⟨by repeat (first | (with_reducible exact HR390_0.out) | (with_reducible refine Kd.C_alloc ?_ _) | (with_reducible refine Kd.C_drewN ?_ _) | (with_reducible refine Kd.C_drew ?_) | exact HR390_0.out)⟩, ⟨bq⟩⟩
                  ·rw [if_neg c30] at H
                   have c30b0 : (((rd_T49 t384 x9_3).f0).toList == ((rd_T49 (rd_L5 t380 x5_1) x6_2).f0).toList) = false := beq_eq_false_iff_ne.mpr c30
                   have c30b1 : (((rd_T49 t384 x9_3).f0).toList != ((rd_T49 (rd_L5 t380 x5_1) x6_2).f0).toList) = true := bne_iff_ne.mpr c30
                   have H' := am H
                   clear H
                   have hnb42 := NB387_392.out
                   have hnc42 := NB392_387.out
                   obtain ⟨hcz43_0, hcz43_1, hfz43_0, hfz43_1⟩ := q_2 BK387.out
                   try go_wp2
                   have n0_ := am (Kd.S_drew HO_3.out)
                   have n1_ := am (Kd.R_drew HO_388001.out)
                   have n2_ := am (blk_drew BK387.out)
                   have n3_ := am (blk_drew BK392.out)
                   have n4_ := am (Kd.C_drew HR389_0.out)
                   have n5_ := am (Kd.C_drew HR390_0.out)
                   have n6_ := am (below_drew1 HB.out)
                   clear HO_3
                   clear HO_388001
                   clear BK387
                   clear BK392
                   clear HR389_0
                   clear HR390_0
                   clear HB
                   have HO_3 := n0_
                   have HO_388001 := n1_
                   have BK387 := n2_
                   have BK392 := n3_
                   have HR389_0 := n4_
                   have HR390_0 := n5_
                   have HB := n6_
                   clear n0_ n1_ n2_ n3_ n4_ n5_ n6_
                   have p393 : 0 ≤ (x9_3 : Int) := q_d
                   have q393 : x9_3 < (t384.length : Int) := q_d
                   obtain ⟨ad393, e393, hx393_0, hx393_1, hx393_2, hx393_3⟩ := at_T49 (Kd.R_reads' HO_388001.out).2.2 x9_3 p393 q393
                   cases e393
                   replace p393 := eq_true p393
                   replace q393 := eq_true q393
                   refine start_ (n := 37) (S := fun w' => w'.cell? ⟨gb387, 0, none⟩ = some (.int .i64 t383) ∧ w'.cell? ⟨gb387, 1, none⟩ = some (.slice (some ad393) t384.length co14) ∧ w'.cell? ⟨gb392, 0, none⟩ = some (.string ((rd_T49 (rd_L5 t380 x5_1) x6_2).f0)) ∧ w'.cell? ⟨gb392, 1, none⟩ = some (.int .i64 ((rd_T49 (rd_L5 t380 x5_1) x6_2).f1)) ∧ w'.cell? ⟨gb392, 2, none⟩ = some (.string ((rd_T49 (rd_L5 t380 x5_1) x6_2).f2)) ∧ w'.cell? ⟨gb392, 3, none⟩ = some (.bool ((rd_T49 (rd_L5 t380 x5_1) x6_2).f3)) ∧ w'.cell? (ad393.add ((x9_3).toNat * 4)) = some (.string ((rd_T49 t384 x9_3).f0)) ∧ w'.cell? ⟨(ad393.add ((x9_3).toNat * 4)).block, (ad393.add ((x9_3).toNat * 4)).off + 1, none⟩ = some (.int .i64 ((rd_T49 t384 x9_3).f1)) ∧ w'.cell? ⟨(ad393.add ((x9_3).toNat * 4)).block, (ad393.add ((x9_3).toNat * 4)).off + 2, none⟩ = some (.string ((rd_T49 t384 x9_3).f2)) ∧ w'.cell? ⟨(ad393.add ((x9_3).toNat * 4)).block, (ad393.add ((x9_3).toNat * 4)).off + 3, none⟩ = some (.bool ((rd_T49 t384 x9_3).f3))) (ds := []) #[false, false, false, false, false, false, false, false, false, false, false, false, false, false, false, false, false, false, false, false, false, false, false, false, false, false, false, false, false, false, false, false, false, false, false, false, false] (by kernel_rfl) rfl rfl ⟨q_z BK387.out 0, q_z BK387.out 1, q_z BK392.out 0, q_z BK392.out 1, q_z BK392.out 2, q_z BK392.out 3, hx393_0, hx393_1, hx393_2, hx393_3⟩ (fun hHeld => ?_); refine with_tabW laws_FnTables.tab20 laws_FnTables.bits20 (fun HT_ HW_ => ?_)
                   generalize wr.drew = w44 at HO_3 HO_388001 BK387 BK392 HR389_0 HR390_0 HB hx393_0 hx393_1 hx393_2 hx393_3 hHeld ⊢
                   refine q_P 0 (some 59) #[true, false, false, false, false, false, false, false, false, false, false, false, false, false, false, false, false, false, false, false, false, false, false, false, false, false, false, false, false, false, false, false, false, false, false, false, false] HT_.out ?_
                   refine q_P 1 (some 60) #[true, true, false, false, false, false, false, false, false, false, false, false, false, false, false, false, false, false, false, false, false, false, false, false, false, false, false, false, false, false, false, false, false, false, false, false, false] HT_.out ?_
                   refine q_P 2 (some 61) #[true, true, true, false, false, false, false, false, false, false, false, false, false, false, false, false, false, false, false, false, false, false, false, false, false, false, false, false, false, false, false, false, false, false, false, false, false] HT_.out ?_
                   refine q_P 4 (some 63) #[true, true, true, false, true, false, false, false, false, false, false, false, false, false, false, false, false, false, false, false, false, false, false, false, false, false, false, false, false, false, false, false, false, false, false, false, false] HT_.out ?_
                   refine q_P 8 (some 67) #[true, true, true, false, true, false, false, false, true, false, false, false, false, false, false, false, false, false, false, false, false, false, false, false, false, false, false, false, false, false, false, false, false, false, false, false, false] HT_.out ?_
                   refine q_t 3 (some 62) #[true, true, true, true, true, false, false, false, true, false, false, false, false, false, false, false, false, false, false, false, false, false, false, false, false, false, false, false, false, false, false, false, false, false, false, false, false] HT_.out HW_.out hHeld ?_
                   refine q_P 5 (some 64) #[true, true, true, true, true, true, false, false, true, false, false, false, false, false, false, false, false, false, false, false, false, false, false, false, false, false, false, false, false, false, false, false, false, false, false, false, false] HT_.out ?_
                   refine q_P 6 (some 65) #[true, true, true, true, true, true, true, false, true, false, false, false, false, false, false, false, false, false, false, false, false, false, false, false, false, false, false, false, false, false, false, false, false, false, false, false, false] HT_.out ?_
                   refine q_t 7 (some 66) #[true, true, true, true, true, true, true, true, true, false, false, false, false, false, false, false, false, false, false, false, false, false, false, false, false, false, false, false, false, false, false, false, false, false, false, false, false] HT_.out HW_.out hHeld ?_
                   refine q_t 9 (some 68) #[true, true, true, true, true, true, true, true, true, true, false, false, false, false, false, false, false, false, false, false, false, false, false, false, false, false, false, false, false, false, false, false, false, false, false, false, false] HT_.out HW_.out hHeld ?_
                   refine q_P 10 (some 69) #[true, true, true, true, true, true, true, true, true, true, true, false, false, false, false, false, false, false, false, false, false, false, false, false, false, false, false, false, false, false, false, false, false, false, false, false, false] HT_.out ?_
                   refine q_P 11 (some 70) #[true, true, true, true, true, true, true, true, true, true, true, true, false, false, false, false, false, false, false, false, false, false, false, false, false, false, false, false, false, false, false, false, false, false, false, false, false] HT_.out ?_
                   refine pure_ (i := 12) (N := some 71) (v := undef) (a' := ?_) #[true, true, true, true, true, true, true, true, true, true, true, true, true, false, false, false, false, false, false, false, false, false, false, false, false, false, false, false, false, false, false, false, false, false, false, false, false] rfl rfl (any_of HT_.out (by kernel_rfl)) (fun _ _ _ h => h) (Or.inr ⟨by rfl, rfl⟩) ?_ ?_
                   rotate_left
                   ·simp only [Act.put, List.setIfInBounds_toArray, List.set_cons_zero, List.set_cons_succ, i64_w, i32_w]
                    rfl
                   refine pure_ (i := 13) (N := some 72) (v := undef) (a' := ?_) #[true, true, true, true, true, true, true, true, true, true, true, true, true, true, false, false, false, false, false, false, false, false, false, false, false, false, false, false, false, false, false, false, false, false, false, false, false] rfl rfl (any_of HT_.out (by kernel_rfl)) (fun _ _ _ h => h) (Or.inr ⟨by rfl, rfl⟩) ?_ ?_
                   rotate_left
                   ·simp only [Act.put, List.setIfInBounds_toArray, List.set_cons_zero, List.set_cons_succ, i64_w, i32_w]
                    rfl
                   refine pure_ (i := 14) (N := some 73) (v := undef) (a' := ?_) #[true, true, true, true, true, true, true, true, true, true, true, true, true, true, true, false, false, false, false, false, false, false, false, false, false, false, false, false, false, false, false, false, false, false, false, false, false] rfl rfl (any_of HT_.out (by kernel_rfl)) (fun _ _ _ h => h) (Or.inr ⟨by rfl, rfl⟩) ?_ ?_
                   rotate_left
                   ·simp only [Act.put, List.setIfInBounds_toArray, List.set_cons_zero, List.set_cons_succ, i64_w, i32_w]
                    rfl
                   refine pure_ (i := 15) (N := some 74) (v := undef) (a' := ?_) #[true, true, true, true, true, true, true, true, true, true, true, true, true, true, true, true, false, false, false, false, false, false, false, false, false, false, false, false, false, false, false, false, false, false, false, false, false] rfl rfl (any_of HT_.out (by kernel_rfl)) (fun _ _ _ h => h) (Or.inr ⟨by rfl, rfl⟩) ?_ ?_
                   rotate_left
                   ·simp only [Act.put, List.setIfInBounds_toArray, List.set_cons_zero, List.set_cons_succ, i64_w, i32_w]
                    rfl
                   refine pure_ (i := 16) (N := some 75) (v := undef) (a' := ?_) #[true, true, true, true, true, true, true, true, true, true, true, true, true, true, true, true, true, false, false, false, false, false, false, false, false, false, false, false, false, false, false, false, false, false, false, false, false] rfl rfl (any_of HT_.out (by kernel_rfl)) (fun _ _ _ h => h) (Or.inr ⟨by rfl, rfl⟩) ?_ ?_
                   rotate_left
                   ·simp only [Act.put, List.setIfInBounds_toArray, List.set_cons_zero, List.set_cons_succ, i64_w, i32_w]
                    rfl
                   refine pure_ (i := 17) (N := some 76) (v := undef) (a' := ?_) #[true, true, true, true, true, true, true, true, true, true, true, true, true, true, true, true, true, true, false, false, false, false, false, false, false, false, false, false, false, false, false, false, false, false, false, false, false] rfl rfl (any_of HT_.out (by kernel_rfl)) (fun _ _ _ h => h) (Or.inr ⟨by rfl, rfl⟩) ?_ ?_
                   rotate_left
                   ·simp only [Act.put, List.setIfInBounds_toArray, List.set_cons_zero, List.set_cons_succ, i64_w, i32_w]
                    rfl
                   refine pure_ (i := 18) (N := some 77) (v := undef) (a' := ?_) #[true, true, true, true, true, true, true, true, true, true, true, true, true, true, true, true, true, true, true, false, false, false, false, false, false, false, false, false, false, false, false, false, false, false, false, false, false] rfl rfl (any_of HT_.out (by kernel_rfl)) (fun _ _ _ h => h) (Or.inr ⟨by rfl, rfl⟩) ?_ ?_
                   rotate_left
                   ·simp only [Act.put, List.setIfInBounds_toArray, List.set_cons_zero, List.set_cons_succ, i64_w, i32_w]
                    rfl
                   refine pure_ (i := 19) (N := some 78) (v := undef) (a' := ?_) #[true, true, true, true, true, true, true, true, true, true, true, true, true, true, true, true, true, true, true, true, false, false, false, false, false, false, false, false, false, false, false, false, false, false, false, false, false] rfl rfl (any_of HT_.out (by kernel_rfl)) (fun _ _ _ h => h) (Or.inr ⟨by rfl, rfl⟩) ?_ ?_
                   rotate_left
                   ·simp only [Act.put, List.setIfInBounds_toArray, List.set_cons_zero, List.set_cons_succ, i64_w, i32_w]
                    rfl
                   refine pure_ (i := 20) (N := some 79) (v := undef) (a' := ?_) #[true, true, true, true, true, true, true, true, true, true, true, true, true, true, true, true, true, true, true, true, true, false, false, false, false, false, false, false, false, false, false, false, false, false, false, false, false] rfl rfl (any_of HT_.out (by kernel_rfl)) (fun _ _ _ h => h) (Or.inr ⟨by rfl, rfl⟩) ?_ ?_
                   rotate_left
                   ·simp only [Act.put, List.setIfInBounds_toArray, List.set_cons_zero, List.set_cons_succ, i64_w, i32_w]
                    rfl
                   refine q_P 21 (some 80) #[true, true, true, true, true, true, true, true, true, true, true, true, true, true, true, true, true, true, true, true, true, true, false, false, false, false, false, false, false, false, false, false, false, false, false, false, false] HT_.out ?_
                   refine q_P 22 (some 81) #[true, true, true, true, true, true, true, true, true, true, true, true, true, true, true, true, true, true, true, true, true, true, true, false, false, false, false, false, false, false, false, false, false, false, false, false, false] HT_.out ?_
                   refine pure_ (i := 23) (N := some 82) (v := undef) (a' := ?_) #[true, true, true, true, true, true, true, true, true, true, true, true, true, true, true, true, true, true, true, true, true, true, true, true, false, false, false, false, false, false, false, false, false, false, false, false, false] rfl rfl (any_of HT_.out (by kernel_rfl)) (fun _ _ _ h => h) (Or.inr ⟨by rfl, rfl⟩) ?_ ?_
                   rotate_left
                   ·simp only [Act.put, List.setIfInBounds_toArray, List.set_cons_zero, List.set_cons_succ, i64_w, i32_w]
                    rfl
                   refine pure_ (i := 24) (N := some 83) (v := undef) (a' := ?_) #[true, true, true, true, true, true, true, true, true, true, true, true, true, true, true, true, true, true, true, true, true, true, true, true, true, false, false, false, false, false, false, false, false, false, false, false, false] rfl rfl (any_of HT_.out (by kernel_rfl)) (fun _ _ _ h => h) (Or.inr ⟨by rfl, rfl⟩) ?_ ?_
                   rotate_left
                   ·simp only [Act.put, List.setIfInBounds_toArray, List.set_cons_zero, List.set_cons_succ, i64_w, i32_w]
                    rfl
                   refine pure_ (i := 25) (N := some 84) (v := undef) (a' := ?_) #[true, true, true, true, true, true, true, true, true, true, true, true, true, true, true, true, true, true, true, true, true, true, true, true, true, true, false, false, false, false, false, false, false, false, false, false, false] rfl rfl (any_of HT_.out (by kernel_rfl)) (fun _ _ _ h => h) (Or.inr ⟨by rfl, rfl⟩) ?_ ?_
                   rotate_left
                   ·simp only [Act.put, List.setIfInBounds_toArray, List.set_cons_zero, List.set_cons_succ, i64_w, i32_w]
                    rfl
                   refine pure_ (i := 26) (N := some 85) (v := undef) (a' := ?_) #[true, true, true, true, true, true, true, true, true, true, true, true, true, true, true, true, true, true, true, true, true, true, true, true, true, true, true, false, false, false, false, false, false, false, false, false, false] rfl rfl (any_of HT_.out (by kernel_rfl)) (fun _ _ _ h => h) (Or.inr ⟨by rfl, rfl⟩) ?_ ?_
                   rotate_left
                   ·simp only [Act.put, List.setIfInBounds_toArray, List.set_cons_zero, List.set_cons_succ, i64_w, i32_w]
                    rfl
                   refine pure_ (i := 27) (N := some 86) (v := undef) (a' := ?_) #[true, true, true, true, true, true, true, true, true, true, true, true, true, true, true, true, true, true, true, true, true, true, true, true, true, true, true, true, false, false, false, false, false, false, false, false, false] rfl rfl (any_of HT_.out (by kernel_rfl)) (fun _ _ _ h => h) (Or.inr ⟨by rfl, rfl⟩) ?_ ?_
                   rotate_left
                   ·simp only [Act.put, List.setIfInBounds_toArray, List.set_cons_zero, List.set_cons_succ, i64_w, i32_w]
                    rfl
                   refine pure_ (i := 28) (N := some 87) (v := undef) (a' := ?_) #[true, true, true, true, true, true, true, true, true, true, true, true, true, true, true, true, true, true, true, true, true, true, true, true, true, true, true, true, true, false, false, false, false, false, false, false, false] rfl rfl (any_of HT_.out (by kernel_rfl)) (fun _ _ _ h => h) (Or.inr ⟨by rfl, rfl⟩) ?_ ?_
                   rotate_left
                   ·simp only [Act.put, List.setIfInBounds_toArray, List.set_cons_zero, List.set_cons_succ, i64_w, i32_w]
                    rfl
                   refine pure_ (i := 29) (N := some 88) (v := undef) (a' := ?_) #[true, true, true, true, true, true, true, true, true, true, true, true, true, true, true, true, true, true, true, true, true, true, true, true, true, true, true, true, true, true, false, false, false, false, false, false, false] rfl rfl (any_of HT_.out (by kernel_rfl)) (fun _ _ _ h => h) (Or.inr ⟨by rfl, rfl⟩) ?_ ?_
                   rotate_left
                   ·simp only [Act.put, List.setIfInBounds_toArray, List.set_cons_zero, List.set_cons_succ, i64_w, i32_w]
                    rfl
                   refine pure_ (i := 30) (N := some 89) (v := undef) (a' := ?_) #[true, true, true, true, true, true, true, true, true, true, true, true, true, true, true, true, true, true, true, true, true, true, true, true, true, true, true, true, true, true, true, false, false, false, false, false, false] rfl rfl (any_of HT_.out (by kernel_rfl)) (fun _ _ _ h => h) (Or.inr ⟨by rfl, rfl⟩) ?_ ?_
                   rotate_left
                   ·simp only [Act.put, List.setIfInBounds_toArray, List.set_cons_zero, List.set_cons_succ, i64_w, i32_w]
                    rfl
                   refine pure_ (i := 31) (N := some 90) (v := undef) (a' := ?_) #[true, true, true, true, true, true, true, true, true, true, true, true, true, true, true, true, true, true, true, true, true, true, true, true, true, true, true, true, true, true, true, true, false, false, false, false, false] rfl rfl (any_of HT_.out (by kernel_rfl)) (fun _ _ _ h => h) (Or.inr ⟨by rfl, rfl⟩) ?_ ?_
                   rotate_left
                   ·simp only [Act.put, List.setIfInBounds_toArray, List.set_cons_zero, List.set_cons_succ, i64_w, i32_w]
                    rfl
                   refine pure_ (i := 32) (N := some 91) (v := undef) (a' := ?_) #[true, true, true, true, true, true, true, true, true, true, true, true, true, true, true, true, true, true, true, true, true, true, true, true, true, true, true, true, true, true, true, true, true, false, false, false, false] rfl rfl (any_of HT_.out (by kernel_rfl)) (fun _ _ _ h => h) (Or.inr ⟨by rfl, rfl⟩) ?_ ?_
                   rotate_left
                   ·simp only [Act.put, List.setIfInBounds_toArray, List.set_cons_zero, List.set_cons_succ, i64_w, i32_w]
                    rfl
                   refine pure_ (i := 33) (N := some 92) (v := undef) (a' := ?_) #[true, true, true, true, true, true, true, true, true, true, true, true, true, true, true, true, true, true, true, true, true, true, true, true, true, true, true, true, true, true, true, true, true, true, false, false, false] rfl rfl (any_of HT_.out (by kernel_rfl)) (fun _ _ _ h => h) (Or.inr ⟨by rfl, rfl⟩) ?_ ?_
                   rotate_left
                   ·simp only [Act.put, List.setIfInBounds_toArray, List.set_cons_zero, List.set_cons_succ, i64_w, i32_w]
                    rfl
                   refine q_P 34 (some 93) #[true, true, true, true, true, true, true, true, true, true, true, true, true, true, true, true, true, true, true, true, true, true, true, true, true, true, true, true, true, true, true, true, true, true, true, false, false] HT_.out ?_
                   refine q_P 35 (some 94) #[true, true, true, true, true, true, true, true, true, true, true, true, true, true, true, true, true, true, true, true, true, true, true, true, true, true, true, true, true, true, true, true, true, true, true, true, false] HT_.out ?_
                   refine q_P 36 (some 8) #[true, true, true, true, true, true, true, true, true, true, true, true, true, true, true, true, true, true, true, true, true, true, true, true, true, true, true, true, true, true, true, true, true, true, true, true, true] HT_.out ?_
                   refine done_ (done_of HT_.out (by kernel_rfl)) ?_
                   try go_wp2
                   go_roundg k3
                   case measure => have := HK1.out; have := HK2.out; have := HK3.out; omega
                   case rel => exact ⟨(false), (wrap64 (x9_3 + 1)), q_i, q_i, H', ⟨by have := HK1.out; have := HK2.out; have := HK3.out; omega⟩, ⟨q_s (HO_3.out)⟩, ⟨q_r (HO_388001.out)⟩, ⟨q_b BK387.out⟩, ⟨q_b BK392.out⟩, ⟨by repeat (first | (with_reducible exact HR389_0.out) | (with_reducible refine Kd.C_alloc ?_ _) | (with_reducible refine Kd.C_drewN ?_ _) | (with_reducible refine Kd.C_drew ?_) | exact HR389_0.out)⟩, ⟨by repeat (first | (with_reducible exact HR390_0.out) | (with_reducible refine Kd.C_alloc ?_ _) | (with_reducible refine Kd.C_drewN ?_ _) | (with_reducible refine Kd.C_drew ?_) | exact HR390_0.out)⟩, ⟨bq⟩⟩
                 ·rw [if_neg c29] at H
                  exact absurd H (by simp)
               ·rw [if_neg c24] at H
                have c24b0 := decide_eq_false c24
                clear c24
                by_cases c45 : x8_3 = true
                ·subst c45
                 have H1 : (laws_FnTables.l1 k3 t380 x5_1 (wrap64 (x6_2 + 1)) t383 t384) = some r := by rw [if_pos rfl] at H; exact H
                 clear H
                 have H := H1
                 clear H1
                 have H' := am H
                 clear H
                 have hnb46 := NB387_392.out
                 have hnc46 := NB392_387.out
                 obtain ⟨hcz47_0, hcz47_1, hfz47_0, hfz47_1⟩ := q_2 BK387.out
                 go_wp2
                 go_roundg k3
                 case measure => have := HK1.out; have := HK2.out; have := HK3.out; omega
                 case rel => exact ⟨(wrap64 (x6_2 + 1)), q_i, H', ⟨by have := HK1.out; have := HK2.out; have := HK3.out; omega⟩, ⟨q_s (Kd.S_mono HO_3.out (fun _ hk => hk.1))⟩, ⟨q_r (Kd.R_mono HO_388001.out (fun _ hk => trivial))⟩, ⟨q_b BK387.out⟩, ⟨bq⟩⟩
                ·replace c45 := Bool.eq_false_iff.mpr c45
                 subst c45
                 have H1 : (none) = some r := by rw [if_neg (show ¬ (false = true) by decide)] at H; exact H
                 clear H
                 have H := H1
                 clear H1
                 exact absurd H (by simp)
            ·rw [if_neg c20] at H
             exact absurd H (by simp)
           ·rw [if_neg c19] at H
            have c19b0 := decide_eq_false c19
            clear c19
            have H' := am H
            clear H
            have p389 : 0 ≤ (x5_1 : Int) := q_d
            have q389 : x5_1 < (t380.length : Int) := q_d
            obtain ⟨ad389, A389_0, c389_0, e389, hx389_0, hl389_0, hi389_0⟩ := at_L5 (Kd.S_reads' HO_3.out).2.2 x5_1 p389 q389
            cases e389
            obtain ⟨ce389, hce389, hMe389, hcc389⟩ := Kd.S_get HO_3.out [] x5_1 p389 (by first | exact q389 | exact q_d | (have e_ := (Kd.S_reads' HO_3.out).1; omega))
            obtain ⟨ve389_0, rfl, ge389_0⟩ := hMe389
            have hv389_0 := hcc389 0 _ rfl
            rw [Nat.add_zero, show ((Kd.slice 49 k49)).sz = 1 from rfl, Nat.mul_one] at hv389_0
            replace hv389_0 := Option.some.inj (hv389_0.symm.trans hx389_0)
            rw [hv389_0] at ge389_0
            have HL389_0 := am (show Kd.R k49 49 _ _ _ _ (rd_L5 t380 x5_1) from ge389_0)
            clear hv389_0 ge389_0
            clear hcc389 hce389
            have HR389_0 := am hi389_0
            have HC389_0 := am hl389_0
            clear hi389_0 hl389_0
            replace p389 := eq_true p389
            replace q389 := eq_true q389
            go_wp2
            go_roundg k2
            case measure => have := HK1.out; have := HK2.out; omega
            case rel => exact ⟨(wrap64 (x5_1 - 1)), q_i, H', ⟨by have := HK1.out; have := HK2.out; omega⟩, ⟨q_s (HO_3.out)⟩, ⟨q_r (HO_388001.out)⟩, ⟨q_b BK387.out⟩, ⟨bq⟩⟩
          ·rw [if_neg c18] at H
           exact absurd H (by simp)
         ·rw [if_neg c17] at H
          exact absurd H (by simp)
      ·rw [if_neg c16] at H
       have c16b0 := decide_eq_false c16
       clear c16
       replace H := ob H
       obtain ⟨⟨t396, t397⟩, A480, H⟩ := H
       replace H : (some ((t384.length : Int) == (t397.length : Int))) = some r := H
       have A48 := am A480
       clear A480
       obtain rfl := Option.some.inj H
       try go_wp2
       have n0_ := am (Kd.S_drew HO_3.out)
       have n1_ := am (Kd.R_drew HO_388001.out)
       have n2_ := am (blk_drew BK387.out)
       have n3_ := am (below_drew1 HB.out)
       clear HO_3
       clear HO_388001
       clear BK387
       clear HB
       have HO_3 := n0_
       have HO_388001 := n1_
       have BK387 := n2_
       have HB := n3_
       clear n0_ n1_ n2_ n3_
       refine start_ (n := 9) (S := fun w' => w'.cell? ⟨gb387, 0, none⟩ = some (.int .i64 t383) ∧ w'.cell? ⟨gb387, 1, none⟩ = some (.slice Ao14 t384.length co14)) (ds := []) #[false, false, false, false, false, false, false, false, false] (by kernel_rfl) rfl rfl ⟨q_z BK387.out 0, q_z BK387.out 1⟩ (fun hHeld => ?_); refine with_tabW laws_FnTables.tab23 laws_FnTables.bits23 (fun HT_ HW_ => ?_)
       generalize wr.drew = w49 at HO_3 HO_388001 BK387 HB hHeld ⊢
       refine q_P 0 (some 97) #[true, false, false, false, false, false, false, false, false] HT_.out ?_
       refine q_P 3 (some 100) #[true, false, false, true, false, false, false, false, false] HT_.out ?_
       refine q_t 1 (some 98) #[true, true, false, true, false, false, false, false, false] HT_.out HW_.out hHeld ?_
       refine q_P 2 (some 99) #[true, true, true, true, false, false, false, false, false] HT_.out ?_
       refine one_ (i := 4) (N := some 101) #[true, true, true, true, true, false, false, false, false] rfl rfl (one_of HT_.out (by kernel_rfl)) (by decide) (fun K hK => ?_)
       refine goes_ Try.func57 (by kernel_rfl) rfl #[.slice Ao10 t380.length co10] (by rfl) rfl rfl (by (try simp only [List.map_toArray, List.map_cons, List.map_nil]); first | done | rfl | (simp only [List.length_drop, List.length_take]; rfl)) ?_
       with_reducible refine (spec_MergeTables.calls k1 _ _ t380 t396 t397 _ ?side1 ?side2 A48.out).mono ?_
       (case side1 => exact q_c ((Kd.S_reads' HO_3.out).2.2))
       (case side2 => exact (Kd.S_reads' HO_3.out).2.1)
       rintro e w50 ⟨v398, rfl, ho0, hb⟩
       refine ⟨_, rfl, ?_⟩
       have n0_ := am (Kd.S_elder' (q_s (HO_3.out)) (Kd.R_base ho0) hb)
       have n1_ := am (Kd.R_elder' (q_r (HO_388001.out)) (Kd.R_base ho0) hb)
       have n2_ := am (Kd.R_lower (Kd.R_new' ho0 (Kd.R_lt (q_r (HO_388001.out)))) (below_size bq))
       have n3_ := am (blk_below (q_b BK387.out) hb)
       have n4_ := am (below_step bq hb)
       clear HO_3
       clear HO_388001
       clear BK387
       clear HB
       have HO_3 := n0_
       have HO_388001 := n1_
       have HO399 := n2_
       have BK387 := n3_
       have HB := n4_
       clear n0_ n1_ n2_ n3_ n4_
       (try clear hb)
       (try clear hb2)
       (try clear hk)
       (try clear hi)
       (try clear ho0)
       obtain ⟨Ao51, co51, eo51⟩ := Kd.R_slice HO399.out
       (first | subst eo51 | (injection eo51 with f1_ f2_ f3_; have f4_ := f1_.symm; have f5_ := f3_.symm; clear f1_ f2_ f3_; subst f4_; subst f5_))
       refine hK.out _ _ ⟨q_z BK387.out 0, q_z BK387.out 1⟩ (fun hHeld => ?_)
       clear hK K
       refine norm_ (a' := ?_) ?_ ?_
       rotate_left
       ·show Act.put _ (some 101) _ = _
        simp only [Act.put, List.setIfInBounds_toArray, List.set_cons_zero, List.set_cons_succ, i64_w, i32_w]
        rfl
       refine q_P 5 (some 102) #[true, true, true, true, true, true, false, false, false] HT_.out ?_
       refine q_P 6 (some 103) #[true, true, true, true, true, true, true, false, false] HT_.out ?_
       refine q_P 7 (some 104) #[true, true, true, true, true, true, true, true, false] HT_.out ?_
       refine q_P 8 (some 2) #[true, true, true, true, true, true, true, true, true] HT_.out ?_
       refine done_ (done_of HT_.out (by kernel_rfl)) ?_
       try go_wp2
       go_ret
       exact ⟨q_e, bq⟩
   ·rw [if_neg c8] at H
    exact absurd H (by simp)
  ·rw [if_neg c6] at H
   have c6b0 : (t383 == 0) = false := beq_eq_false_iff_ne.mpr c6
   have c6b1 : (t383 != 0) = true := bne_iff_ne.mpr c6
   replace H := ob H
   obtain ⟨⟨t400, t401⟩, A520, H⟩ := H
   replace H : (some (t400 == t383)) = some r := H
   have A52 := am A520
   clear A520
   obtain rfl := Option.some.inj H
   go_enter Try.func13, Try.ntmps13
   try go_wp2_with (first | ((with_reducible refine gate_callee (f := 28) rfl ?_); refine goesLq (some 11) rfl rfl Try.func28 (by kernel_rfl) rfl #[.slice A0 l0.length c0] rfl ?_; (with_reducible refine (laws_lwBig.calls _ _ l0 false _ ?side1 ?side2 A2.out).mono ?_); (case side1 => exact q_c (HR0.out)); (case side2 => exact HC0.out); rintro e w' ⟨rfl, ⟨nd, rfl⟩⟩; refine ⟨_, rfl, ?_⟩) | ((with_reducible refine gate_callee (f := 55) rfl ?_); refine goesLq (some 13) rfl rfl Try.func55 (by kernel_rfl) rfl #[.slice A0 l0.length c0] rfl ?_; (with_reducible refine (spec_DrawMergeTables.calls k _ _ l0 t380 _ ?side1 ?side2 A4.out).mono ?_); (case side1 => exact q_c (HR0.out)); (case side2 => exact HC0.out); rintro e w53 ⟨v381, rfl, ho0, hb⟩; refine ⟨_, rfl, ?_⟩; have n0_ := am (Kd.S_lower ho0 (below_size bq)); have n1_ := am (below_step bq hb); revert n0_ n1_; clear HB; intro HO382 HB; (try clear hb); (try clear hb2); (try clear hk); (try clear hi); (try clear ho0); obtain ⟨Ao54, co54, eo54⟩ := Kd.S_slice HO382.out; subst eo54) | ((with_reducible refine gate_callee (f := 56) rfl ?_); refine goesLq (some 15) rfl rfl Try.func56 (by kernel_rfl) rfl #[.slice Ao54 t380.length co54] rfl ?_; (with_reducible refine (impl_MergeTables.calls k _ _ t380 t383 t384 _ ?side1 ?side2 A5.out).mono ?_); (case side1 => exact q_c ((Kd.S_reads' HO382.out).2.2)); (case side2 => exact (Kd.S_reads' HO382.out).2.1); rintro e w55 ⟨v385, rfl, ho0, hb⟩; refine ⟨_, rfl, ?_⟩; have n0_ := am (Kd.S_elder' (q_s (HO382.out)) (Kd.R_base ho0) hb); have n1_ := am (Kd.R_lower ho0 (below_size bq)); have n2_ := am (below_step bq hb); revert n0_ n1_ n2_; clear HO382 HB; intro HO382 HO386 HB; (try clear hb); (try clear hb2); (try clear hk); (try clear hi); (try clear ho0)) | ((with_reducible refine gate_dst (N := 4) rfl ?_); refine q_box (N := 4) (cs := #[.int .i64 0, .slice none 0 0]) (t := 46) ?_; intro gb387 hg w56 hbox hb; have n0_ := am (Kd.S_below (q_s (HO382.out)) hb); have n1_ := am (Kd.R_below (q_r (HO386.out)) hb); have n2_ := am (below_step bq hb); have n3_ := am (hbox); have n4_ := am ((q_g hg bq : w.heap.size ≤ gb387)); have n5_ := n4_; revert n0_ n1_ n2_ n3_ n4_ n5_; clear HO382 HO386 HB; intro HO382 HO386 HB BK387 GW387 GE387; clear hb hbox hg; obtain ⟨hcz57_0, hcz57_1, hfz57_0, hfz57_1⟩ := q_2 BK387.out; obtain ⟨Ao58, co58, eo58⟩ := Kd.R_slice HO386.out; subst eo58))
   have n0_ : Aside0 (Kd.S (Kd.slice 49 k49) 25 ((w56.setCell ⟨gb387, 0, none⟩ (.int .i64 t383)).setCell ⟨gb387, 1, none⟩ (.slice Ao58 t384.length co58)) w.heap.size (fun k_ => some k_ ≠ (.slice Ao58 t384.length co58 : Value).ownBlock) (.slice Ao54 t380.length co54) t380) := ⟨by (with_reducible repeat (first | apply Kd.S_alloc | apply Kd.S_drewN | apply Kd.S_drew)); exact Kd.S_mono (Kd.S_far (p := ⟨gb387, 1, none⟩) (Kd.S_far (p := ⟨gb387, 0, none⟩) (Kd.S_types HO382.out BK387.out (by decide)) (fun _ hk => hk.2) (.int .i64 t383)) (fun _ hk => hk.2) (.slice Ao58 t384.length co58)) (fun _ hk => hk.1.2)⟩
   have n1_ : Aside0 (Kd.R k49 49 ((w56.setCell ⟨gb387, 0, none⟩ (.int .i64 t383)).setCell ⟨gb387, 1, none⟩ (.slice Ao58 t384.length co58)) w.heap.size (fun _ => True) (.slice Ao58 t384.length co58) t384) := ⟨by (with_reducible repeat (first | apply Kd.R_alloc | apply Kd.R_drewN | apply Kd.R_drew)); exact Kd.R_mono (Kd.R_far (p := ⟨gb387, 1, none⟩) (Kd.R_far (p := ⟨gb387, 0, none⟩) (Kd.R_types HO386.out BK387.out (by decide)) (fun _ hk => hk.2) (.int .i64 t383)) (fun _ hk => hk.2) (.slice Ao58 t384.length co58)) (fun _ hk => trivial)⟩
   have n2_ : Aside0 (((w56.setCell ⟨gb387, 0, none⟩ (.int .i64 t383)).setCell ⟨gb387, 1, none⟩ (.slice Ao58 t384.length co58)).heap[gb387]? = some (.cells #[.int .i64 t383, .slice Ao58 t384.length co58] 46 (0, 0))) := ⟨by (with_reducible repeat (first | refine blk_drewN ?_ _ | refine blk_drew ?_ | refine blk_alloc ?_ _)); refine blk_put (cs := #[.int .i64 t383, .slice none 0 0]) ?_ 1 _ rfl; (with_reducible repeat (first | refine blk_drewN ?_ _ | refine blk_drew ?_ | refine blk_alloc ?_ _)); refine blk_put (cs := #[.int .i64 0, .slice none 0 0]) ?_ 0 _ rfl; (with_reducible repeat (first | refine blk_drewN ?_ _ | refine blk_drew ?_ | refine blk_alloc ?_ _)); exact BK387.out⟩
   have n3_ : Aside0 (Below w.heap.size w ((w56.setCell ⟨gb387, 0, none⟩ (.int .i64 t383)).setCell ⟨gb387, 1, none⟩ (.slice Ao58 t384.length co58))) := ⟨bq⟩
   (try clear HO382)
   (try clear HO386)
   (try clear BK387)
   (try clear HB)
   generalize ((w56.setCell ⟨gb387, 0, none⟩ (.int .i64 t383)).setCell ⟨gb387, 1, none⟩ (.slice Ao58 t384.length co58)) = w59 at n0_ n1_ n2_ n3_ ⊢
   have HO382 := n0_
   have HO386 := n1_
   have BK387 := n2_
   have HB := n3_
   clear n0_ n1_ n2_ n3_
   have n0_ := am (Kd.S_drew HO382.out)
   have n1_ := am (Kd.R_drew HO386.out)
   have n2_ := am (blk_drew BK387.out)
   have n3_ := am (below_drew1 HB.out)
   clear HO382
   clear HO386
   clear BK387
   clear HB
   have HO382 := n0_
   have HO386 := n1_
   have BK387 := n2_
   have HB := n3_
   clear n0_ n1_ n2_ n3_
   refine start_ (n := 7) (S := fun w' => w'.cell? ⟨gb387, 0, none⟩ = some (.int .i64 t383) ∧ w'.cell? ⟨gb387, 1, none⟩ = some (.slice Ao58 t384.length co58)) (ds := []) #[false, false, false, false, false, false, false] (by kernel_rfl) rfl rfl ⟨q_z BK387.out 0, q_z BK387.out 1⟩ (fun hHeld => ?_)
   generalize w59.drew = w60 at HO382 HO386 BK387 HB hHeld ⊢
   refine pure_ (i := 0) (N := some 19) (v := ?_) (a' := ?_) #[true, false, false, false, false, false, false] rfl rfl (by kernel_rfl) (fun _ _ _ h => h) (Or.inl ⟨by rfl, ?_⟩) ?_ ?_
   rotate_left
   ·intro w'
    go_simp
    (try (simp only [Instr.field, asAgg]; go_simp))
    with_reducible rfl
   rotate_left
   ·simp only [Act.put, List.setIfInBounds_toArray, List.set_cons_zero, List.set_cons_succ, i64_w, i32_w]
    rfl
   refine pure_ (i := 3) (N := some 22) (v := ?_) (a' := ?_) #[true, false, false, true, false, false, false] rfl rfl (by kernel_rfl) (fun _ _ _ h => h) (Or.inl ⟨by rfl, ?_⟩) ?_ ?_
   rotate_left
   ·intro w'
    go_simp
    (try (simp only [Instr.field, asAgg]; go_simp))
    with_reducible rfl
   rotate_left
   ·simp only [Act.put, List.setIfInBounds_toArray, List.set_cons_zero, List.set_cons_succ, i64_w, i32_w]
    rfl
   refine take_ (i := 4) (N := some 23) (v := ?_) (a' := ?_) #[true, false, false, true, true, false, false] rfl rfl (by kernel_rfl) (fun _ _ _ h => h) (Or.inl ⟨by rfl, ?_⟩) hHeld ?_ ?_
   rotate_left
   ·rintro w' ⟨s0, s1⟩
    go_simp
    with_reducible rfl
   rotate_left
   ·simp only [Act.put, List.setIfInBounds_toArray, List.set_cons_zero, List.set_cons_succ, i64_w, i32_w]
    rfl
   refine one_ (i := 1) (N := some 20) #[true, true, false, true, true, false, false] rfl rfl (by kernel_rfl) (by decide) (fun K hK => ?_)
   refine goes_ Try.func57 (by kernel_rfl) rfl #[.slice Ao54 t380.length co54] (by rfl) rfl rfl (by (try simp only [List.map_toArray, List.map_cons, List.map_nil]); first | done | rfl | (simp only [List.length_drop, List.length_take]; rfl)) ?_
   with_reducible refine (spec_MergeTables.calls k _ _ t380 t400 t401 _ ?side1 ?side2 A52.out).mono ?_
   (case side1 => exact q_c ((Kd.S_reads' HO382.out).2.2))
   (case side2 => exact (Kd.S_reads' HO382.out).2.1)
   rintro e w61 ⟨v402, rfl, ho0, hb⟩
   refine ⟨_, rfl, ?_⟩
   have n0_ := am (Kd.S_elder' (q_s (HO382.out)) (Kd.R_base ho0) hb)
   have n1_ := am (Kd.R_elder' (q_r (HO386.out)) (Kd.R_base ho0) hb)
   have n2_ := am (Kd.R_lower (Kd.R_new' ho0 (Kd.R_lt (q_r (HO386.out)))) (below_size bq))
   have n3_ := am (blk_below (q_b BK387.out) hb)
   have n4_ := am (below_step bq hb)
   clear HO382
   clear HO386
   clear BK387
   clear HB
   have HO382 := n0_
   have HO386 := n1_
   have HO403 := n2_
   have BK387 := n3_
   have HB := n4_
   clear n0_ n1_ n2_ n3_ n4_
   (try clear hb)
   (try clear hb2)
   (try clear hk)
   (try clear hi)
   (try clear ho0)
   refine hK.out _ _ ⟨q_z BK387.out 0, q_z BK387.out 1⟩ (fun hHeld => ?_)
   clear hK K
   refine norm_ (a' := ?_) ?_ ?_
   rotate_left
   ·show Act.put _ (some 20) _ = _
    simp only [Act.put, List.setIfInBounds_toArray, List.set_cons_zero, List.set_cons_succ, i64_w, i32_w]
    rfl
   refine pure_ (i := 2) (N := some 21) (v := ?_) (a' := ?_) #[true, true, true, true, true, false, false] rfl rfl (by kernel_rfl) (fun _ _ _ h => h) (Or.inl ⟨by rfl, ?_⟩) ?_ ?_
   rotate_left
   ·intro w'
    go_simp
    (try (simp only [Instr.field, asAgg]; go_simp))
    with_reducible rfl
   rotate_left
   ·simp only [Act.put, List.setIfInBounds_toArray, List.set_cons_zero, List.set_cons_succ, i64_w, i32_w]
    rfl
   refine pure_ (i := 5) (N := some 24) (v := ?_) (a' := ?_) #[true, true, true, true, true, true, false] rfl rfl (by kernel_rfl) (fun _ _ _ h => h) (Or.inl ⟨by rfl, ?_⟩) ?_ ?_
   rotate_left
   ·intro w'
    go_simp
    (try (simp only [Instr.field, asAgg]; go_simp))
    with_reducible rfl
   rotate_left
   ·simp only [Act.put, List.setIfInBounds_toArray, List.set_cons_zero, List.set_cons_succ, i64_w, i32_w]
    rfl
   refine pure_ (i := 6) (N := some 2) (v := ?_) (a' := ?_) #[true, true, true, true, true, true, true] rfl rfl (by kernel_rfl) (fun _ _ _ h => h) (Or.inl ⟨by rfl, ?_⟩) ?_ ?_
   rotate_left
   ·intro w'
    go_simp
    (try (simp only [Instr.field, asAgg]; go_simp))
    with_reducible rfl
   rotate_left
   ·simp only [Act.put, List.setIfInBounds_toArray, List.set_cons_zero, List.set_cons_succ, i64_w, i32_w]
    rfl
   refine done_ (by kernel_rfl) ?_
   try go_wp2
   go_ret
   exact ⟨q_e, bq⟩

end Go.Proofs.Ytdhlcnlcpjlliaa.PFnTables
