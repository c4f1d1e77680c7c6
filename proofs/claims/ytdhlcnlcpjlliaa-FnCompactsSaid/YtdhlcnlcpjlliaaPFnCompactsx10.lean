/- The functions that a law reaches, each as a plain Lean function with the proof that the machine comes to its answer: written by program (the kit's print, turned by wip/gen). No conditions. -/
import Derived.Test.YtdhlcnlcpjlliaaPFnCompactsx0
import Derived.Test.YtdhlcnlcpjlliaaPFnCompactsx1
import Derived.Test.YtdhlcnlcpjlliaaPFnCompactsx3
import Derived.Test.YtdhlcnlcpjlliaaPFnCompactsx4
import Derived.Test.YtdhlcnlcpjlliaaPFnCompactsx6
import Derived.Test.YtdhlcnlcpjlliaaPFnCompactsx7
import Derived.Test.YtdhlcnlcpjlliaaPFnCompactsx9
namespace Go.Proofs.Ytdhlcnlcpjlliaa.PFnCompacts
open Go.RowKit Go.Proofs.YtdhlcnlcpjlliaaW.PrintWords Go.Proofs.YtdhlcnlcpjlliaaW.PrintLast Go.Proofs.YtdhlcnlcpjlliaaW.PrintMore
attribute [local go_sem] max2_int min2_int max_two min_two max_three min_three max_four min_four   -- for this text's walks alone
set_option linter.unusedVariables false
set_option linter.unusedSimpArgs false
theorem q_P {P : Program} {ops : Array Oper} {Q : Exit → Act → World → Prop} {md : Region.Mode} {S : World → Prop} {ds : List Nat} {T : Bool × List (List Nat × List Nat)} (i : Nat) (N : Option Tmp) {oi : Oper} {v : Value} {fuel : Nat} {l : Array Bool} {a : Act} {w : World} (l' : Array Bool) (hT : rtab md ops = T) {a' : Act}
    (h : wpAnyLast P md ops Q S ds fuel l' a' w) (hi : ops[i]? = some oi := by rfl) (hN : oi.dst = N := by rfl) (hc : anyT T l.toList l'.toList i = true := by kernel_rfl) (hQ : ∀ c a w, Q (.panic c) (a.put oi.dst v) w → Q (.panic c) a w := by exact fun _ _ _ h => h)
    (hy : Yields P ops oi v a := by refine Or.inl ⟨by rfl, ?_⟩; intro w'; go_simp; (try (simp only [Instr.field, asAgg]; go_simp)); with_reducible rfl) (ha : a.put N v = a' := by simp only [Act.put, List.setIfInBounds_toArray, List.set_cons_zero, List.set_cons_succ, i64_w, i32_w]; rfl) : wpAnyLast P md ops Q S ds (fuel + 1) l a w := pure_ l' hi hN (any_of hT hc) hQ hy ha h

attribute [local go_sem high] eqA37
/-! ### laws_FnCompacts: function 6 -/
mutual
def laws_FnCompacts.l0 : Nat → List (S49) → Int → Int → Int → List (S49) → Option (Bool)
  | 0, _, _, _, _, _ => none
  | k + 1, x3, x4, x6, x386000, x386001 => if x6 < 12 then (if x6 < x4 then (laws_FnCompacts.l0 k x3 x4 (wrap64 (x6 + 1)) x386000 x386001) else (laws_FnCompacts.l1 k x3 x4 x6 0 x386000 x386001)) else (some true)
def laws_FnCompacts.l1 : Nat → List (S49) → Int → Int → Int → Int → List (S49) → Option (Bool)
  | 0, _, _, _, _, _, _ => none
  | k + 1, x3, x4, x6, x7, x386000, x386001 => if x7 < (x3.length : Int) then (if 0 ≤ x7 then ((impl_GetRow.f k x386001 ((rd_T49 x3 x7).f0) x6).bind fun bt392 => ((impl_GetRow.f k x3 ((rd_T49 x3 x7).f0) x6).bind fun bt395 => (if (!(bt392.1 == bt395.1) || (!(bt392.2.toList == bt395.2.toList))) = true then (none) else (laws_FnCompacts.l1 k x3 x4 x6 (wrap64 (x7 + 1)) x386000 x386001)))) else (none)) else (laws_FnCompacts.l0 k x3 x4 (wrap64 (x6 + 1)) x386000 x386001)
end
def laws_FnCompacts.f (k : Nat) (l0 : List Int) : Option (Bool) := (laws_lwBig.f l0).bind fun t376 => (if t376 = true then (some true) else ((spec_DrawCompactTable.f k l0).bind fun bt377 => ((impl_CompactTable.f k bt377.1 bt377.2).bind fun bt381 => (if bt381.1 = 0 then ((impl_TableFault.f k bt381.2).bind fun t386 => (if t386 = 0 then (if (bt381.2.length : Int) > (bt377.1.length : Int) then (none) else ((spec_CompactTable.f k bt377.1 bt377.2).bind fun bt387 => (if (bt381.2.length : Int) = (bt387.2.length : Int) then (laws_FnCompacts.l0 k bt377.1 bt377.2 0 bt381.1 bt381.2) else (none)))) else (none))) else ((spec_CompactTable.f k bt377.1 bt377.2).bind fun bt397 => (some (bt397.1 == bt381.1)))))))
def laws_FnCompacts.T6 : Bool × List (List Nat × List Nat) := (true, [([], []), ([], []), ([0, 1], [0, 1]), ([2], [2]), ([], []), ([4], [4]), ([3, 5], [3, 5]), ([6, 2, 0, 1, 2, 3, 4, 5, 6], [6])])
def laws_FnCompacts.B6 : List Nat := [0, 0, 3, 7, 0, 16, 63, 127]
theorem laws_FnCompacts.tab6 : rtab .any (opsOf Try.f6 6) = laws_FnCompacts.T6 := by kernel_rfl
theorem laws_FnCompacts.bits6 : waitsOk laws_FnCompacts.T6.2 laws_FnCompacts.B6 = true := by kernel_rfl
def laws_FnCompacts.T7 : Bool × List (List Nat × List Nat) := (true, [([], []), ([0], [0]), ([1], [1]), ([2], [2]), ([3, 2], [3]), ([4], [4]), ([5, 4], [4, 5]), ([6, 4], [4, 6]), ([4], [4]), ([8, 4], [4, 8]), ([7, 9, 4], [4, 7, 9]), ([4, 10], [4, 10]), ([11, 4], [11]), ([12], [12]), ([13, 12], [12, 13]), ([14, 12], [12, 14]), ([12], [12]), ([12], [12]), ([16, 17, 12, 12], [12, 16, 17]), ([18, 12], [12, 18]), ([19, 12], [12, 19]), ([15, 20, 12], [12, 15, 20]), ([12, 21], [12, 21])])
def laws_FnCompacts.B7 : List Nat := [0, 1, 3, 7, 15, 31, 63, 127, 31, 287, 1023, 2047, 4095, 8191, 16383, 32767, 8191, 8191, 204799, 466943, 991231, 2097151, 4194303]
theorem laws_FnCompacts.tab7 : rtab .any (opsOf Try.f6 7) = laws_FnCompacts.T7 := by kernel_rfl
theorem laws_FnCompacts.bits7 : waitsOk laws_FnCompacts.T7.2 laws_FnCompacts.B7 = true := by kernel_rfl
def laws_FnCompacts.T16 : Bool × List (List Nat × List Nat) := (true, [([], []), ([0], [0]), ([], []), ([], []), ([2, 3], [2, 3]), ([4], [4]), ([5], [5]), ([], []), ([1, 6, 7], [1, 6, 7]), ([], []), ([], []), ([], []), ([10, 11], [10, 11]), ([12], [12]), ([13], [13]), ([], []), ([9, 14, 15, 8], [9, 14, 15]), ([8, 16], [8, 16])])
def laws_FnCompacts.B16 : List Nat := [0, 1, 0, 0, 12, 28, 60, 0, 255, 0, 0, 0, 3072, 7168, 15360, 0, 65535, 131071]
theorem laws_FnCompacts.tab16 : rtab .any (opsOf Try.f6 16) = laws_FnCompacts.T16 := by kernel_rfl
theorem laws_FnCompacts.bits16 : waitsOk laws_FnCompacts.T16.2 laws_FnCompacts.B16 = true := by kernel_rfl
attribute [local go_sem] Instr.field asAgg
set_option maxHeartbeats 8000000 in
set_option maxRecDepth 100000 in
theorem laws_FnCompacts.calls (k : Nat) (A0 : Option Addr) (c0 : Nat) (l0 : List Int) (r : Bool) (w : World) (hr0 : Kd.C (Kd.int .u8) w A0 l0.length l0) (hc0 : l0.length ≤ c0) (h : laws_FnCompacts.f k l0 = some r) :
  Calls Try.prog 6 #[.slice A0 l0.length c0] w fun e w' => e = .returned (.bool r) ∧ Below w.heap.size w w' := by
 have hu46 := Try.underlying46
 have HR0 := Aside0.mk hr0
 have HC0 := Aside0.mk hc0
 clear hr0 hc0
 have HB := Aside0.mk (Below.refl w.heap.size w)
 have H : ((laws_lwBig.f l0).bind fun t376 => (if t376 = true then (some true) else ((spec_DrawCompactTable.f k l0).bind fun bt377 => ((impl_CompactTable.f k bt377.1 bt377.2).bind fun bt381 => (if bt381.1 = 0 then ((impl_TableFault.f k bt381.2).bind fun t386 => (if t386 = 0 then (if (bt381.2.length : Int) > (bt377.1.length : Int) then (none) else ((spec_CompactTable.f k bt377.1 bt377.2).bind fun bt387 => (if (bt381.2.length : Int) = (bt387.2.length : Int) then (laws_FnCompacts.l0 k bt377.1 bt377.2 0 bt381.1 bt381.2) else (none)))) else (none))) else ((spec_CompactTable.f k bt377.1 bt377.2).bind fun bt397 => (some (bt397.1 == bt381.1)))))))) = some r := h
 clear h
 replace H := Option.bind_eq_some_iff.mp H
 obtain ⟨t376, A20, H⟩ := H
 replace H : (if t376 = true then (some true) else ((spec_DrawCompactTable.f k l0).bind fun bt377 => ((impl_CompactTable.f k bt377.1 bt377.2).bind fun bt381 => (if bt381.1 = 0 then ((impl_TableFault.f k bt381.2).bind fun t386 => (if t386 = 0 then (if (bt381.2.length : Int) > (bt377.1.length : Int) then (none) else ((spec_CompactTable.f k bt377.1 bt377.2).bind fun bt387 => (if (bt381.2.length : Int) = (bt387.2.length : Int) then (laws_FnCompacts.l0 k bt377.1 bt377.2 0 bt381.1 bt381.2) else (none)))) else (none))) else ((spec_CompactTable.f k bt377.1 bt377.2).bind fun bt397 => (some (bt397.1 == bt381.1))))))) = some r := H
 have A2 := Aside0.mk A20
 clear A20
 by_cases c3 : t376 = true
 ·subst c3
  have H1 : (some true) = some r := by rw [if_pos rfl] at H; exact H
  clear H
  have H := H1
  clear H1
  obtain rfl := Option.some.inj H
  go_enter Try.func6, Try.ntmps6
  go_wp2_with (first | ((with_reducible refine gate_callee (f := 28) rfl ?_); refine goesLq (some 9) rfl rfl Try.func28 (by kernel_rfl) rfl #[.slice A0 l0.length c0] rfl ?_; (with_reducible refine (laws_lwBig.calls _ _ l0 true _ ?side1 ?side2 A2.out).mono ?_); (case side1 => exact q_c (HR0.out)); (case side2 => exact HC0.out); rintro e w' ⟨rfl, ⟨nd, rfl⟩⟩; refine ⟨_, rfl, ?_⟩))
  go_ret
  exact ⟨q_e, bq⟩
 ·replace c3 := Bool.eq_false_iff.mpr c3
  subst c3
  have H1 : ((spec_DrawCompactTable.f k l0).bind fun bt377 => ((impl_CompactTable.f k bt377.1 bt377.2).bind fun bt381 => (if bt381.1 = 0 then ((impl_TableFault.f k bt381.2).bind fun t386 => (if t386 = 0 then (if (bt381.2.length : Int) > (bt377.1.length : Int) then (none) else ((spec_CompactTable.f k bt377.1 bt377.2).bind fun bt387 => (if (bt381.2.length : Int) = (bt387.2.length : Int) then (laws_FnCompacts.l0 k bt377.1 bt377.2 0 bt381.1 bt381.2) else (none)))) else (none))) else ((spec_CompactTable.f k bt377.1 bt377.2).bind fun bt397 => (some (bt397.1 == bt381.1)))))) = some r := by rw [if_neg (show ¬ (false = true) by decide)] at H; exact H
  clear H
  have H := H1
  clear H1
  replace H := Option.bind_eq_some_iff.mp H
  obtain ⟨⟨t377, t378⟩, A40, H⟩ := H
  replace H : ((impl_CompactTable.f k t377 t378).bind fun bt381 => (if bt381.1 = 0 then ((impl_TableFault.f k bt381.2).bind fun t386 => (if t386 = 0 then (if (bt381.2.length : Int) > (t377.length : Int) then (none) else ((spec_CompactTable.f k t377 t378).bind fun bt387 => (if (bt381.2.length : Int) = (bt387.2.length : Int) then (laws_FnCompacts.l0 k t377 t378 0 bt381.1 bt381.2) else (none)))) else (none))) else ((spec_CompactTable.f k t377 t378).bind fun bt397 => (some (bt397.1 == bt381.1))))) = some r := H
  have A4 := Aside0.mk A40
  clear A40
  replace H := Option.bind_eq_some_iff.mp H
  obtain ⟨⟨t381, t382⟩, A50, H⟩ := H
  replace H : (if t381 = 0 then ((impl_TableFault.f k t382).bind fun t386 => (if t386 = 0 then (if (t382.length : Int) > (t377.length : Int) then (none) else ((spec_CompactTable.f k t377 t378).bind fun bt387 => (if (t382.length : Int) = (bt387.2.length : Int) then (laws_FnCompacts.l0 k t377 t378 0 t381 t382) else (none)))) else (none))) else ((spec_CompactTable.f k t377 t378).bind fun bt397 => (some (bt397.1 == t381)))) = some r := H
  have A5 := Aside0.mk A50
  clear A50
  by_cases c6 : t381 = 0
  ·rw [if_pos c6] at H
   have c6b0 : (t381 == 0) = true := beq_iff_eq.mpr c6
   have c6b1 : (t381 != 0) = false := bne_eq_false_iff_eq.mpr c6
   clear c6
   replace H := Option.bind_eq_some_iff.mp H
   obtain ⟨t386, A70, H⟩ := H
   replace H : (if t386 = 0 then (if (t382.length : Int) > (t377.length : Int) then (none) else ((spec_CompactTable.f k t377 t378).bind fun bt387 => (if (t382.length : Int) = (bt387.2.length : Int) then (laws_FnCompacts.l0 k t377 t378 0 t381 t382) else (none)))) else (none)) = some r := H
   have A7 := Aside0.mk A70
   clear A70
   by_cases c8 : t386 = 0
   ·rw [if_pos c8] at H
    have c8b0 : (t386 == 0) = true := beq_iff_eq.mpr c8
    have c8b1 : (t386 != 0) = false := bne_eq_false_iff_eq.mpr c8
    clear c8
    by_cases c9 : (t382.length : Int) > (t377.length : Int)
    ·rw [if_pos c9] at H
     have c9b0 := decide_eq_true c9
     have c9b1 : decide (t377.length < t382.length) = true := decide_eq_true (Int.ofNat_lt.mp c9)
     clear c9
     exact absurd H (by simp)
    ·rw [if_neg c9] at H
     have c9b0 := decide_eq_false c9
     have c9b1 : decide (t377.length < t382.length) = false := decide_eq_false (fun h => c9 (Int.ofNat_lt.mpr h))
     clear c9
     replace H := Option.bind_eq_some_iff.mp H
     obtain ⟨⟨t387, t388⟩, A100, H⟩ := H
     replace H : (if (t382.length : Int) = (t388.length : Int) then (laws_FnCompacts.l0 k t377 t378 0 t381 t382) else (none)) = some r := H
     have A10 := Aside0.mk A100
     clear A100
     by_cases c11 : (t382.length : Int) = (t388.length : Int)
     ·rw [if_pos c11] at H
      have c11b0 : ((t382.length : Int) == (t388.length : Int)) = true := beq_iff_eq.mpr c11
      have c11b1 : ((t382.length : Int) != (t388.length : Int)) = false := bne_eq_false_iff_eq.mpr c11
      have c11b2 : (t382.length == t388.length) = true := by first | simpa using c11 | (simp at c11 ⊢; omega)
      clear c11
      have H' := Aside0.mk H
      clear H
      go_enter Try.func6, Try.ntmps6
      try go_wp2_with (first | ((with_reducible refine gate_callee (f := 28) rfl ?_); refine goesLq (some 9) rfl rfl Try.func28 (by kernel_rfl) rfl #[.slice A0 l0.length c0] rfl ?_; (with_reducible refine (laws_lwBig.calls _ _ l0 false _ ?side1 ?side2 A2.out).mono ?_); (case side1 => exact q_c (HR0.out)); (case side2 => exact HC0.out); rintro e w' ⟨rfl, ⟨nd, rfl⟩⟩; refine ⟨_, rfl, ?_⟩) | ((with_reducible refine gate_callee (f := 29) rfl ?_); refine goesLq (some 12) rfl rfl Try.func29 (by kernel_rfl) rfl #[.slice A0 l0.length c0] rfl ?_; (with_reducible refine (spec_DrawCompactTable.calls k _ _ l0 t377 t378 _ ?side1 ?side2 A4.out).mono ?_); (case side1 => exact q_c (HR0.out)); (case side2 => exact HC0.out); rintro e w12 ⟨v379, rfl, ho0, hb⟩; refine ⟨_, rfl, ?_⟩; have n0_ := Aside0.mk (Kd.R_lower ho0 (below_size bq)); have n1_ := Aside0.mk (below_step bq hb); revert n0_ n1_; clear HB; intro HO380 HB; (try clear hb); (try clear hb2); (try clear hk); (try clear hi); (try clear ho0); obtain ⟨Ao13, co13, eo13⟩ := Kd.R_slice HO380.out; subst eo13) | ((with_reducible refine gate_callee (f := 30) rfl ?_); refine goesLq (some 17) rfl rfl Try.func30 (by kernel_rfl) rfl #[.slice Ao13 t377.length co13, .int .i64 t378] rfl ?_; (with_reducible refine (impl_CompactTable.calls k _ _ t377 t378 t381 t382 _ ?side1 ?side2 A5.out).mono ?_); (case side1 => exact q_c ((Kd.R_reads' HO380.out).2.2)); (case side2 => exact (Kd.R_reads' HO380.out).2.1); rintro e w14 ⟨v383, rfl, ho0, hb⟩; refine ⟨_, rfl, ?_⟩; have n0_ := Aside0.mk (Kd.R_elder' (q_r (HO380.out)) (Kd.R_base ho0) hb); have n1_ := Aside0.mk (Kd.R_lower (Kd.R_new' ho0 (Kd.R_lt (q_r (HO380.out)))) (below_size bq)); have n2_ := Aside0.mk (below_step bq hb); revert n0_ n1_ n2_; clear HO380 HB; intro HO380 HO384 HB; (try clear hb); (try clear hb2); (try clear hk); (try clear hi); (try clear ho0)) | ((with_reducible refine gate_dst (N := 5) rfl ?_); (try (refine gate_guard (by rfl) ?_; dsimp only)); refine q_box (N := 5) (cs := #[.int .i64 0, .slice none 0 0]) (t := 46) ?_; intro gb385 hg w15 hbox hb; have n0_ := Aside0.mk (Kd.R_below (q_r (HO380.out)) hb); have n1_ := Aside0.mk (Kd.R_below (q_r (HO384.out)) hb); have n2_ := Aside0.mk (below_step bq hb); have n3_ := Aside0.mk (hbox); have n4_ := Aside0.mk ((q_g hg bq : w.heap.size ≤ gb385)); have n5_ := Aside0.mk ((q_g hg bq : w.heap.size ≤ gb385)); revert n0_ n1_ n2_ n3_ n4_ n5_; clear HO380 HO384 HB; intro HO380 HO384 HB BK385 GW385 GE385; clear hb hbox hg; obtain ⟨hcz16_0, hcz16_1, hfz16_0, hfz16_1⟩ := q_2 BK385.out; obtain ⟨Ao17, co17, eo17⟩ := Kd.R_slice HO384.out; subst eo17))
      have n0_ : Aside0 (Kd.R k49 49 ((w15.setCell ⟨gb385, 0, none⟩ (.int .i64 t381)).setCell ⟨gb385, 1, none⟩ (.slice Ao17 t382.length co17)) w.heap.size (fun k_ => some k_ ≠ (.slice Ao17 t382.length co17 : Value).ownBlock) (.slice Ao13 t377.length co13) t377) := ⟨by (with_reducible repeat (first | apply Kd.R_alloc | apply Kd.R_drewN | apply Kd.R_drew)); exact Kd.R_mono (Kd.R_far (p := ⟨gb385, 1, none⟩) (Kd.R_far (p := ⟨gb385, 0, none⟩) (Kd.R_types HO380.out BK385.out (by decide)) (fun _ hk => hk.2) (.int .i64 t381)) (fun _ hk => hk.2) (.slice Ao17 t382.length co17)) (fun _ hk => hk.1.2)⟩
      have n1_ : Aside0 (Kd.R k49 49 ((w15.setCell ⟨gb385, 0, none⟩ (.int .i64 t381)).setCell ⟨gb385, 1, none⟩ (.slice Ao17 t382.length co17)) w.heap.size (fun k_ => some k_ ≠ (.slice Ao13 t377.length co13 : Value).ownBlock) (.slice Ao17 t382.length co17) t382) := ⟨by (with_reducible repeat (first | apply Kd.R_alloc | apply Kd.R_drewN | apply Kd.R_drew)); exact Kd.R_mono (Kd.R_far (p := ⟨gb385, 1, none⟩) (Kd.R_far (p := ⟨gb385, 0, none⟩) (Kd.R_types HO384.out BK385.out (by decide)) (fun _ hk => hk.2) (.int .i64 t381)) (fun _ hk => hk.2) (.slice Ao17 t382.length co17)) (fun _ hk => hk.1.2)⟩
      have n2_ : Aside0 (((w15.setCell ⟨gb385, 0, none⟩ (.int .i64 t381)).setCell ⟨gb385, 1, none⟩ (.slice Ao17 t382.length co17)).heap[gb385]? = some (.cells #[.int .i64 t381, .slice Ao17 t382.length co17] 46 (0, 0))) := ⟨by (with_reducible repeat (first | refine blk_drewN ?_ _ | refine blk_drew ?_ | refine blk_alloc ?_ _)); refine blk_put (cs := #[.int .i64 t381, .slice none 0 0]) ?_ 1 _ rfl; (with_reducible repeat (first | refine blk_drewN ?_ _ | refine blk_drew ?_ | refine blk_alloc ?_ _)); refine blk_put (cs := #[.int .i64 0, .slice none 0 0]) ?_ 0 _ rfl; (with_reducible repeat (first | refine blk_drewN ?_ _ | refine blk_drew ?_ | refine blk_alloc ?_ _)); exact BK385.out⟩
      have n3_ : Aside0 (Below w.heap.size w ((w15.setCell ⟨gb385, 0, none⟩ (.int .i64 t381)).setCell ⟨gb385, 1, none⟩ (.slice Ao17 t382.length co17))) := ⟨bq⟩
      (try clear HO380)
      (try clear HO384)
      (try clear BK385)
      (try clear HB)
      generalize ((w15.setCell ⟨gb385, 0, none⟩ (.int .i64 t381)).setCell ⟨gb385, 1, none⟩ (.slice Ao17 t382.length co17)) = w18 at n0_ n1_ n2_ n3_ ⊢
      have HO380 := n0_
      have HO384 := n1_
      have BK385 := n2_
      have HB := n3_
      clear n0_ n1_ n2_ n3_
      have n0_ := Aside0.mk (Kd.R_drew HO380.out)
      have n1_ := Aside0.mk (Kd.R_drew HO384.out)
      have n2_ := Aside0.mk (blk_drew BK385.out)
      have n3_ := Aside0.mk (below_drew1 HB.out)
      clear HO380
      clear HO384
      clear BK385
      clear HB
      have HO380 := n0_
      have HO384 := n1_
      have BK385 := n2_
      have HB := n3_
      clear n0_ n1_ n2_ n3_
      refine start_ (n := 23) (S := fun w' => w'.cell? ⟨gb385, 0, none⟩ = some (.int .i64 t381) ∧ w'.cell? ⟨gb385, 1, none⟩ = some (.slice Ao17 t382.length co17)) (ds := []) #[false, false, false, false, false, false, false, false, false, false, false, false, false, false, false, false, false, false, false, false, false, false, false] (by kernel_rfl) rfl rfl ⟨q_z BK385.out 0, q_z BK385.out 1⟩ (fun hHeld => ?_); refine with_tabW laws_FnCompacts.tab7 laws_FnCompacts.bits7 (fun HT_ HW_ => ?_)
      generalize w18.drew = w19 at HO380 HO384 BK385 HB hHeld ⊢
      refine q_P 0 (some 28) #[true, false, false, false, false, false, false, false, false, false, false, false, false, false, false, false, false, false, false, false, false, false, false] HT_.out ?_
      refine q_t 1 (some 29) #[true, true, false, false, false, false, false, false, false, false, false, false, false, false, false, false, false, false, false, false, false, false, false] HT_.out HW_.out hHeld ?_
      refine one_ (i := 2) (N := some 30) #[true, true, true, false, false, false, false, false, false, false, false, false, false, false, false, false, false, false, false, false, false, false, false] rfl rfl (one_of HT_.out (by kernel_rfl)) (by decide) (fun K hK => ?_)
      refine goes_ Try.func18 (by kernel_rfl) rfl #[.slice Ao17 t382.length co17] (by rfl) rfl rfl (by (try simp only [List.map_toArray, List.map_cons, List.map_nil]); first | done | rfl | (simp only [List.length_drop, List.length_take]; rfl)) ?_
      with_reducible refine (impl_TableFault.calls k _ _ t382 t386 _ ?side1 ?side2 A7.out).mono ?_
      (case side1 => exact q_c ((Kd.R_reads' HO384.out).2.2))
      (case side2 => exact (Kd.R_reads' HO384.out).2.1)
      rintro e w20 ⟨rfl, hb⟩
      refine ⟨_, rfl, ?_⟩
      have n0_ := Aside0.mk (Kd.R_below (q_r (HO380.out)) hb)
      have n1_ := Aside0.mk (Kd.R_below (q_r (HO384.out)) hb)
      have n2_ := Aside0.mk (blk_below (q_b BK385.out) hb)
      have n3_ := Aside0.mk (below_step bq hb)
      clear HO380
      clear HO384
      clear BK385
      clear HB
      have HO380 := n0_
      have HO384 := n1_
      have BK385 := n2_
      have HB := n3_
      clear n0_ n1_ n2_ n3_
      (try clear hb)
      (try clear hb2)
      (try clear hk)
      (try clear hi)
      refine hK.out _ _ ⟨q_z BK385.out 0, q_z BK385.out 1⟩ (fun hHeld => ?_)
      clear hK K
      refine norm_ (a' := ?_) ?_ ?_
      rotate_left
      ·show Act.put _ (some 30) _ = _
       simp only [Act.put, List.setIfInBounds_toArray, List.set_cons_zero, List.set_cons_succ, i64_w, i32_w]
       rfl
      refine q_P 3 (some 31) #[true, true, true, true, false, false, false, false, false, false, false, false, false, false, false, false, false, false, false, false, false, false, false] HT_.out ?_
      refine q_P 4 (some 32) #[true, true, true, true, true, false, false, false, false, false, false, false, false, false, false, false, false, false, false, false, false, false, false] HT_.out ?_
      refine q_P 5 (some 33) #[true, true, true, true, true, true, false, false, false, false, false, false, false, false, false, false, false, false, false, false, false, false, false] HT_.out ?_
      refine q_P 8 (some 36) #[true, true, true, true, true, true, false, false, true, false, false, false, false, false, false, false, false, false, false, false, false, false, false] HT_.out ?_
      refine q_P 9 (some 37) #[true, true, true, true, true, true, false, false, true, true, false, false, false, false, false, false, false, false, false, false, false, false, false] HT_.out ?_
      refine q_t 6 (some 34) #[true, true, true, true, true, true, true, false, true, true, false, false, false, false, false, false, false, false, false, false, false, false, false] HT_.out HW_.out hHeld ?_
      refine q_P 7 (some 35) #[true, true, true, true, true, true, true, true, true, true, false, false, false, false, false, false, false, false, false, false, false, false, false] HT_.out ?_
      refine q_P 10 (some 38) #[true, true, true, true, true, true, true, true, true, true, true, false, false, false, false, false, false, false, false, false, false, false, false] HT_.out ?_
      refine q_P 11 (some 39) #[true, true, true, true, true, true, true, true, true, true, true, true, false, false, false, false, false, false, false, false, false, false, false] HT_.out ?_
      refine q_P 12 (some 40) #[true, true, true, true, true, true, true, true, true, true, true, true, true, false, false, false, false, false, false, false, false, false, false] HT_.out ?_
      refine q_P 13 (some 41) #[true, true, true, true, true, true, true, true, true, true, true, true, true, true, false, false, false, false, false, false, false, false, false] HT_.out ?_
      refine q_P 16 (some 44) #[true, true, true, true, true, true, true, true, true, true, true, true, true, true, false, false, true, false, false, false, false, false, false] HT_.out ?_
      refine q_P 17 (some 45) #[true, true, true, true, true, true, true, true, true, true, true, true, true, true, false, false, true, true, false, false, false, false, false] HT_.out ?_
      refine q_t 14 (some 42) #[true, true, true, true, true, true, true, true, true, true, true, true, true, true, true, false, true, true, false, false, false, false, false] HT_.out HW_.out hHeld ?_
      refine q_P 15 (some 43) #[true, true, true, true, true, true, true, true, true, true, true, true, true, true, true, true, true, true, false, false, false, false, false] HT_.out ?_
      refine one_ (i := 18) (N := some 46) #[true, true, true, true, true, true, true, true, true, true, true, true, true, true, true, true, true, true, true, false, false, false, false] rfl rfl (one_of HT_.out (by kernel_rfl)) (by decide) (fun K hK => ?_)
      refine goes_ Try.func31 (by kernel_rfl) rfl #[.slice Ao13 t377.length co13, .int .i64 t378] (by rfl) rfl rfl (by (try simp only [List.map_toArray, List.map_cons, List.map_nil]); first | done | rfl | (simp only [List.length_drop, List.length_take]; rfl)) ?_
      with_reducible refine (spec_CompactTable.calls k _ _ t377 t378 t387 t388 _ ?side1 ?side2 A10.out).mono ?_
      (case side1 => exact q_c ((Kd.R_reads' HO380.out).2.2))
      (case side2 => exact (Kd.R_reads' HO380.out).2.1)
      rintro e w21 ⟨v389, rfl, ho0, hb⟩
      refine ⟨_, rfl, ?_⟩
      have n0_ := Aside0.mk (Kd.R_elder' (q_r (HO380.out)) (Kd.R_base ho0) hb)
      have n1_ := Aside0.mk (Kd.R_elder' (q_r (HO384.out)) (Kd.R_base ho0) hb)
      have n2_ := Aside0.mk (Kd.R_lower (Kd.R_new' (Kd.R_new' ho0 (Kd.R_lt (q_r (HO380.out)))) (Kd.R_lt (q_r (HO384.out)))) (below_size bq))
      have n3_ := Aside0.mk (blk_below (q_b BK385.out) hb)
      have n4_ := Aside0.mk (below_step bq hb)
      clear HO380
      clear HO384
      clear BK385
      clear HB
      have HO380 := n0_
      have HO384 := n1_
      have HO390 := n2_
      have BK385 := n3_
      have HB := n4_
      clear n0_ n1_ n2_ n3_ n4_
      (try clear hb)
      (try clear hb2)
      (try clear hk)
      (try clear hi)
      (try clear ho0)
      obtain ⟨Ao22, co22, eo22⟩ := Kd.R_slice HO390.out
      (first | subst eo22 | (injection eo22 with f1_ f2_ f3_; have f4_ := f1_.symm; have f5_ := f3_.symm; clear f1_ f2_ f3_; subst f4_; subst f5_))
      refine hK.out _ _ ⟨q_z BK385.out 0, q_z BK385.out 1⟩ (fun hHeld => ?_)
      clear hK K
      refine norm_ (a' := ?_) ?_ ?_
      rotate_left
      ·show Act.put _ (some 46) _ = _
       simp only [Act.put, List.setIfInBounds_toArray, List.set_cons_zero, List.set_cons_succ, i64_w, i32_w]
       rfl
      refine q_P 19 (some 47) #[true, true, true, true, true, true, true, true, true, true, true, true, true, true, true, true, true, true, true, true, false, false, false] HT_.out ?_
      refine q_P 20 (some 48) #[true, true, true, true, true, true, true, true, true, true, true, true, true, true, true, true, true, true, true, true, true, false, false] HT_.out ?_
      refine q_P 21 (some 49) #[true, true, true, true, true, true, true, true, true, true, true, true, true, true, true, true, true, true, true, true, true, true, false] HT_.out ?_
      refine q_P 22 (some 50) #[true, true, true, true, true, true, true, true, true, true, true, true, true, true, true, true, true, true, true, true, true, true, true] HT_.out ?_
      refine done_ (done_of HT_.out (by kernel_rfl)) ?_
      try go_wp2
      go_loopg [6] k (fun kq v6 w' => ∃ (x6_1 : Int), v6 = .int .i64 x6_1 ∧ Aside0 (laws_FnCompacts.l0 kq t377 t378 x6_1 t381 t382 = some r) ∧ Aside0 (kq ≤ k) ∧ Aside0 (Kd.R k49 49 w' w.heap.size (fun k_ => some k_ ≠ ((.slice Ao17 t382.length co17) : Value).ownBlock) (.slice Ao13 t377.length co13) t377) ∧ Aside0 (Kd.R k49 49 w' w.heap.size (fun k_ => some k_ ≠ ((.slice Ao13 t377.length co13) : Value).ownBlock) (.slice Ao17 t382.length co17) t382) ∧ Aside0 (w'.heap[gb385]? = some (.cells #[.int .i64 t381, (.slice Ao17 t382.length co17)] 46 (0, 0))) ∧ Aside0 (Below w.heap.size w w'))
      case atStart => exact ⟨(0), q_i, H', ⟨Nat.le_refl _⟩, ⟨q_r (Kd.R_mono HO380.out (fun _ hk => hk.1))⟩, ⟨q_r (Kd.R_mono HO384.out (fun _ hk => hk.1))⟩, ⟨q_b BK385.out⟩, ⟨bq⟩⟩
      case round =>
       clear H'
       (try clear c1); (try clear c2); (try clear p2); (try clear c3); (try clear c6); (try clear c6b0); (try clear c6b1); (try clear c8); (try clear c8b0); (try clear c8b1); (try clear c9); (try clear c9b0)
       (try clear c9b1); (try clear c11); (try clear c11b0); (try clear c11b1); (try clear c11b2); (try clear c18); (try clear hcz16_0); (try clear hcz16_1); (try clear hfz16_0); (try clear hfz16_1)
       obtain ⟨x6_1, rfl, HA, HK1, HO_3, HO_386001, BK385, HB⟩ := hrel
       cases gk with
       | zero => exact absurd HA.out (by simp [laws_FnCompacts.l0])
       | succ k1 =>
        have H := HA.out
        clear HA
        simp only [laws_FnCompacts.l0] at H
        by_cases c23 : x6_1 < 12
        ·rw [if_pos c23] at H
         have c23b0 := decide_eq_true c23
         clear c23
         by_cases c24 : x6_1 < t378
         ·rw [if_pos c24] at H
          have c24b0 := decide_eq_true c24
          clear c24
          have H' := Aside0.mk H
          clear H
          go_wp2
          go_roundg k1
          case measure => have := HK1.out; omega
          case rel => exact ⟨(wrap64 (x6_1 + 1)), q_i, H', ⟨by have := HK1.out; omega⟩, ⟨q_r (HO_3.out)⟩, ⟨q_r (HO_386001.out)⟩, ⟨q_b BK385.out⟩, ⟨bq⟩⟩
         ·rw [if_neg c24] at H
          have c24b0 := decide_eq_false c24
          clear c24
          have H' := Aside0.mk H
          clear H
          go_wp2
          go_loopg [7] k1 (fun kq v7 w' => ∃ (x7_2 : Int), v7 = .int .i64 x7_2 ∧ Aside0 (laws_FnCompacts.l1 kq t377 t378 x6_1 x7_2 t381 t382 = some r) ∧ Aside0 (kq ≤ k1) ∧ Aside0 (Kd.R k49 49 w' w.heap.size (fun k_ => some k_ ≠ ((.slice Ao17 t382.length co17) : Value).ownBlock) (.slice Ao13 t377.length co13) t377) ∧ Aside0 (Kd.R k49 49 w' w.heap.size (fun k_ => some k_ ≠ ((.slice Ao13 t377.length co13) : Value).ownBlock) (.slice Ao17 t382.length co17) t382) ∧ Aside0 (w'.heap[gb385]? = some (.cells #[.int .i64 t381, (.slice Ao17 t382.length co17)] 46 (0, 0))) ∧ Aside0 (Below w.heap.size w w'))
          case atStart => exact ⟨(0), q_i, H', ⟨Nat.le_refl _⟩, ⟨q_r (HO_3.out)⟩, ⟨q_r (HO_386001.out)⟩, ⟨q_b BK385.out⟩, ⟨bq⟩⟩
          case round =>
           clear H'
           (try clear c1); (try clear c2); (try clear p2); (try clear c3); (try clear c6); (try clear c6b0); (try clear c6b1); (try clear p6); (try clear c8); (try clear c8b0); (try clear c8b1); (try clear c9)
           (try clear c9b0); (try clear c9b1); (try clear c11); (try clear c11b0); (try clear c11b1); (try clear c11b2); (try clear c18); (try clear c23); (try clear c23b0); (try clear c24); (try clear c24b0)
           (try clear hcz16_0); (try clear hcz16_1); (try clear hfz16_0); (try clear hfz16_1); (try clear p2)
           obtain ⟨x7_2, rfl, HA, HK2, HO_3, HO_386001, BK385, HB⟩ := hrel
           cases gk with
           | zero => exact absurd HA.out (by simp [laws_FnCompacts.l1])
           | succ k2 =>
            have H := HA.out
            clear HA
            simp only [laws_FnCompacts.l1] at H
            by_cases c25 : x7_2 < (t377.length : Int)
            ·rw [if_pos c25] at H
             have c25b0 := decide_eq_true c25
             clear c25
             by_cases c26 : 0 ≤ x7_2
             ·rw [if_pos c26] at H
              have c26b0 := decide_eq_true c26
              clear c26
              replace H := Option.bind_eq_some_iff.mp H
              obtain ⟨⟨t392, t393⟩, A270, H⟩ := H
              replace H : ((impl_GetRow.f k2 t377 ((rd_T49 t377 x7_2).f0) x6_1).bind fun bt395 => (if (!(t392 == bt395.1) || (!(t393.toList == bt395.2.toList))) = true then (none) else (laws_FnCompacts.l1 k2 t377 t378 x6_1 (wrap64 (x7_2 + 1)) t381 t382))) = some r := H
              have A27 := Aside0.mk A270
              clear A270
              replace H := Option.bind_eq_some_iff.mp H
              obtain ⟨⟨t395, t396⟩, A280, H⟩ := H
              replace H : (if (!(t392 == t395) || (!(t393.toList == t396.toList))) = true then (none) else (laws_FnCompacts.l1 k2 t377 t378 x6_1 (wrap64 (x7_2 + 1)) t381 t382)) = some r := H
              have A28 := Aside0.mk A280
              clear A280
              by_cases c29 : (!(t392 == t395) || (!(t393.toList == t396.toList))) = true
              ·rw [if_pos c29] at H
               exact absurd H (by simp)
              ·rw [if_neg c29] at H
               have c29b0 : (!(t392 == t395) || (!(t393.toList == t396.toList))) = false := by simpa using c29
               clear c29
               have H' := Aside0.mk H
               clear H
               try go_wp2
               have n0_ := Aside0.mk (Kd.R_drew HO_3.out)
               have n1_ := Aside0.mk (Kd.R_drew HO_386001.out)
               have n2_ := Aside0.mk (blk_drew BK385.out)
               have n3_ := Aside0.mk (below_drew1 HB.out)
               clear HO_3
               clear HO_386001
               clear BK385
               clear HB
               have HO_3 := n0_
               have HO_386001 := n1_
               have BK385 := n2_
               have HB := n3_
               clear n0_ n1_ n2_ n3_
               have p391 : 0 ≤ (x7_2 : Int) := q_d
               have q391 : x7_2 < (t377.length : Int) := q_d
               obtain ⟨ad391, e391, hx391_0, hx391_1, hx391_2, hx391_3⟩ := at_T49 (Kd.R_reads' HO_3.out).2.2 x7_2 p391 q391
               cases e391
               replace p391 := eq_true p391
               replace q391 := eq_true q391
               have p394 : 0 ≤ (x7_2 : Int) := q_d
               have q394 : x7_2 < (t377.length : Int) := q_d
               obtain ⟨ad394, e394, hx394_0, hx394_1, hx394_2, hx394_3⟩ := at_T49 (Kd.R_reads' HO_3.out).2.2 x7_2 p394 q394
               obtain rfl : ad391 = ad394 := (by injection e394)
               replace p394 := eq_true p394
               replace q394 := eq_true q394
               refine start_ (n := 18) (S := fun w' => w'.cell? ⟨gb385, 0, none⟩ = some (.int .i64 t381) ∧ w'.cell? ⟨gb385, 1, none⟩ = some (.slice Ao17 t382.length co17) ∧ w'.cell? (ad391.add ((x7_2).toNat * 4)) = some (.string ((rd_T49 t377 x7_2).f0)) ∧ w'.cell? ⟨(ad391.add ((x7_2).toNat * 4)).block, (ad391.add ((x7_2).toNat * 4)).off + 1, none⟩ = some (.int .i64 ((rd_T49 t377 x7_2).f1)) ∧ w'.cell? ⟨(ad391.add ((x7_2).toNat * 4)).block, (ad391.add ((x7_2).toNat * 4)).off + 2, none⟩ = some (.string ((rd_T49 t377 x7_2).f2)) ∧ w'.cell? ⟨(ad391.add ((x7_2).toNat * 4)).block, (ad391.add ((x7_2).toNat * 4)).off + 3, none⟩ = some (.bool ((rd_T49 t377 x7_2).f3)) ∧ w'.cell? (ad391.add ((x7_2).toNat * 4)) = some (.string ((rd_T49 t377 x7_2).f0)) ∧ w'.cell? ⟨(ad391.add ((x7_2).toNat * 4)).block, (ad391.add ((x7_2).toNat * 4)).off + 1, none⟩ = some (.int .i64 ((rd_T49 t377 x7_2).f1)) ∧ w'.cell? ⟨(ad391.add ((x7_2).toNat * 4)).block, (ad391.add ((x7_2).toNat * 4)).off + 2, none⟩ = some (.string ((rd_T49 t377 x7_2).f2)) ∧ w'.cell? ⟨(ad391.add ((x7_2).toNat * 4)).block, (ad391.add ((x7_2).toNat * 4)).off + 3, none⟩ = some (.bool ((rd_T49 t377 x7_2).f3))) (ds := []) #[false, false, false, false, false, false, false, false, false, false, false, false, false, false, false, false, false, false] (by kernel_rfl) rfl rfl ⟨q_z BK385.out 0, q_z BK385.out 1, hx391_0, hx391_1, hx391_2, hx391_3, hx394_0, hx394_1, hx394_2, hx394_3⟩ (fun hHeld => ?_); refine with_tabW laws_FnCompacts.tab16 laws_FnCompacts.bits16 (fun HT_ HW_ => ?_)
               generalize wr.drew = w30 at HO_3 HO_386001 BK385 HB hx391_0 hx391_1 hx391_2 hx391_3 hx394_0 hx394_1 hx394_2 hx394_3 hHeld ⊢
               refine q_P 0 (some 64) #[true, false, false, false, false, false, false, false, false, false, false, false, false, false, false, false, false, false] HT_.out ?_
               refine q_P 2 (some 66) #[true, false, true, false, false, false, false, false, false, false, false, false, false, false, false, false, false, false] HT_.out ?_
               refine q_P 3 (some 67) #[true, false, true, true, false, false, false, false, false, false, false, false, false, false, false, false, false, false] HT_.out ?_
               refine q_P 4 (some 68) #[true, false, true, true, true, false, false, false, false, false, false, false, false, false, false, false, false, false] HT_.out ?_
               refine q_P 5 (some 69) #[true, false, true, true, true, true, false, false, false, false, false, false, false, false, false, false, false, false] HT_.out ?_
               refine q_P 7 (some 71) #[true, false, true, true, true, true, false, true, false, false, false, false, false, false, false, false, false, false] HT_.out ?_
               refine q_P 9 (some 73) #[true, false, true, true, true, true, false, true, false, true, false, false, false, false, false, false, false, false] HT_.out ?_
               refine q_P 10 (some 74) #[true, false, true, true, true, true, false, true, false, true, true, false, false, false, false, false, false, false] HT_.out ?_
               refine q_P 11 (some 75) #[true, false, true, true, true, true, false, true, false, true, true, true, false, false, false, false, false, false] HT_.out ?_
               refine q_P 12 (some 76) #[true, false, true, true, true, true, false, true, false, true, true, true, true, false, false, false, false, false] HT_.out ?_
               refine q_P 13 (some 77) #[true, false, true, true, true, true, false, true, false, true, true, true, true, true, false, false, false, false] HT_.out ?_
               refine q_P 15 (some 79) #[true, false, true, true, true, true, false, true, false, true, true, true, true, true, false, true, false, false] HT_.out ?_
               refine q_t 1 (some 65) #[true, true, true, true, true, true, false, true, false, true, true, true, true, true, false, true, false, false] HT_.out HW_.out hHeld ?_
               refine q_t 6 (some 70) #[true, true, true, true, true, true, true, true, false, true, true, true, true, true, false, true, false, false] HT_.out HW_.out hHeld ?_
               refine q_t 14 (some 78) #[true, true, true, true, true, true, true, true, false, true, true, true, true, true, true, true, false, false] HT_.out HW_.out hHeld ?_
               refine one_ (i := 8) (N := some 72) #[true, true, true, true, true, true, true, true, true, true, true, true, true, true, true, true, false, false] rfl rfl (one_of HT_.out (by kernel_rfl)) (by decide) (fun K hK => ?_)
               refine goes_ Try.func26 (by kernel_rfl) rfl #[.slice Ao17 t382.length co17, .string ((rd_T49 t377 x7_2).f0), .int .i64 x6_1] (by rfl) rfl rfl (by (try simp only [List.map_toArray, List.map_cons, List.map_nil]); first | done | rfl | (simp only [List.length_drop, List.length_take]; rfl)) ?_
               with_reducible refine (impl_GetRow.calls k2 _ _ t382 ((rd_T49 t377 x7_2).f0) x6_1 t392 t393 _ ?side1 ?side2 A27.out).mono ?_
               (case side1 => exact q_c ((Kd.R_reads' HO_386001.out).2.2))
               (case side2 => exact (Kd.R_reads' HO_386001.out).2.1)
               rintro e w31 ⟨rfl, hb⟩
               have HS2_ := (hb.cell (World.block_lt_of_cell? _ _ (hHeld.2.2.1))).trans (hHeld.2.2.1)
               have HS3_ := (hb.cell (World.block_lt_of_cell? _ _ (hHeld.2.2.2.1))).trans (hHeld.2.2.2.1)
               have HS4_ := (hb.cell (World.block_lt_of_cell? _ _ (hHeld.2.2.2.2.1))).trans (hHeld.2.2.2.2.1)
               have HS5_ := (hb.cell (World.block_lt_of_cell? _ _ (hHeld.2.2.2.2.2.1))).trans (hHeld.2.2.2.2.2.1)
               have HS6_ := (hb.cell (World.block_lt_of_cell? _ _ (hHeld.2.2.2.2.2.2.1))).trans (hHeld.2.2.2.2.2.2.1)
               have HS7_ := (hb.cell (World.block_lt_of_cell? _ _ (hHeld.2.2.2.2.2.2.2.1))).trans (hHeld.2.2.2.2.2.2.2.1)
               have HS8_ := (hb.cell (World.block_lt_of_cell? _ _ (hHeld.2.2.2.2.2.2.2.2.1))).trans (hHeld.2.2.2.2.2.2.2.2.1)
               have HS9_ := (hb.cell (World.block_lt_of_cell? _ _ (hHeld.2.2.2.2.2.2.2.2.2))).trans (hHeld.2.2.2.2.2.2.2.2.2)
               refine ⟨_, rfl, ?_⟩
               have n0_ := Aside0.mk (Kd.R_below (q_r (HO_3.out)) hb)
               have n1_ := Aside0.mk (Kd.R_below (q_r (HO_386001.out)) hb)
               have n2_ := Aside0.mk (blk_below (q_b BK385.out) hb)
               have n3_ := Aside0.mk (below_step bq hb)
               clear HO_3
               clear HO_386001
               clear BK385
               clear HB
               have HO_3 := n0_
               have HO_386001 := n1_
               have BK385 := n2_
               have HB := n3_
               clear n0_ n1_ n2_ n3_
               (try clear hb)
               (try clear hb2)
               (try clear hk)
               (try clear hi)
               refine hK.out _ _ ⟨q_z BK385.out 0, q_z BK385.out 1, HS2_, HS3_, HS4_, HS5_, HS6_, HS7_, HS8_, HS9_⟩ (fun hHeld => ?_)
               clear hK K
               refine norm_ (a' := ?_) ?_ ?_
               rotate_left
               ·show Act.put _ (some 72) _ = _
                simp only [Act.put, List.setIfInBounds_toArray, List.set_cons_zero, List.set_cons_succ, i64_w, i32_w]
                rfl
               refine one_ (i := 16) (N := some 80) #[true, true, true, true, true, true, true, true, true, true, true, true, true, true, true, true, true, false] rfl rfl (one_of HT_.out (by kernel_rfl)) (by decide) (fun K hK => ?_)
               refine goes_ Try.func26 (by kernel_rfl) rfl #[.slice (some ad391) t377.length co13, .string ((rd_T49 t377 x7_2).f0), .int .i64 x6_1] (by rfl) rfl rfl (by (try simp only [List.map_toArray, List.map_cons, List.map_nil]); first | done | rfl | (simp only [List.length_drop, List.length_take]; rfl)) ?_
               with_reducible refine (impl_GetRow.calls k2 _ _ t377 ((rd_T49 t377 x7_2).f0) x6_1 t395 t396 _ ?side1 ?side2 A28.out).mono ?_
               (case side1 => exact q_c ((Kd.R_reads' HO_3.out).2.2))
               (case side2 => exact (Kd.R_reads' HO_3.out).2.1)
               rintro e w32 ⟨rfl, hb⟩
               have HS2_ := (hb.cell (World.block_lt_of_cell? _ _ (hHeld.2.2.1))).trans (hHeld.2.2.1)
               have HS3_ := (hb.cell (World.block_lt_of_cell? _ _ (hHeld.2.2.2.1))).trans (hHeld.2.2.2.1)
               have HS4_ := (hb.cell (World.block_lt_of_cell? _ _ (hHeld.2.2.2.2.1))).trans (hHeld.2.2.2.2.1)
               have HS5_ := (hb.cell (World.block_lt_of_cell? _ _ (hHeld.2.2.2.2.2.1))).trans (hHeld.2.2.2.2.2.1)
               have HS6_ := (hb.cell (World.block_lt_of_cell? _ _ (hHeld.2.2.2.2.2.2.1))).trans (hHeld.2.2.2.2.2.2.1)
               have HS7_ := (hb.cell (World.block_lt_of_cell? _ _ (hHeld.2.2.2.2.2.2.2.1))).trans (hHeld.2.2.2.2.2.2.2.1)
               have HS8_ := (hb.cell (World.block_lt_of_cell? _ _ (hHeld.2.2.2.2.2.2.2.2.1))).trans (hHeld.2.2.2.2.2.2.2.2.1)
               have HS9_ := (hb.cell (World.block_lt_of_cell? _ _ (hHeld.2.2.2.2.2.2.2.2.2))).trans (hHeld.2.2.2.2.2.2.2.2.2)
               refine ⟨_, rfl, ?_⟩
               have n0_ := Aside0.mk (Kd.R_below (q_r (HO_3.out)) hb)
               have n1_ := Aside0.mk (Kd.R_below (q_r (HO_386001.out)) hb)
               have n2_ := Aside0.mk (blk_below (q_b BK385.out) hb)
               have n3_ := Aside0.mk (below_step bq hb)
               clear HO_3
               clear HO_386001
               clear BK385
               clear HB
               have HO_3 := n0_
               have HO_386001 := n1_
               have BK385 := n2_
               have HB := n3_
               clear n0_ n1_ n2_ n3_
               (try clear hb)
               (try clear hb2)
               (try clear hk)
               (try clear hi)
               refine hK.out _ _ ⟨q_z BK385.out 0, q_z BK385.out 1, HS2_, HS3_, HS4_, HS5_, HS6_, HS7_, HS8_, HS9_⟩ (fun hHeld => ?_)
               clear hK K
               refine norm_ (a' := ?_) ?_ ?_
               rotate_left
               ·show Act.put _ (some 80) _ = _
                simp only [Act.put, List.setIfInBounds_toArray, List.set_cons_zero, List.set_cons_succ, i64_w, i32_w]
                rfl
               refine q_P 17 (some 81) #[true, true, true, true, true, true, true, true, true, true, true, true, true, true, true, true, true, true] HT_.out ?_
               refine done_ (done_of HT_.out (by kernel_rfl)) ?_
               try go_wp2
               go_roundg k2
               case measure => have := HK1.out; have := HK2.out; omega
               case rel => exact ⟨(wrap64 (x7_2 + 1)), q_i, H', ⟨by have := HK1.out; have := HK2.out; omega⟩, ⟨q_r (HO_3.out)⟩, ⟨q_r (HO_386001.out)⟩, ⟨q_b BK385.out⟩, ⟨bq⟩⟩
             ·rw [if_neg c26] at H
              exact absurd H (by simp)
            ·rw [if_neg c25] at H
             have c25b0 := decide_eq_false c25
             clear c25
             have H' := Aside0.mk H
             clear H
             go_wp2
             go_roundg k2
             case measure => have := HK1.out; have := HK2.out; omega
             case rel => exact ⟨(wrap64 (x6_1 + 1)), q_i, H', ⟨by have := HK1.out; have := HK2.out; omega⟩, ⟨q_r (HO_3.out)⟩, ⟨q_r (HO_386001.out)⟩, ⟨q_b BK385.out⟩, ⟨bq⟩⟩
        ·rw [if_neg c23] at H
         have c23b0 := decide_eq_false c23
         clear c23
         obtain rfl := Option.some.inj H
         go_wp2
         go_ret
         exact ⟨q_e, bq⟩
     ·rw [if_neg c11] at H
      exact absurd H (by simp)
   ·rw [if_neg c8] at H
    have c8b0 : (t386 == 0) = false := beq_eq_false_iff_ne.mpr c8
    have c8b1 : (t386 != 0) = true := bne_iff_ne.mpr c8
    exact absurd H (by simp)
  ·rw [if_neg c6] at H
   have c6b0 : (t381 == 0) = false := beq_eq_false_iff_ne.mpr c6
   have c6b1 : (t381 != 0) = true := bne_iff_ne.mpr c6
   replace H := Option.bind_eq_some_iff.mp H
   obtain ⟨⟨t397, t398⟩, A330, H⟩ := H
   replace H : (some (t397 == t381)) = some r := H
   have A33 := Aside0.mk A330
   clear A330
   obtain rfl := Option.some.inj H
   go_enter Try.func6, Try.ntmps6
   try go_wp2_with (first | ((with_reducible refine gate_callee (f := 28) rfl ?_); refine goesLq (some 9) rfl rfl Try.func28 (by kernel_rfl) rfl #[.slice A0 l0.length c0] rfl ?_; (with_reducible refine (laws_lwBig.calls _ _ l0 false _ ?side1 ?side2 A2.out).mono ?_); (case side1 => exact q_c (HR0.out)); (case side2 => exact HC0.out); rintro e w' ⟨rfl, ⟨nd, rfl⟩⟩; refine ⟨_, rfl, ?_⟩) | ((with_reducible refine gate_callee (f := 29) rfl ?_); refine goesLq (some 12) rfl rfl Try.func29 (by kernel_rfl) rfl #[.slice A0 l0.length c0] rfl ?_; (with_reducible refine (spec_DrawCompactTable.calls k _ _ l0 t377 t378 _ ?side1 ?side2 A4.out).mono ?_); (case side1 => exact q_c (HR0.out)); (case side2 => exact HC0.out); rintro e w34 ⟨v379, rfl, ho0, hb⟩; refine ⟨_, rfl, ?_⟩; have n0_ := Aside0.mk (Kd.R_lower ho0 (below_size bq)); have n1_ := Aside0.mk (below_step bq hb); revert n0_ n1_; clear HB; intro HO380 HB; (try clear hb); (try clear hb2); (try clear hk); (try clear hi); (try clear ho0); obtain ⟨Ao35, co35, eo35⟩ := Kd.R_slice HO380.out; subst eo35) | ((with_reducible refine gate_callee (f := 30) rfl ?_); refine goesLq (some 17) rfl rfl Try.func30 (by kernel_rfl) rfl #[.slice Ao35 t377.length co35, .int .i64 t378] rfl ?_; (with_reducible refine (impl_CompactTable.calls k _ _ t377 t378 t381 t382 _ ?side1 ?side2 A5.out).mono ?_); (case side1 => exact q_c ((Kd.R_reads' HO380.out).2.2)); (case side2 => exact (Kd.R_reads' HO380.out).2.1); rintro e w36 ⟨v383, rfl, ho0, hb⟩; refine ⟨_, rfl, ?_⟩; have n0_ := Aside0.mk (Kd.R_elder' (q_r (HO380.out)) (Kd.R_base ho0) hb); have n1_ := Aside0.mk (Kd.R_lower (Kd.R_new' ho0 (Kd.R_lt (q_r (HO380.out)))) (below_size bq)); have n2_ := Aside0.mk (below_step bq hb); revert n0_ n1_ n2_; clear HO380 HB; intro HO380 HO384 HB; (try clear hb); (try clear hb2); (try clear hk); (try clear hi); (try clear ho0)) | ((with_reducible refine gate_dst (N := 5) rfl ?_); (try (refine gate_guard (by rfl) ?_; dsimp only)); refine q_box (N := 5) (cs := #[.int .i64 0, .slice none 0 0]) (t := 46) ?_; intro gb385 hg w37 hbox hb; have n0_ := Aside0.mk (Kd.R_below (q_r (HO380.out)) hb); have n1_ := Aside0.mk (Kd.R_below (q_r (HO384.out)) hb); have n2_ := Aside0.mk (below_step bq hb); have n3_ := Aside0.mk (hbox); have n4_ := Aside0.mk ((q_g hg bq : w.heap.size ≤ gb385)); have n5_ := Aside0.mk ((q_g hg bq : w.heap.size ≤ gb385)); revert n0_ n1_ n2_ n3_ n4_ n5_; clear HO380 HO384 HB; intro HO380 HO384 HB BK385 GW385 GE385; clear hb hbox hg; obtain ⟨hcz38_0, hcz38_1, hfz38_0, hfz38_1⟩ := q_2 BK385.out; obtain ⟨Ao39, co39, eo39⟩ := Kd.R_slice HO384.out; subst eo39))
   have n0_ : Aside0 (Kd.R k49 49 ((w37.setCell ⟨gb385, 0, none⟩ (.int .i64 t381)).setCell ⟨gb385, 1, none⟩ (.slice Ao39 t382.length co39)) w.heap.size (fun k_ => some k_ ≠ (.slice Ao39 t382.length co39 : Value).ownBlock) (.slice Ao35 t377.length co35) t377) := ⟨by (with_reducible repeat (first | apply Kd.R_alloc | apply Kd.R_drewN | apply Kd.R_drew)); exact Kd.R_mono (Kd.R_far (p := ⟨gb385, 1, none⟩) (Kd.R_far (p := ⟨gb385, 0, none⟩) (Kd.R_types HO380.out BK385.out (by decide)) (fun _ hk => hk.2) (.int .i64 t381)) (fun _ hk => hk.2) (.slice Ao39 t382.length co39)) (fun _ hk => hk.1.2)⟩
   have n1_ : Aside0 (Kd.R k49 49 ((w37.setCell ⟨gb385, 0, none⟩ (.int .i64 t381)).setCell ⟨gb385, 1, none⟩ (.slice Ao39 t382.length co39)) w.heap.size (fun k_ => some k_ ≠ (.slice Ao35 t377.length co35 : Value).ownBlock) (.slice Ao39 t382.length co39) t382) := ⟨by (with_reducible repeat (first | apply Kd.R_alloc | apply Kd.R_drewN | apply Kd.R_drew)); exact Kd.R_mono (Kd.R_far (p := ⟨gb385, 1, none⟩) (Kd.R_far (p := ⟨gb385, 0, none⟩) (Kd.R_types HO384.out BK385.out (by decide)) (fun _ hk => hk.2) (.int .i64 t381)) (fun _ hk => hk.2) (.slice Ao39 t382.length co39)) (fun _ hk => hk.1.2)⟩
   have n2_ : Aside0 (((w37.setCell ⟨gb385, 0, none⟩ (.int .i64 t381)).setCell ⟨gb385, 1, none⟩ (.slice Ao39 t382.length co39)).heap[gb385]? = some (.cells #[.int .i64 t381, .slice Ao39 t382.length co39] 46 (0, 0))) := ⟨by (with_reducible repeat (first | refine blk_drewN ?_ _ | refine blk_drew ?_ | refine blk_alloc ?_ _)); refine blk_put (cs := #[.int .i64 t381, .slice none 0 0]) ?_ 1 _ rfl; (with_reducible repeat (first | refine blk_drewN ?_ _ | refine blk_drew ?_ | refine blk_alloc ?_ _)); refine blk_put (cs := #[.int .i64 0, .slice none 0 0]) ?_ 0 _ rfl; (with_reducible repeat (first | refine blk_drewN ?_ _ | refine blk_drew ?_ | refine blk_alloc ?_ _)); exact BK385.out⟩
   have n3_ : Aside0 (Below w.heap.size w ((w37.setCell ⟨gb385, 0, none⟩ (.int .i64 t381)).setCell ⟨gb385, 1, none⟩ (.slice Ao39 t382.length co39))) := ⟨bq⟩
   (try clear HO380)
   (try clear HO384)
   (try clear BK385)
   (try clear HB)
   generalize ((w37.setCell ⟨gb385, 0, none⟩ (.int .i64 t381)).setCell ⟨gb385, 1, none⟩ (.slice Ao39 t382.length co39)) = w40 at n0_ n1_ n2_ n3_ ⊢
   have HO380 := n0_
   have HO384 := n1_
   have BK385 := n2_
   have HB := n3_
   clear n0_ n1_ n2_ n3_
   have n0_ := Aside0.mk (Kd.R_drew HO380.out)
   have n1_ := Aside0.mk (Kd.R_drew HO384.out)
   have n2_ := Aside0.mk (blk_drew BK385.out)
   have n3_ := Aside0.mk (below_drew1 HB.out)
   clear HO380
   clear HO384
   clear BK385
   clear HB
   have HO380 := n0_
   have HO384 := n1_
   have BK385 := n2_
   have HB := n3_
   clear n0_ n1_ n2_ n3_
   refine start_ (n := 8) (S := fun w' => w'.cell? ⟨gb385, 0, none⟩ = some (.int .i64 t381) ∧ w'.cell? ⟨gb385, 1, none⟩ = some (.slice Ao39 t382.length co39)) (ds := []) #[false, false, false, false, false, false, false, false] (by kernel_rfl) rfl rfl ⟨q_z BK385.out 0, q_z BK385.out 1⟩ (fun hHeld => ?_); refine with_tabW laws_FnCompacts.tab6 laws_FnCompacts.bits6 (fun HT_ HW_ => ?_)
   generalize w40.drew = w41 at HO380 HO384 BK385 HB hHeld ⊢
   refine q_P 0 (some 21) #[true, false, false, false, false, false, false, false] HT_.out ?_
   refine q_P 1 (some 22) #[true, true, false, false, false, false, false, false] HT_.out ?_
   refine q_P 4 (some 25) #[true, true, false, false, true, false, false, false] HT_.out ?_
   refine q_t 5 (some 26) #[true, true, false, false, true, true, false, false] HT_.out HW_.out hHeld ?_
   refine one_ (i := 2) (N := some 23) #[true, true, true, false, true, true, false, false] rfl rfl (one_of HT_.out (by kernel_rfl)) (by decide) (fun K hK => ?_)
   refine goes_ Try.func31 (by kernel_rfl) rfl #[.slice Ao35 t377.length co35, .int .i64 t378] (by rfl) rfl rfl (by (try simp only [List.map_toArray, List.map_cons, List.map_nil]); first | done | rfl | (simp only [List.length_drop, List.length_take]; rfl)) ?_
   with_reducible refine (spec_CompactTable.calls k _ _ t377 t378 t397 t398 _ ?side1 ?side2 A33.out).mono ?_
   (case side1 => exact q_c ((Kd.R_reads' HO380.out).2.2))
   (case side2 => exact (Kd.R_reads' HO380.out).2.1)
   rintro e w42 ⟨v399, rfl, ho0, hb⟩
   refine ⟨_, rfl, ?_⟩
   have n0_ := Aside0.mk (Kd.R_elder' (q_r (HO380.out)) (Kd.R_base ho0) hb)
   have n1_ := Aside0.mk (Kd.R_elder' (q_r (HO384.out)) (Kd.R_base ho0) hb)
   have n2_ := Aside0.mk (Kd.R_lower (Kd.R_new' (Kd.R_new' ho0 (Kd.R_lt (q_r (HO380.out)))) (Kd.R_lt (q_r (HO384.out)))) (below_size bq))
   have n3_ := Aside0.mk (blk_below (q_b BK385.out) hb)
   have n4_ := Aside0.mk (below_step bq hb)
   clear HO380
   clear HO384
   clear BK385
   clear HB
   have HO380 := n0_
   have HO384 := n1_
   have HO400 := n2_
   have BK385 := n3_
   have HB := n4_
   clear n0_ n1_ n2_ n3_ n4_
   (try clear hb)
   (try clear hb2)
   (try clear hk)
   (try clear hi)
   (try clear ho0)
   refine hK.out _ _ ⟨q_z BK385.out 0, q_z BK385.out 1⟩ (fun hHeld => ?_)
   clear hK K
   refine norm_ (a' := ?_) ?_ ?_
   rotate_left
   ·show Act.put _ (some 23) _ = _
    simp only [Act.put, List.setIfInBounds_toArray, List.set_cons_zero, List.set_cons_succ, i64_w, i32_w]
    rfl
   refine q_P 3 (some 24) #[true, true, true, true, true, true, false, false] HT_.out ?_
   refine q_P 6 (some 27) #[true, true, true, true, true, true, true, false] HT_.out ?_
   refine q_P 7 (some 2) #[true, true, true, true, true, true, true, true] HT_.out ?_
   refine done_ (done_of HT_.out (by kernel_rfl)) ?_
   try go_wp2
   go_ret
   exact ⟨q_e, bq⟩

end Go.Proofs.Ytdhlcnlcpjlliaa.PFnCompacts
