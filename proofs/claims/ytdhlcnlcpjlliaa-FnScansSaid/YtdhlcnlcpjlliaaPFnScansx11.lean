/- The functions that a law reaches, each as a plain Lean function with the proof that the machine comes to its answer: written by program (the kit's print, turned by wip/gen). No conditions. -/
import Derived.Test.YtdhlcnlcpjlliaaPFnScansx0
import Derived.Test.YtdhlcnlcpjlliaaPFnScansx3
import Derived.Test.YtdhlcnlcpjlliaaPFnScansx5
import Derived.Test.YtdhlcnlcpjlliaaPFnScansx9
import Derived.Test.YtdhlcnlcpjlliaaPFnScansx10
namespace Go.Proofs.Ytdhlcnlcpjlliaa.PFnScans
open Go.RowKit Go.Proofs.YtdhlcnlcpjlliaaW.PrintWords Go.Proofs.YtdhlcnlcpjlliaaW.PrintLast Go.Proofs.YtdhlcnlcpjlliaaW.PrintMore
attribute [local go_sem] max2_int min2_int max_two min_two max_three min_three max_four min_four   -- for this text's walks alone
set_option linter.unusedVariables false
set_option linter.unusedSimpArgs false
theorem q_P {P : Program} {ops : Array Oper} {Q : Exit → Act → World → Prop} {md : Region.Mode} {S : World → Prop} {ds : List Nat} {T : Bool × List (List Nat × List Nat)} (i : Nat) (N : Option Tmp) {oi : Oper} {v : Value} {fuel : Nat} {l : Array Bool} {a : Act} {w : World} (l' : Array Bool) (hT : rtab md ops = T) {a' : Act}
    (h : wpAnyLast P md ops Q S ds fuel l' a' w) (hi : ops[i]? = some oi := by rfl) (hN : oi.dst = N := by rfl) (hc : anyT T l.toList l'.toList i = true := by kernel_rfl) (hQ : ∀ c a w, Q (.panic c) (a.put oi.dst v) w → Q (.panic c) a w := by exact fun _ _ _ h => h)
    (hy : Yields P ops oi v a := by refine Or.inl ⟨by rfl, ?_⟩; intro w'; go_simp; (try (simp only [Instr.field, asAgg]; go_simp)); with_reducible rfl) (ha : a.put N v = a' := by simp only [Act.put, List.setIfInBounds_toArray, List.set_cons_zero, List.set_cons_succ, i64_w, i32_w]; rfl) : wpAnyLast P md ops Q S ds (fuel + 1) l a w := pure_ l' hi hN (any_of hT hc) hQ hy ha h

/-! ### laws_FnScans: function 10 -/
def laws_FnScans.l0 : Nat → List (S49) → ByteArray → Int → Int → Int → Int → List (S49) → Int → List ByteArray → Option (Bool)
  | 0, _, _, _, _, _, _, _, _, _ => none
  | k + 1, x3, x4, x5, x7, x9, x393000, x393001, x398000, x398001 => if x9 < (x398001.length : Int) then (if 0 ≤ x9 then ((impl_GetRow.f k x3 (rdOf ByteArray.empty x398001 x9) x5).bind fun bt399 => (if bt399.1 = 0 then (if ((rdOf ByteArray.empty x398001 x9).size : Int) < (x4.size : Int) then (laws_FnScans.l0 k x3 x4 x5 x7 (wrap64 (x9 + 1)) x393000 x393001 x398000 x398001) else (if 0 ≤ (x4.size : Int) then (if (x4.size : Int) ≤ ((rdOf ByteArray.empty x398001 x9).size : Int) then (if ((rdOf ByteArray.empty x398001 x9).extract 0 ((x4.size : Int) : Int).toNat).toList = x4.toList then (if x7 ≥ (x393001.length : Int) then (none) else (if 0 ≤ x7 then (if x7 < (x393001.length : Int) then (if ((rd_T49 x393001 x7).f0).toList = (rdOf ByteArray.empty x398001 x9).toList then (if ((rd_T49 x393001 x7).f2).toList = bt399.2.toList then (if (rd_T49 x393001 x7).f3 = true then (none) else (laws_FnScans.l0 k x3 x4 x5 (wrap64 (x7 + 1)) (wrap64 (x9 + 1)) x393000 x393001 x398000 x398001)) else (none)) else (none)) else (none)) else (none))) else (laws_FnScans.l0 k x3 x4 x5 x7 (wrap64 (x9 + 1)) x393000 x393001 x398000 x398001)) else (none)) else (none))) else (laws_FnScans.l0 k x3 x4 x5 x7 (wrap64 (x9 + 1)) x393000 x393001 x398000 x398001))) else (none)) else (if x7 = (x393001.length : Int) then ((spec_KeysOf.f k x3).bind fun bt406 => (some ((x398001.length : Int) == (bt406.2.length : Int)))) else (none))
def laws_FnScans.f (k : Nat) (l0 : List Int) : Option (Bool) := (laws_lwBig.f l0).bind fun t382 => (if t382 = true then (some true) else ((spec_DrawScanTable.f k l0).bind fun bt383 => ((impl_ScanTable.f k bt383.1 bt383.2.1 bt383.2.2).bind fun bt388 => (if bt388.1 = 0 then ((impl_KeysOf.f k bt383.1).bind fun bt393 => (laws_FnScans.l0 k bt383.1 bt383.2.1 bt383.2.2 0 0 bt388.1 bt388.2 bt393.1 bt393.2)) else ((spec_ScanTable.f k bt383.1 bt383.2.1 bt383.2.2).bind fun bt410 => (some (bt410.1 == bt388.1)))))))
def laws_FnScans.T6 : Bool × List (List Nat × List Nat) := (true, [([], []), ([], []), ([], []), ([0, 1, 2], [0, 1, 2]), ([3], [3]), ([], []), ([5], [5]), ([4, 6], [4, 6]), ([7, 3, 0, 1, 2, 3, 4, 5, 6, 7], [7])])
def laws_FnScans.B6 : List Nat := [0, 0, 0, 7, 15, 0, 32, 127, 255]
theorem laws_FnScans.tab6 : rtab .any (opsOf Try.f10 6) = laws_FnScans.T6 := by kernel_rfl
theorem laws_FnScans.bits6 : waitsOk laws_FnScans.T6.2 laws_FnScans.B6 = true := by kernel_rfl
def laws_FnScans.T15 : Bool × List (List Nat × List Nat) := (true, [([], []), ([], []), ([1], [1]), ([2], [2]), ([0, 3], [0, 3]), ([4], [4]), ([5], [5]), ([6, 5], [5, 6]), ([5], [5]), ([7, 8, 5], [5, 7, 8]), ([9, 5], [5, 9]), ([10, 5], [5, 10]), ([5], [5]), ([11, 12, 5], [5, 11, 12]), ([5, 13], [5, 13]), ([14, 5], [14]), ([15], [15]), ([16, 15], [15, 16]), ([15], [15]), ([17, 18, 15], [15, 17, 18]), ([19, 15], [15, 19]), ([20, 15], [15, 20]), ([15], [15]), ([22, 15], [15, 22]), ([21, 23, 15], [15, 21, 23]), ([15, 24], [15, 24]), ([25, 15], [25]), ([26], [26]), ([27, 26], [26, 27]), ([26], [26]), ([28, 29, 26], [26, 28, 29]), ([30, 26], [26, 30]), ([31, 26], [26, 31]), ([26, 32], [26, 32])])
def laws_FnScans.B15 : List Nat := [0, 0, 2, 6, 15, 31, 63, 127, 63, 511, 1023, 2047, 63, 8191, 16383, 32767, 65535, 131071, 65535, 524287, 1048575, 2097151, 65535, 4259839, 16777215, 33554431, 67108863, 134217727, 268435455, 134217727, 1073741823, 2147483647, 4294967295, 8589934591]
theorem laws_FnScans.tab15 : rtab .any (opsOf Try.f10 15) = laws_FnScans.T15 := by kernel_rfl
theorem laws_FnScans.bits15 : waitsOk laws_FnScans.T15.2 laws_FnScans.B15 = true := by kernel_rfl
def laws_FnScans.T18 : Bool × List (List Nat × List Nat) := (true, [([], []), ([], []), ([1], [1]), ([2], [2]), ([0, 3], [0, 3]), ([4], [4]), ([5], [5]), ([6, 5], [5, 6]), ([7, 5], [5, 7]), ([5], [5]), ([9, 5, 5], [5, 9]), ([10, 5], [5, 10]), ([11, 5], [5, 11]), ([8, 12, 5], [5, 8, 12]), ([5, 13], [5, 13]), ([14, 10, 0, 1, 2, 3, 4, 5, 6, 7, 8, 9, 10, 11, 12, 13, 14], [14])])
def laws_FnScans.B18 : List Nat := [0, 0, 2, 6, 15, 31, 63, 127, 255, 63, 575, 1599, 3647, 8191, 16383, 32767]
theorem laws_FnScans.tab18 : rtab .any (opsOf Try.f10 18) = laws_FnScans.T18 := by kernel_rfl
theorem laws_FnScans.bits18 : waitsOk laws_FnScans.T18.2 laws_FnScans.B18 = true := by kernel_rfl
attribute [local go_sem] Instr.field asAgg
set_option maxHeartbeats 8000000 in
set_option maxRecDepth 100000 in
theorem laws_FnScans.calls (k : Nat) (A0 : Option Addr) (c0 : Nat) (l0 : List Int) (r : Bool) (w : World) (hr0 : Kd.C (Kd.int .u8) w A0 l0.length l0) (hc0 : l0.length ≤ c0) (h : laws_FnScans.f k l0 = some r) :
  Calls Try.prog 10 #[.slice A0 l0.length c0] w fun e w' => e = .returned (.bool r) ∧ Below w.heap.size w w' := by
 have hu46 := Try.underlying46
 have hu63 := Try.underlying63
 have hu37 := Try.underlying37
 have HR0 := Aside0.mk hr0
 have HC0 := Aside0.mk hc0
 clear hr0 hc0
 have HB := Aside0.mk (Below.refl w.heap.size w)
 have H : ((laws_lwBig.f l0).bind fun t382 => (if t382 = true then (some true) else ((spec_DrawScanTable.f k l0).bind fun bt383 => ((impl_ScanTable.f k bt383.1 bt383.2.1 bt383.2.2).bind fun bt388 => (if bt388.1 = 0 then ((impl_KeysOf.f k bt383.1).bind fun bt393 => (laws_FnScans.l0 k bt383.1 bt383.2.1 bt383.2.2 0 0 bt388.1 bt388.2 bt393.1 bt393.2)) else ((spec_ScanTable.f k bt383.1 bt383.2.1 bt383.2.2).bind fun bt410 => (some (bt410.1 == bt388.1)))))))) = some r := h
 clear h
 replace H := Option.bind_eq_some_iff.mp H
 obtain ⟨t382, A20, H⟩ := H
 replace H : (if t382 = true then (some true) else ((spec_DrawScanTable.f k l0).bind fun bt383 => ((impl_ScanTable.f k bt383.1 bt383.2.1 bt383.2.2).bind fun bt388 => (if bt388.1 = 0 then ((impl_KeysOf.f k bt383.1).bind fun bt393 => (laws_FnScans.l0 k bt383.1 bt383.2.1 bt383.2.2 0 0 bt388.1 bt388.2 bt393.1 bt393.2)) else ((spec_ScanTable.f k bt383.1 bt383.2.1 bt383.2.2).bind fun bt410 => (some (bt410.1 == bt388.1))))))) = some r := H
 have A2 := Aside0.mk A20
 clear A20
 by_cases c3 : t382 = true
 ·subst c3
  have H1 : (some true) = some r := by rw [if_pos rfl] at H; exact H
  clear H
  have H := H1
  clear H1
  obtain rfl := Option.some.inj H
  go_enter Try.func10, Try.ntmps10
  go_wp2_with (first | ((with_reducible refine gate_callee (f := 28) rfl ?_); refine goesLq (some 13) rfl rfl Try.func28 (by kernel_rfl) rfl #[.slice A0 l0.length c0] rfl ?_; (with_reducible refine (laws_lwBig.calls _ _ l0 true _ ?side1 ?side2 A2.out).mono ?_); (case side1 => exact q_c (HR0.out)); (case side2 => exact HC0.out); rintro e w' ⟨rfl, ⟨nd, rfl⟩⟩; refine ⟨_, rfl, ?_⟩))
  go_ret
  exact ⟨q_e, bq⟩
 ·replace c3 := Bool.eq_false_iff.mpr c3
  subst c3
  have H1 : ((spec_DrawScanTable.f k l0).bind fun bt383 => ((impl_ScanTable.f k bt383.1 bt383.2.1 bt383.2.2).bind fun bt388 => (if bt388.1 = 0 then ((impl_KeysOf.f k bt383.1).bind fun bt393 => (laws_FnScans.l0 k bt383.1 bt383.2.1 bt383.2.2 0 0 bt388.1 bt388.2 bt393.1 bt393.2)) else ((spec_ScanTable.f k bt383.1 bt383.2.1 bt383.2.2).bind fun bt410 => (some (bt410.1 == bt388.1)))))) = some r := by rw [if_neg (show ¬ (false = true) by decide)] at H; exact H
  clear H
  have H := H1
  clear H1
  replace H := Option.bind_eq_some_iff.mp H
  obtain ⟨⟨t383, t384, t385⟩, A40, H⟩ := H
  replace H : ((impl_ScanTable.f k t383 t384 t385).bind fun bt388 => (if bt388.1 = 0 then ((impl_KeysOf.f k t383).bind fun bt393 => (laws_FnScans.l0 k t383 t384 t385 0 0 bt388.1 bt388.2 bt393.1 bt393.2)) else ((spec_ScanTable.f k t383 t384 t385).bind fun bt410 => (some (bt410.1 == bt388.1))))) = some r := H
  have A4 := Aside0.mk A40
  clear A40
  replace H := Option.bind_eq_some_iff.mp H
  obtain ⟨⟨t388, t389⟩, A50, H⟩ := H
  replace H : (if t388 = 0 then ((impl_KeysOf.f k t383).bind fun bt393 => (laws_FnScans.l0 k t383 t384 t385 0 0 t388 t389 bt393.1 bt393.2)) else ((spec_ScanTable.f k t383 t384 t385).bind fun bt410 => (some (bt410.1 == t388)))) = some r := H
  have A5 := Aside0.mk A50
  clear A50
  by_cases c6 : t388 = 0
  ·rw [if_pos c6] at H
   have c6b0 : (t388 == 0) = true := beq_iff_eq.mpr c6
   have c6b1 : (t388 != 0) = false := bne_eq_false_iff_eq.mpr c6
   clear c6
   replace H := Option.bind_eq_some_iff.mp H
   obtain ⟨⟨t393, t394⟩, A70, H⟩ := H
   replace H : (laws_FnScans.l0 k t383 t384 t385 0 0 t388 t389 t393 t394) = some r := H
   have A7 := Aside0.mk A70
   clear A70
   have H' := Aside0.mk H
   clear H
   go_enter Try.func10, Try.ntmps10
   go_wp2_with (first | ((with_reducible refine gate_callee (f := 28) rfl ?_); refine goesLq (some 13) rfl rfl Try.func28 (by kernel_rfl) rfl #[.slice A0 l0.length c0] rfl ?_; (with_reducible refine (laws_lwBig.calls _ _ l0 false _ ?side1 ?side2 A2.out).mono ?_); (case side1 => exact q_c (HR0.out)); (case side2 => exact HC0.out); rintro e w' ⟨rfl, ⟨nd, rfl⟩⟩; refine ⟨_, rfl, ?_⟩) | ((with_reducible refine gate_callee (f := 47) rfl ?_); refine goesLq (some 16) rfl rfl Try.func47 (by kernel_rfl) rfl #[.slice A0 l0.length c0] rfl ?_; (with_reducible refine (spec_DrawScanTable.calls k _ _ l0 t383 t384 t385 _ ?side1 ?side2 A4.out).mono ?_); (case side1 => exact q_c (HR0.out)); (case side2 => exact HC0.out); rintro e w8 ⟨v386, rfl, ho0, hb⟩; refine ⟨_, rfl, ?_⟩; have n0_ := Aside0.mk (Kd.R_lower ho0 (below_size bq)); have n1_ := Aside0.mk (below_step bq hb); revert n0_ n1_; clear HB; intro HO387 HB; (try clear hb); (try clear hb2); (try clear hk); (try clear hi); (try clear ho0); obtain ⟨Ao9, co9, eo9⟩ := Kd.R_slice HO387.out; subst eo9) | ((with_reducible refine gate_callee (f := 48) rfl ?_); refine goesLq (some 23) rfl rfl Try.func48 (by kernel_rfl) rfl #[.slice Ao9 t383.length co9, .string t384, .int .i64 t385] rfl ?_; (with_reducible refine (impl_ScanTable.calls k _ _ t383 t384 t385 t388 t389 _ ?side1 ?side2 A5.out).mono ?_); (case side1 => exact q_c ((Kd.R_reads' HO387.out).2.2)); (case side2 => exact (Kd.R_reads' HO387.out).2.1); rintro e w10 ⟨v390, rfl, ho0, hb⟩; refine ⟨_, rfl, ?_⟩; have n0_ := Aside0.mk (Kd.R_elder' (q_r (HO387.out)) (Kd.R_base ho0) hb); have n1_ := Aside0.mk (Kd.R_lower (Kd.R_new' ho0 (Kd.R_lt (q_r (HO387.out)))) (below_size bq)); have n2_ := Aside0.mk (below_step bq hb); revert n0_ n1_ n2_; clear HO387 HB; intro HO387 HO391 HB; (try clear hb); (try clear hb2); (try clear hk); (try clear hi); (try clear ho0)) | ((with_reducible refine gate_dst (N := 6) rfl ?_); (try (refine gate_guard (by rfl) ?_; dsimp only)); refine q_box (N := 6) (cs := #[.int .i64 0, .slice none 0 0]) (t := 46) ?_; intro gb392 hg w11 hbox hb; have n0_ := Aside0.mk (Kd.R_below (q_r (HO387.out)) hb); have n1_ := Aside0.mk (Kd.R_below (q_r (HO391.out)) hb); have n2_ := Aside0.mk (below_step bq hb); have n3_ := Aside0.mk (hbox); have n4_ := Aside0.mk ((q_g hg bq : w.heap.size ≤ gb392)); have n5_ := Aside0.mk ((q_g hg bq : w.heap.size ≤ gb392)); revert n0_ n1_ n2_ n3_ n4_ n5_; clear HO387 HO391 HB; intro HO387 HO391 HB BK392 GW392 GE392; clear hb hbox hg; obtain ⟨hcz12_0, hcz12_1, hfz12_0, hfz12_1⟩ := q_2 BK392.out; obtain ⟨Ao13, co13, eo13⟩ := Kd.R_slice HO391.out; subst eo13) | ((with_reducible refine gate_callee (f := 43) rfl ?_); refine goesLq (some 36) rfl rfl Try.func43 (by kernel_rfl) rfl #[.slice Ao9 t383.length co9] rfl ?_; (with_reducible refine (impl_KeysOf.calls k _ _ t383 t393 t394 _ ?side1 ?side2 A7.out).mono ?_); (case side1 => refine (Kd.R_reads' (e := 49) (base := w.heap.size) (ok := fun k_ => (True ∧ some k_ ≠ (.slice Ao13 t389.length co13 : Value).ownBlock)) (n := t383.length) (c := co9) ?_).2.2; exact (by (with_reducible repeat (first | apply Kd.R_alloc | apply Kd.R_drewN | apply Kd.R_drew)); exact (Kd.R_mono (Kd.R_far (p := ⟨gb392, 1, none⟩) (Kd.R_far (p := ⟨gb392, 0, none⟩) (Kd.R_types HO387.out BK392.out (by decide)) (fun _ hk => hk.2) (.int .i64 t388)) (fun _ hk => hk.2) (.slice Ao13 t389.length co13)) (fun _ h_ => h_.1)))); (case side2 => exact (Kd.R_reads' HO387.out).2.1); rintro e w14 ⟨v395, rfl, ho0, hb⟩; refine ⟨_, rfl, ?_⟩; have n0_ := Aside0.mk (Kd.R_below (by (with_reducible repeat (first | apply Kd.R_alloc | apply Kd.R_drewN | apply Kd.R_drew)); exact (Kd.R_mono (Kd.R_far (p := ⟨gb392, 1, none⟩) (Kd.R_far (p := ⟨gb392, 0, none⟩) (Kd.R_types HO387.out BK392.out (by decide)) (fun _ hk => hk.2) (.int .i64 t388)) (fun _ hk => hk.2) (.slice Ao13 t389.length co13)) (fun _ h_ => h_.1))) hb); have n1_ := Aside0.mk (Kd.R_below (by (with_reducible repeat (first | apply Kd.R_alloc | apply Kd.R_drewN | apply Kd.R_drew)); exact (Kd.R_mono (Kd.R_far (p := ⟨gb392, 1, none⟩) (Kd.R_far (p := ⟨gb392, 0, none⟩) (Kd.R_types HO391.out BK392.out (by decide)) (fun _ hk => hk.2) (.int .i64 t388)) (fun _ hk => hk.2) (.slice Ao13 t389.length co13)) (fun _ h_ => h_.1))) hb); have n2_ := Aside0.mk (Kd.R_lower ho0 (below_size bq)); have n3_ := Aside0.mk (blk_below (g := gb392) (o := .cells #[.int .i64 t388, .slice Ao13 t389.length co13] 46 (0, 0)) (by (with_reducible repeat (first | refine blk_drewN ?_ _ | refine blk_drew ?_ | refine blk_alloc ?_ _)); refine blk_put (cs := #[.int .i64 t388, .slice none 0 0]) ?_ 1 _ rfl; (with_reducible repeat (first | refine blk_drewN ?_ _ | refine blk_drew ?_ | refine blk_alloc ?_ _)); refine blk_put (cs := #[.int .i64 0, .slice none 0 0]) ?_ 0 _ rfl; (with_reducible repeat (first | refine blk_drewN ?_ _ | refine blk_drew ?_ | refine blk_alloc ?_ _)); exact BK392.out) hb); have n4_ := Aside0.mk (below_step bq hb); revert n0_ n1_ n2_ n3_ n4_; clear HO387 HO391 BK392 HB; intro HO387 HO391 HO396 BK392 HB; (try clear hb); (try clear hb2); (try clear hk); (try clear hi); (try clear ho0)) | ((with_reducible refine gate_dst (N := 8) rfl ?_); (try (refine gate_guard (by rfl) ?_; dsimp only)); refine q_box (N := 8) (cs := #[.int .i64 0, .slice none 0 0]) (t := 63) ?_; intro gb397 hg w15 hbox hb; have n0_ := Aside0.mk (Kd.R_below (q_r (HO387.out)) hb); have n1_ := Aside0.mk (Kd.R_below (q_r (HO391.out)) hb); have n2_ := Aside0.mk (Kd.R_below (q_r (HO396.out)) hb); have n3_ := Aside0.mk (blk_below (q_b BK392.out) hb); have n4_ := Aside0.mk (below_step bq hb); have n5_ := Aside0.mk (hbox); have n6_ := Aside0.mk ((q_g hg bq : w.heap.size ≤ gb397)); have n7_ := Aside0.mk ((q_g hg bq : w.heap.size ≤ gb397)); have n8_ := Aside0.mk ((q_n hg (q_b BK392.out) : gb392 ≠ gb397)); have n9_ := Aside0.mk ((q_m hg (q_b BK392.out) : gb397 ≠ gb392)); revert n0_ n1_ n2_ n3_ n4_ n5_ n6_ n7_ n8_ n9_; clear HO387 HO391 HO396 BK392 HB; intro HO387 HO391 HO396 BK392 HB BK397 GW397 GE397 NB392_397 NB397_392; clear hb hbox hg; have hnb16 := NB397_392.out; have hnc16 := NB392_397.out; obtain ⟨hcz17_0, hcz17_1, hfz17_0, hfz17_1⟩ := q_2 BK397.out; obtain ⟨Ao18, co18, eo18⟩ := Kd.R_slice HO396.out; subst eo18))
   go_loopg [7, 9] k (fun kq v7 v9 w' => ∃ (x7_1 : Int) (x9_1 : Int), v7 = .int .i64 x7_1 ∧ v9 = .int .i64 x9_1 ∧ Aside0 (laws_FnScans.l0 kq t383 t384 t385 x7_1 x9_1 t388 t389 t393 t394 = some r) ∧ Aside0 (kq ≤ k) ∧ Aside0 (Kd.R k49 49 w' w.heap.size (fun k_ => some k_ ≠ ((.slice Ao13 t389.length co13) : Value).ownBlock) (.slice Ao9 t383.length co9) t383) ∧ Aside0 (Kd.R k49 49 w' w.heap.size (fun k_ => some k_ ≠ ((.slice Ao9 t383.length co9) : Value).ownBlock) (.slice Ao13 t389.length co13) t389) ∧ Aside0 (Kd.R Kd.string 9 w' w.heap.size (fun _ => True) (.slice Ao18 t394.length co18) t394) ∧ Aside0 (w'.heap[gb392]? = some (.cells #[.int .i64 t388, (.slice Ao13 t389.length co13)] 46 (0, 0))) ∧ Aside0 (w'.heap[gb397]? = some (.cells #[.int .i64 t393, (.slice Ao18 t394.length co18)] 63 (0, 0))) ∧ Aside0 (Below w.heap.size w w'))
   case atStart => exact ⟨(0), (0), q_i, q_i, H', ⟨Nat.le_refl _⟩, ⟨by (with_reducible repeat (first | apply Kd.R_alloc | apply Kd.R_drewN | apply Kd.R_drew)); exact Kd.R_mono (Kd.R_far (p := ⟨gb397, 1, none⟩) (Kd.R_far (p := ⟨gb397, 0, none⟩) (Kd.R_types HO387.out BK397.out (by decide)) (fun _ hk => hk.2) (.int .i64 t393)) (fun _ hk => hk.2) (.slice Ao18 t394.length co18)) (fun _ hk => hk.1.2)⟩, ⟨by (with_reducible repeat (first | apply Kd.R_alloc | apply Kd.R_drewN | apply Kd.R_drew)); exact Kd.R_mono (Kd.R_far (p := ⟨gb397, 1, none⟩) (Kd.R_far (p := ⟨gb397, 0, none⟩) (Kd.R_types HO391.out BK397.out (by decide)) (fun _ hk => hk.2) (.int .i64 t393)) (fun _ hk => hk.2) (.slice Ao18 t394.length co18)) (fun _ hk => hk.1.2)⟩, ⟨by (with_reducible repeat (first | apply Kd.R_alloc | apply Kd.R_drewN | apply Kd.R_drew)); exact Kd.R_mono (Kd.R_far (p := ⟨gb397, 1, none⟩) (Kd.R_far (p := ⟨gb397, 0, none⟩) (Kd.R_types HO396.out BK397.out (by decide)) (fun _ hk => hk.2) (.int .i64 t393)) (fun _ hk => hk.2) (.slice Ao18 t394.length co18)) (fun _ hk => trivial)⟩, ⟨by (with_reducible repeat (first | refine blk_drewN ?_ _ | refine blk_drew ?_ | refine blk_alloc ?_ _)); refine blk_far ?_ NB392_397.out _; (with_reducible repeat (first | refine blk_drewN ?_ _ | refine blk_drew ?_ | refine blk_alloc ?_ _)); refine blk_far ?_ NB392_397.out _; (with_reducible repeat (first | refine blk_drewN ?_ _ | refine blk_drew ?_ | refine blk_alloc ?_ _)); exact BK392.out⟩, ⟨by (with_reducible repeat (first | refine blk_drewN ?_ _ | refine blk_drew ?_ | refine blk_alloc ?_ _)); refine blk_put (cs := #[.int .i64 t393, .slice none 0 0]) ?_ 1 _ rfl; (with_reducible repeat (first | refine blk_drewN ?_ _ | refine blk_drew ?_ | refine blk_alloc ?_ _)); refine blk_put (cs := #[.int .i64 0, .slice none 0 0]) ?_ 0 _ rfl; (with_reducible repeat (first | refine blk_drewN ?_ _ | refine blk_drew ?_ | refine blk_alloc ?_ _)); exact BK397.out⟩, ⟨bq⟩⟩
   case round =>
    clear H'
    (try clear c1); (try clear c2); (try clear p2); (try clear c3); (try clear c4); (try clear c6); (try clear c6b0); (try clear c6b1); (try clear c10); (try clear c16); (try clear hcz12_0); (try clear hcz12_1)
    (try clear hcz17_0); (try clear hcz17_1); (try clear hfz12_0); (try clear hfz12_1); (try clear hfz17_0); (try clear hfz17_1)
    obtain ⟨x7_1, x9_1, rfl, rfl, HA, HK1, HO_3, HO_393001, HO_398001, BK392, BK397, HB⟩ := hrel
    cases gk with
    | zero => exact absurd HA.out (by simp [laws_FnScans.l0])
    | succ k1 =>
     have H := HA.out
     clear HA
     simp only [laws_FnScans.l0] at H
     by_cases c19 : x9_1 < (t394.length : Int)
     ·rw [if_pos c19] at H
      have c19b0 := decide_eq_true c19
      clear c19
      by_cases c20 : 0 ≤ x9_1
      ·rw [if_pos c20] at H
       have c20b0 := decide_eq_true c20
       clear c20
       replace H := Option.bind_eq_some_iff.mp H
       obtain ⟨⟨t399, t400⟩, A210, H⟩ := H
       replace H : (if t399 = 0 then (if ((rdOf ByteArray.empty t394 x9_1).size : Int) < (t384.size : Int) then (laws_FnScans.l0 k1 t383 t384 t385 x7_1 (wrap64 (x9_1 + 1)) t388 t389 t393 t394) else (if 0 ≤ (t384.size : Int) then (if (t384.size : Int) ≤ ((rdOf ByteArray.empty t394 x9_1).size : Int) then (if ((rdOf ByteArray.empty t394 x9_1).extract 0 ((t384.size : Int) : Int).toNat).toList = t384.toList then (if x7_1 ≥ (t389.length : Int) then (none) else (if 0 ≤ x7_1 then (if x7_1 < (t389.length : Int) then (if ((rd_T49 t389 x7_1).f0).toList = (rdOf ByteArray.empty t394 x9_1).toList then (if ((rd_T49 t389 x7_1).f2).toList = t400.toList then (if (rd_T49 t389 x7_1).f3 = true then (none) else (laws_FnScans.l0 k1 t383 t384 t385 (wrap64 (x7_1 + 1)) (wrap64 (x9_1 + 1)) t388 t389 t393 t394)) else (none)) else (none)) else (none)) else (none))) else (laws_FnScans.l0 k1 t383 t384 t385 x7_1 (wrap64 (x9_1 + 1)) t388 t389 t393 t394)) else (none)) else (none))) else (laws_FnScans.l0 k1 t383 t384 t385 x7_1 (wrap64 (x9_1 + 1)) t388 t389 t393 t394)) = some r := H
       have A21 := Aside0.mk A210
       clear A210
       by_cases c22 : t399 = 0
       ·rw [if_pos c22] at H
        have c22b0 : (t399 == 0) = true := beq_iff_eq.mpr c22
        have c22b1 : (t399 != 0) = false := bne_eq_false_iff_eq.mpr c22
        clear c22
        by_cases c23 : ((rdOf ByteArray.empty t394 x9_1).size : Int) < (t384.size : Int)
        ·rw [if_pos c23] at H
         have c23b0 := decide_eq_true c23
         have c23b1 : decide ((rdOf ByteArray.empty t394 x9_1).size < t384.size) = true := decide_eq_true (Int.ofNat_lt.mp c23)
         clear c23
         have H' := Aside0.mk H
         clear H
         have hnb24 := NB397_392.out
         have hnc24 := NB392_397.out
         obtain ⟨hcz25_0, hcz25_1, hfz25_0, hfz25_1⟩ := q_2 BK397.out
         have p398 : 0 ≤ (x9_1 : Int) := q_d
         have q398 : x9_1 < (t394.length : Int) := q_d
         obtain ⟨ad398, e398, hx398_0⟩ := Kd.at_string (Kd.R_reads' HO_398001.out).2.2 x9_1 p398 q398
         cases e398
         replace p398 := eq_true p398
         replace q398 := eq_true q398
         go_wp2_with (first | ((with_reducible refine gate_callee (f := 26) rfl ?_); refine goesLq (some 51) rfl rfl Try.func26 (by kernel_rfl) rfl #[.slice Ao9 t383.length co9, .string (rdOf ByteArray.empty t394 x9_1), .int .i64 t385] rfl ?_; (with_reducible refine (impl_GetRow.calls k1 _ _ t383 (rdOf ByteArray.empty t394 x9_1) t385 t399 t400 _ ?side1 ?side2 A21.out).mono ?_); (case side1 => exact q_c ((Kd.R_reads' HO_3.out).2.2)); (case side2 => exact (Kd.R_reads' HO_3.out).2.1); rintro e w26 ⟨rfl, hb⟩; refine ⟨_, rfl, ?_⟩; have n0_ := Aside0.mk (Kd.R_below (q_r (HO_3.out)) hb); have n1_ := Aside0.mk (Kd.R_below (q_r (HO_393001.out)) hb); have n2_ := Aside0.mk (Kd.R_below (q_r (HO_398001.out)) hb); have n3_ := Aside0.mk (blk_below (q_b BK392.out) hb); have n4_ := Aside0.mk (blk_below (q_b BK397.out) hb); have n5_ := Aside0.mk (below_step bq hb); revert n0_ n1_ n2_ n3_ n4_ n5_; clear HO_3 HO_393001 HO_398001 BK392 BK397 HB; intro HO_3 HO_393001 HO_398001 BK392 BK397 HB; (try clear hb); (try clear hb2); (try clear hk); (try clear hi)) | ((with_reducible refine gate_dst (N := 10) rfl ?_); (try (refine gate_guard (by rfl) ?_; dsimp only)); refine q_box (N := 10) (cs := #[.int .i64 0, .string (⟨#[]⟩ : ByteArray)]) (t := 37) ?_; intro gb401 hg w27 hbox hb; have n0_ := Aside0.mk (Kd.R_below (q_r (HO_3.out)) hb); have n1_ := Aside0.mk (Kd.R_below (q_r (HO_393001.out)) hb); have n2_ := Aside0.mk (Kd.R_below (q_r (HO_398001.out)) hb); have n3_ := Aside0.mk (blk_below (q_b BK392.out) hb); have n4_ := Aside0.mk (blk_below (q_b BK397.out) hb); have n5_ := Aside0.mk (below_step bq hb); have n6_ := Aside0.mk (hbox); have n7_ := Aside0.mk ((q_g hg bq : w.heap.size ≤ gb401)); have n8_ := Aside0.mk ((q_g hg bq : w.heap.size ≤ gb401)); have n9_ := Aside0.mk ((q_n hg (q_b BK392.out) : gb392 ≠ gb401)); have n10_ := Aside0.mk ((q_m hg (q_b BK392.out) : gb401 ≠ gb392)); have n11_ := Aside0.mk ((q_n hg (q_b BK397.out) : gb397 ≠ gb401)); have n12_ := Aside0.mk ((q_m hg (q_b BK397.out) : gb401 ≠ gb397)); revert n0_ n1_ n2_ n3_ n4_ n5_ n6_ n7_ n8_ n9_ n10_ n11_ n12_; clear HO_3 HO_393001 HO_398001 BK392 BK397 HB; intro HO_3 HO_393001 HO_398001 BK392 BK397 HB BK401 GW401 GE401 NB392_401 NB401_392 NB397_401 NB401_397; clear hb hbox hg; have hnb28 := NB401_392.out; have hnc28 := NB392_401.out; have hnb29 := NB401_397.out; have hnc29 := NB397_401.out; obtain ⟨hcz30_0, hcz30_1, hfz30_0, hfz30_1⟩ := q_2 BK401.out; obtain ⟨hcz31_0, hcz31_1, hfz31_0, hfz31_1⟩ := q_2 BK397.out; have p402 : 0 ≤ (x9_1 : Int) := q_d; have q402 : x9_1 < (t394.length : Int) := q_d; obtain ⟨ad402, e402, hx402_0⟩ := Kd.at_string (Kd.R_reads' HO_398001.out).2.2 x9_1 p402 q402; obtain rfl : ad398 = ad402 := (by injection e402); have hn402_0 : ad398.block ≠ gb401 := Kd.own_blk (Kd.R_ne HO_398001.out BK401.out (by decide)); have hn402_1 : ad398.block ≠ gb401 := Kd.own_blk (Kd.R_ne HO_398001.out BK401.out (by decide)); replace hx402_0 := (cell_far (p := ⟨gb401, 0, none⟩) (by first | (rw [add_block]; exact hn402_0) | (show (Addr.add _ _).block ≠ _; rw [add_block]; exact hn402_0) | exact hn402_0) (.int .i64 t399)).trans hx402_0; replace hx402_0 := (cell_far (p := ⟨gb401, 1, none⟩) (by first | (rw [add_block]; exact hn402_1) | (show (Addr.add _ _).block ≠ _; rw [add_block]; exact hn402_1) | exact hn402_1) (.string t400)).trans hx402_0; clear hn402_0; clear hn402_1; replace p402 := eq_true p402; replace q402 := eq_true q402))
         go_roundg k1
         case measure => have := HK1.out; omega
         case rel => (try rw [← Nbq40.out]); exact ⟨(x7_1), (wrap64 (x9_1 + 1)), q_i, q_i, H', ⟨by have := HK1.out; omega⟩, ⟨by (with_reducible repeat (first | apply Kd.R_alloc | apply Kd.R_drewN | apply Kd.R_drew)); exact Kd.R_mono (Kd.R_far (p := ⟨gb401, 1, none⟩) (Kd.R_far (p := ⟨gb401, 0, none⟩) (Kd.R_types HO_3.out BK401.out (by decide)) (fun _ hk => hk.2) (.int .i64 t399)) (fun _ hk => hk.2) (.string t400)) (fun _ hk => hk.1)⟩, ⟨by (with_reducible repeat (first | apply Kd.R_alloc | apply Kd.R_drewN | apply Kd.R_drew)); exact Kd.R_mono (Kd.R_far (p := ⟨gb401, 1, none⟩) (Kd.R_far (p := ⟨gb401, 0, none⟩) (Kd.R_types HO_393001.out BK401.out (by decide)) (fun _ hk => hk.2) (.int .i64 t399)) (fun _ hk => hk.2) (.string t400)) (fun _ hk => hk.1)⟩, ⟨by (with_reducible repeat (first | apply Kd.R_alloc | apply Kd.R_drewN | apply Kd.R_drew)); exact Kd.R_mono (Kd.R_far (p := ⟨gb401, 1, none⟩) (Kd.R_far (p := ⟨gb401, 0, none⟩) (Kd.R_types HO_398001.out BK401.out (by decide)) (fun _ hk => hk.2) (.int .i64 t399)) (fun _ hk => hk.2) (.string t400)) (fun _ hk => trivial)⟩, ⟨by (with_reducible repeat (first | refine blk_drewN ?_ _ | refine blk_drew ?_ | refine blk_alloc ?_ _)); refine blk_far ?_ NB392_401.out _; (with_reducible repeat (first | refine blk_drewN ?_ _ | refine blk_drew ?_ | refine blk_alloc ?_ _)); refine blk_far ?_ NB392_401.out _; (with_reducible repeat (first | refine blk_drewN ?_ _ | refine blk_drew ?_ | refine blk_alloc ?_ _)); exact BK392.out⟩, ⟨by (with_reducible repeat (first | refine blk_drewN ?_ _ | refine blk_drew ?_ | refine blk_alloc ?_ _)); refine blk_far ?_ NB397_401.out _; (with_reducible repeat (first | refine blk_drewN ?_ _ | refine blk_drew ?_ | refine blk_alloc ?_ _)); refine blk_far ?_ NB397_401.out _; (with_reducible repeat (first | refine blk_drewN ?_ _ | refine blk_drew ?_ | refine blk_alloc ?_ _)); exact BK397.out⟩, ⟨bq⟩⟩
        ·rw [if_neg c23] at H
         have c23b0 := decide_eq_false c23
         have c23b1 : decide ((rdOf ByteArray.empty t394 x9_1).size < t384.size) = false := decide_eq_false (fun h => c23 (Int.ofNat_lt.mpr h))
         clear c23
         by_cases c32 : 0 ≤ (t384.size : Int)
         ·rw [if_pos c32] at H
          have c32b0 := eq_true c32
          have c32b1 := decide_eq_true c32
          clear c32
          by_cases c33 : (t384.size : Int) ≤ ((rdOf ByteArray.empty t394 x9_1).size : Int)
          ·rw [if_pos c33] at H
           have c33b0 := eq_true c33
           have c33b1 := decide_eq_true c33
           clear c33
           by_cases c34 : ((rdOf ByteArray.empty t394 x9_1).extract 0 ((t384.size : Int) : Int).toNat).toList = t384.toList
           ·rw [if_pos c34] at H
            have c34b0 : (((rdOf ByteArray.empty t394 x9_1).extract 0 ((t384.size : Int) : Int).toNat).toList == t384.toList) = true := beq_iff_eq.mpr c34
            have c34b0n : (((rdOf ByteArray.empty t394 x9_1).extract 0 t384.size).toList == t384.toList) = true := by simpa only [Int.toNat_natCast] using c34b0
            have c34b1 : (((rdOf ByteArray.empty t394 x9_1).extract 0 ((t384.size : Int) : Int).toNat).toList != t384.toList) = false := bne_eq_false_iff_eq.mpr c34
            have c34b1n : (((rdOf ByteArray.empty t394 x9_1).extract 0 t384.size).toList != t384.toList) = false := by simpa only [Int.toNat_natCast] using c34b1
            clear c34
            by_cases c35 : x7_1 ≥ (t389.length : Int)
            ·rw [if_pos c35] at H
             have c35b0 := decide_eq_true c35
             clear c35
             exact absurd H (by simp)
            ·rw [if_neg c35] at H
             have c35b0 := decide_eq_false c35
             clear c35
             by_cases c36 : 0 ≤ x7_1
             ·rw [if_pos c36] at H
              have c36b0 := decide_eq_true c36
              clear c36
              by_cases c37 : x7_1 < (t389.length : Int)
              ·rw [if_pos c37] at H
               have c37b0 := decide_eq_true c37
               clear c37
               by_cases c38 : ((rd_T49 t389 x7_1).f0).toList = (rdOf ByteArray.empty t394 x9_1).toList
               ·rw [if_pos c38] at H
                have c38b0 : (((rd_T49 t389 x7_1).f0).toList == (rdOf ByteArray.empty t394 x9_1).toList) = true := beq_iff_eq.mpr c38
                have c38b1 : (((rd_T49 t389 x7_1).f0).toList != (rdOf ByteArray.empty t394 x9_1).toList) = false := bne_eq_false_iff_eq.mpr c38
                clear c38
                by_cases c39 : ((rd_T49 t389 x7_1).f2).toList = t400.toList
                ·rw [if_pos c39] at H
                 have c39b0 : (((rd_T49 t389 x7_1).f2).toList == t400.toList) = true := beq_iff_eq.mpr c39
                 have c39b1 : (((rd_T49 t389 x7_1).f2).toList != t400.toList) = false := bne_eq_false_iff_eq.mpr c39
                 clear c39
                 obtain ⟨bq40, hbq40⟩ : ∃ b_ : Bool, b_ = ((rd_T49 t389 x7_1).f3) := ⟨_, rfl⟩
                 replace H : (if bq40 = true then (none) else (laws_FnScans.l0 k1 t383 t384 t385 (wrap64 (x7_1 + 1)) (wrap64 (x9_1 + 1)) t388 t389 t393 t394)) = some r := by rw [← hbq40] at H; exact H
                 have Nbq40 := Aside0.mk hbq40
                 clear hbq40
                 by_cases c41 : bq40 = true
                 ·subst c41
                  have H1 : (none) = some r := by rw [if_pos rfl] at H; exact H
                  clear H
                  have H := H1
                  clear H1
                  exact absurd H (by simp)
                 ·replace c41 := Bool.eq_false_iff.mpr c41
                  subst c41
                  have H1 : (laws_FnScans.l0 k1 t383 t384 t385 (wrap64 (x7_1 + 1)) (wrap64 (x9_1 + 1)) t388 t389 t393 t394) = some r := by rw [if_neg (show ¬ (false = true) by decide)] at H; exact H
                  clear H
                  have H := H1
                  clear H1
                  have H' := Aside0.mk H
                  clear H
                  have hnb42 := NB397_392.out
                  have hnc42 := NB392_397.out
                  obtain ⟨hcz43_0, hcz43_1, hfz43_0, hfz43_1⟩ := q_2 BK397.out
                  have p398 : 0 ≤ (x9_1 : Int) := q_d
                  have q398 : x9_1 < (t394.length : Int) := q_d
                  obtain ⟨ad398, e398, hx398_0⟩ := Kd.at_string (Kd.R_reads' HO_398001.out).2.2 x9_1 p398 q398
                  cases e398
                  replace p398 := eq_true p398
                  replace q398 := eq_true q398
                  try go_wp2_with (first | ((with_reducible refine gate_callee (f := 26) rfl ?_); refine goesLq (some 51) rfl rfl Try.func26 (by kernel_rfl) rfl #[.slice Ao9 t383.length co9, .string (rdOf ByteArray.empty t394 x9_1), .int .i64 t385] rfl ?_; (with_reducible refine (impl_GetRow.calls k1 _ _ t383 (rdOf ByteArray.empty t394 x9_1) t385 t399 t400 _ ?side1 ?side2 A21.out).mono ?_); (case side1 => exact q_c ((Kd.R_reads' HO_3.out).2.2)); (case side2 => exact (Kd.R_reads' HO_3.out).2.1); rintro e w44 ⟨rfl, hb⟩; refine ⟨_, rfl, ?_⟩; have n0_ := Aside0.mk (Kd.R_below (q_r (HO_3.out)) hb); have n1_ := Aside0.mk (Kd.R_below (q_r (HO_393001.out)) hb); have n2_ := Aside0.mk (Kd.R_below (q_r (HO_398001.out)) hb); have n3_ := Aside0.mk (blk_below (q_b BK392.out) hb); have n4_ := Aside0.mk (blk_below (q_b BK397.out) hb); have n5_ := Aside0.mk (below_step bq hb); revert n0_ n1_ n2_ n3_ n4_ n5_; clear HO_3 HO_393001 HO_398001 BK392 BK397 HB; intro HO_3 HO_393001 HO_398001 BK392 BK397 HB; (try clear hb); (try clear hb2); (try clear hk); (try clear hi)) | ((with_reducible refine gate_dst (N := 10) rfl ?_); (try (refine gate_guard (by rfl) ?_; dsimp only)); refine q_box (N := 10) (cs := #[.int .i64 0, .string (⟨#[]⟩ : ByteArray)]) (t := 37) ?_; intro gb401 hg w45 hbox hb; have n0_ := Aside0.mk (Kd.R_below (q_r (HO_3.out)) hb); have n1_ := Aside0.mk (Kd.R_below (q_r (HO_393001.out)) hb); have n2_ := Aside0.mk (Kd.R_below (q_r (HO_398001.out)) hb); have n3_ := Aside0.mk (blk_below (q_b BK392.out) hb); have n4_ := Aside0.mk (blk_below (q_b BK397.out) hb); have n5_ := Aside0.mk (below_step bq hb); have n6_ := Aside0.mk (hbox); have n7_ := Aside0.mk ((q_g hg bq : w.heap.size ≤ gb401)); have n8_ := Aside0.mk ((q_g hg bq : w.heap.size ≤ gb401)); have n9_ := Aside0.mk ((q_n hg (q_b BK392.out) : gb392 ≠ gb401)); have n10_ := Aside0.mk ((q_m hg (q_b BK392.out) : gb401 ≠ gb392)); have n11_ := Aside0.mk ((q_n hg (q_b BK397.out) : gb397 ≠ gb401)); have n12_ := Aside0.mk ((q_m hg (q_b BK397.out) : gb401 ≠ gb397)); revert n0_ n1_ n2_ n3_ n4_ n5_ n6_ n7_ n8_ n9_ n10_ n11_ n12_; clear HO_3 HO_393001 HO_398001 BK392 BK397 HB; intro HO_3 HO_393001 HO_398001 BK392 BK397 HB BK401 GW401 GE401 NB392_401 NB401_392 NB397_401 NB401_397; clear hb hbox hg; have hnb46 := NB401_392.out; have hnc46 := NB392_401.out; have hnb47 := NB401_397.out; have hnc47 := NB397_401.out; obtain ⟨hcz48_0, hcz48_1, hfz48_0, hfz48_1⟩ := q_2 BK401.out; obtain ⟨hcz49_0, hcz49_1, hfz49_0, hfz49_1⟩ := q_2 BK397.out; have p402 : 0 ≤ (x9_1 : Int) := q_d; have q402 : x9_1 < (t394.length : Int) := q_d; obtain ⟨ad402, e402, hx402_0⟩ := Kd.at_string (Kd.R_reads' HO_398001.out).2.2 x9_1 p402 q402; obtain rfl : ad398 = ad402 := (by injection e402); have hn402_0 : ad398.block ≠ gb401 := Kd.own_blk (Kd.R_ne HO_398001.out BK401.out (by decide)); have hn402_1 : ad398.block ≠ gb401 := Kd.own_blk (Kd.R_ne HO_398001.out BK401.out (by decide)); replace hx402_0 := (cell_far (p := ⟨gb401, 0, none⟩) (by first | (rw [add_block]; exact hn402_0) | (show (Addr.add _ _).block ≠ _; rw [add_block]; exact hn402_0) | exact hn402_0) (.int .i64 t399)).trans hx402_0; replace hx402_0 := (cell_far (p := ⟨gb401, 1, none⟩) (by first | (rw [add_block]; exact hn402_1) | (show (Addr.add _ _).block ≠ _; rw [add_block]; exact hn402_1) | exact hn402_1) (.string t400)).trans hx402_0; clear hn402_0; clear hn402_1; replace p402 := eq_true p402; replace q402 := eq_true q402))
                  have n0_ : Aside0 (Kd.R k49 49 ((w45.setCell ⟨gb401, 0, none⟩ (.int .i64 t399)).setCell ⟨gb401, 1, none⟩ (.string t400)) w.heap.size (fun k_ => some k_ ≠ (.slice Ao13 t389.length co13 : Value).ownBlock) (.slice Ao9 t383.length co9) t383) := ⟨by (with_reducible repeat (first | apply Kd.R_alloc | apply Kd.R_drewN | apply Kd.R_drew)); exact Kd.R_mono (Kd.R_far (p := ⟨gb401, 1, none⟩) (Kd.R_far (p := ⟨gb401, 0, none⟩) (Kd.R_types HO_3.out BK401.out (by decide)) (fun _ hk => hk.2) (.int .i64 t399)) (fun _ hk => hk.2) (.string t400)) (fun _ hk => hk.1)⟩
                  have n1_ : Aside0 (Kd.R k49 49 ((w45.setCell ⟨gb401, 0, none⟩ (.int .i64 t399)).setCell ⟨gb401, 1, none⟩ (.string t400)) w.heap.size (fun k_ => some k_ ≠ (.slice Ao9 t383.length co9 : Value).ownBlock) (.slice Ao13 t389.length co13) t389) := ⟨by (with_reducible repeat (first | apply Kd.R_alloc | apply Kd.R_drewN | apply Kd.R_drew)); exact Kd.R_mono (Kd.R_far (p := ⟨gb401, 1, none⟩) (Kd.R_far (p := ⟨gb401, 0, none⟩) (Kd.R_types HO_393001.out BK401.out (by decide)) (fun _ hk => hk.2) (.int .i64 t399)) (fun _ hk => hk.2) (.string t400)) (fun _ hk => hk.1)⟩
                  have n2_ : Aside0 (Kd.R Kd.string 9 ((w45.setCell ⟨gb401, 0, none⟩ (.int .i64 t399)).setCell ⟨gb401, 1, none⟩ (.string t400)) w.heap.size (fun _ => True) (.slice (some ad398) t394.length co18) t394) := ⟨by (with_reducible repeat (first | apply Kd.R_alloc | apply Kd.R_drewN | apply Kd.R_drew)); exact Kd.R_mono (Kd.R_far (p := ⟨gb401, 1, none⟩) (Kd.R_far (p := ⟨gb401, 0, none⟩) (Kd.R_types HO_398001.out BK401.out (by decide)) (fun _ hk => hk.2) (.int .i64 t399)) (fun _ hk => hk.2) (.string t400)) (fun _ hk => trivial)⟩
                  have n3_ : Aside0 (((w45.setCell ⟨gb401, 0, none⟩ (.int .i64 t399)).setCell ⟨gb401, 1, none⟩ (.string t400)).heap[gb392]? = some (.cells #[.int .i64 t388, .slice Ao13 t389.length co13] 46 (0, 0))) := ⟨by (with_reducible repeat (first | refine blk_drewN ?_ _ | refine blk_drew ?_ | refine blk_alloc ?_ _)); refine blk_far ?_ NB392_401.out _; (with_reducible repeat (first | refine blk_drewN ?_ _ | refine blk_drew ?_ | refine blk_alloc ?_ _)); refine blk_far ?_ NB392_401.out _; (with_reducible repeat (first | refine blk_drewN ?_ _ | refine blk_drew ?_ | refine blk_alloc ?_ _)); exact BK392.out⟩
                  have n4_ : Aside0 (((w45.setCell ⟨gb401, 0, none⟩ (.int .i64 t399)).setCell ⟨gb401, 1, none⟩ (.string t400)).heap[gb397]? = some (.cells #[.int .i64 t393, .slice (some ad398) t394.length co18] 63 (0, 0))) := ⟨by (with_reducible repeat (first | refine blk_drewN ?_ _ | refine blk_drew ?_ | refine blk_alloc ?_ _)); refine blk_far ?_ NB397_401.out _; (with_reducible repeat (first | refine blk_drewN ?_ _ | refine blk_drew ?_ | refine blk_alloc ?_ _)); refine blk_far ?_ NB397_401.out _; (with_reducible repeat (first | refine blk_drewN ?_ _ | refine blk_drew ?_ | refine blk_alloc ?_ _)); exact BK397.out⟩
                  have n5_ : Aside0 (((w45.setCell ⟨gb401, 0, none⟩ (.int .i64 t399)).setCell ⟨gb401, 1, none⟩ (.string t400)).heap[gb401]? = some (.cells #[.int .i64 t399, .string t400] 37 (0, 0))) := ⟨by (with_reducible repeat (first | refine blk_drewN ?_ _ | refine blk_drew ?_ | refine blk_alloc ?_ _)); refine blk_put (cs := #[.int .i64 t399, .string (⟨#[]⟩ : ByteArray)]) ?_ 1 _ rfl; (with_reducible repeat (first | refine blk_drewN ?_ _ | refine blk_drew ?_ | refine blk_alloc ?_ _)); refine blk_put (cs := #[.int .i64 0, .string (⟨#[]⟩ : ByteArray)]) ?_ 0 _ rfl; (with_reducible repeat (first | refine blk_drewN ?_ _ | refine blk_drew ?_ | refine blk_alloc ?_ _)); exact BK401.out⟩
                  have n6_ : Aside0 (Below w.heap.size w ((w45.setCell ⟨gb401, 0, none⟩ (.int .i64 t399)).setCell ⟨gb401, 1, none⟩ (.string t400))) := ⟨bq⟩
                  (try clear HO_3)
                  (try clear HO_393001)
                  (try clear HO_398001)
                  (try clear BK392)
                  (try clear BK397)
                  (try clear BK401)
                  (try clear HB)
                  generalize ((w45.setCell ⟨gb401, 0, none⟩ (.int .i64 t399)).setCell ⟨gb401, 1, none⟩ (.string t400)) = w50 at n0_ n1_ n2_ n3_ n4_ n5_ n6_ ⊢
                  have HO_3 := n0_
                  have HO_393001 := n1_
                  have HO_398001 := n2_
                  have BK392 := n3_
                  have BK397 := n4_
                  have BK401 := n5_
                  have HB := n6_
                  clear n0_ n1_ n2_ n3_ n4_ n5_ n6_
                  have n0_ := Aside0.mk (Kd.R_drew HO_3.out)
                  have n1_ := Aside0.mk (Kd.R_drew HO_393001.out)
                  have n2_ := Aside0.mk (Kd.R_drew HO_398001.out)
                  have n3_ := Aside0.mk (blk_drew BK392.out)
                  have n4_ := Aside0.mk (blk_drew BK397.out)
                  have n5_ := Aside0.mk (blk_drew BK401.out)
                  have n6_ := Aside0.mk (below_drew1 HB.out)
                  clear HO_3
                  clear HO_393001
                  clear HO_398001
                  clear BK392
                  clear BK397
                  clear BK401
                  clear HB
                  have HO_3 := n0_
                  have HO_393001 := n1_
                  have HO_398001 := n2_
                  have BK392 := n3_
                  have BK397 := n4_
                  have BK401 := n5_
                  have HB := n6_
                  clear n0_ n1_ n2_ n3_ n4_ n5_ n6_
                  have p403 : 0 ≤ (x7_1 : Int) := q_d
                  have q403 : x7_1 < (t389.length : Int) := q_d
                  obtain ⟨ad403, e403, hx403_0, hx403_1, hx403_2, hx403_3⟩ := at_T49 (Kd.R_reads' HO_393001.out).2.2 x7_1 p403 q403
                  (try rw [← Nbq40.out] at hx403_3)
                  cases e403
                  replace p403 := eq_true p403
                  replace q403 := eq_true q403
                  have p404 : 0 ≤ (x7_1 : Int) := q_d
                  have q404 : x7_1 < (t389.length : Int) := q_d
                  obtain ⟨ad404, e404, hx404_0, hx404_1, hx404_2, hx404_3⟩ := at_T49 (Kd.R_reads' HO_393001.out).2.2 x7_1 p404 q404
                  (try rw [← Nbq40.out] at hx404_3)
                  obtain rfl : ad403 = ad404 := (by injection e404)
                  replace p404 := eq_true p404
                  replace q404 := eq_true q404
                  have p405 : 0 ≤ (x7_1 : Int) := q_d
                  have q405 : x7_1 < (t389.length : Int) := q_d
                  obtain ⟨ad405, e405, hx405_0, hx405_1, hx405_2, hx405_3⟩ := at_T49 (Kd.R_reads' HO_393001.out).2.2 x7_1 p405 q405
                  (try rw [← Nbq40.out] at hx405_3)
                  obtain rfl : ad403 = ad405 := (by injection e405)
                  replace p405 := eq_true p405
                  replace q405 := eq_true q405
                  refine start_ (n := 34) (S := fun w' => w'.cell? ⟨gb392, 0, none⟩ = some (.int .i64 t388) ∧ w'.cell? ⟨gb392, 1, none⟩ = some (.slice (some ad403) t389.length co13) ∧ w'.cell? ⟨gb401, 0, none⟩ = some (.int .i64 t399) ∧ w'.cell? ⟨gb401, 1, none⟩ = some (.string t400) ∧ w'.cell? (ad403.add ((x7_1).toNat * 4)) = some (.string ((rd_T49 t389 x7_1).f0)) ∧ w'.cell? ⟨(ad403.add ((x7_1).toNat * 4)).block, (ad403.add ((x7_1).toNat * 4)).off + 1, none⟩ = some (.int .i64 ((rd_T49 t389 x7_1).f1)) ∧ w'.cell? ⟨(ad403.add ((x7_1).toNat * 4)).block, (ad403.add ((x7_1).toNat * 4)).off + 2, none⟩ = some (.string ((rd_T49 t389 x7_1).f2)) ∧ w'.cell? ⟨(ad403.add ((x7_1).toNat * 4)).block, (ad403.add ((x7_1).toNat * 4)).off + 3, none⟩ = some (.bool false) ∧ w'.cell? (ad403.add ((x7_1).toNat * 4)) = some (.string ((rd_T49 t389 x7_1).f0)) ∧ w'.cell? ⟨(ad403.add ((x7_1).toNat * 4)).block, (ad403.add ((x7_1).toNat * 4)).off + 1, none⟩ = some (.int .i64 ((rd_T49 t389 x7_1).f1)) ∧ w'.cell? ⟨(ad403.add ((x7_1).toNat * 4)).block, (ad403.add ((x7_1).toNat * 4)).off + 2, none⟩ = some (.string ((rd_T49 t389 x7_1).f2)) ∧ w'.cell? ⟨(ad403.add ((x7_1).toNat * 4)).block, (ad403.add ((x7_1).toNat * 4)).off + 3, none⟩ = some (.bool false) ∧ w'.cell? (ad403.add ((x7_1).toNat * 4)) = some (.string ((rd_T49 t389 x7_1).f0)) ∧ w'.cell? ⟨(ad403.add ((x7_1).toNat * 4)).block, (ad403.add ((x7_1).toNat * 4)).off + 1, none⟩ = some (.int .i64 ((rd_T49 t389 x7_1).f1)) ∧ w'.cell? ⟨(ad403.add ((x7_1).toNat * 4)).block, (ad403.add ((x7_1).toNat * 4)).off + 2, none⟩ = some (.string ((rd_T49 t389 x7_1).f2)) ∧ w'.cell? ⟨(ad403.add ((x7_1).toNat * 4)).block, (ad403.add ((x7_1).toNat * 4)).off + 3, none⟩ = some (.bool false)) (ds := []) #[false, false, false, false, false, false, false, false, false, false, false, false, false, false, false, false, false, false, false, false, false, false, false, false, false, false, false, false, false, false, false, false, false, false] (by kernel_rfl) rfl rfl ⟨q_z BK392.out 0, q_z BK392.out 1, q_z BK401.out 0, q_z BK401.out 1, hx403_0, hx403_1, hx403_2, hx403_3, hx404_0, hx404_1, hx404_2, hx404_3, hx405_0, hx405_1, hx405_2, hx405_3⟩ (fun hHeld => ?_); refine with_tabW laws_FnScans.tab15 laws_FnScans.bits15 (fun HT_ HW_ => ?_)
                  generalize w50.drew = w51 at HO_3 HO_393001 HO_398001 BK392 BK397 BK401 HB hx403_0 hx403_1 hx403_2 hx403_3 hx404_0 hx404_1 hx404_2 hx404_3 hx405_0 hx405_1 hx405_2 hx405_3 hHeld ⊢
                  refine q_P 0 (some 75) #[true, false, false, false, false, false, false, false, false, false, false, false, false, false, false, false, false, false, false, false, false, false, false, false, false, false, false, false, false, false, false, false, false, false] HT_.out ?_
                  refine q_P 1 (some 76) #[true, true, false, false, false, false, false, false, false, false, false, false, false, false, false, false, false, false, false, false, false, false, false, false, false, false, false, false, false, false, false, false, false, false] HT_.out ?_
                  refine q_t 2 (some 77) #[true, true, true, false, false, false, false, false, false, false, false, false, false, false, false, false, false, false, false, false, false, false, false, false, false, false, false, false, false, false, false, false, false, false] HT_.out HW_.out hHeld ?_
                  refine q_P 3 (some 78) #[true, true, true, true, false, false, false, false, false, false, false, false, false, false, false, false, false, false, false, false, false, false, false, false, false, false, false, false, false, false, false, false, false, false] HT_.out ?_
                  refine q_P 4 (some 79) #[true, true, true, true, true, false, false, false, false, false, false, false, false, false, false, false, false, false, false, false, false, false, false, false, false, false, false, false, false, false, false, false, false, false] HT_.out ?_
                  refine q_P 5 (some 80) #[true, true, true, true, true, true, false, false, false, false, false, false, false, false, false, false, false, false, false, false, false, false, false, false, false, false, false, false, false, false, false, false, false, false] HT_.out ?_
                  refine q_P 6 (some 81) #[true, true, true, true, true, true, true, false, false, false, false, false, false, false, false, false, false, false, false, false, false, false, false, false, false, false, false, false, false, false, false, false, false, false] HT_.out ?_
                  refine q_P 8 (some 83) #[true, true, true, true, true, true, true, false, true, false, false, false, false, false, false, false, false, false, false, false, false, false, false, false, false, false, false, false, false, false, false, false, false, false] HT_.out ?_
                  refine q_P 12 (some 87) #[true, true, true, true, true, true, true, false, true, false, false, false, true, false, false, false, false, false, false, false, false, false, false, false, false, false, false, false, false, false, false, false, false, false] HT_.out ?_
                  refine q_t 7 (some 82) #[true, true, true, true, true, true, true, true, true, false, false, false, true, false, false, false, false, false, false, false, false, false, false, false, false, false, false, false, false, false, false, false, false, false] HT_.out HW_.out hHeld ?_
                  refine q_P 9 (some 84) #[true, true, true, true, true, true, true, true, true, true, false, false, true, false, false, false, false, false, false, false, false, false, false, false, false, false, false, false, false, false, false, false, false, false] HT_.out ?_
                  refine q_P 10 (some 85) #[true, true, true, true, true, true, true, true, true, true, true, false, true, false, false, false, false, false, false, false, false, false, false, false, false, false, false, false, false, false, false, false, false, false] HT_.out ?_
                  refine q_t 11 (some 86) #[true, true, true, true, true, true, true, true, true, true, true, true, true, false, false, false, false, false, false, false, false, false, false, false, false, false, false, false, false, false, false, false, false, false] HT_.out HW_.out hHeld ?_
                  refine q_P 13 (some 88) #[true, true, true, true, true, true, true, true, true, true, true, true, true, true, false, false, false, false, false, false, false, false, false, false, false, false, false, false, false, false, false, false, false, false] HT_.out ?_
                  refine q_P 14 (some 89) #[true, true, true, true, true, true, true, true, true, true, true, true, true, true, true, false, false, false, false, false, false, false, false, false, false, false, false, false, false, false, false, false, false, false] HT_.out ?_
                  refine q_P 15 (some 90) #[true, true, true, true, true, true, true, true, true, true, true, true, true, true, true, true, false, false, false, false, false, false, false, false, false, false, false, false, false, false, false, false, false, false] HT_.out ?_
                  refine q_P 16 (some 91) #[true, true, true, true, true, true, true, true, true, true, true, true, true, true, true, true, true, false, false, false, false, false, false, false, false, false, false, false, false, false, false, false, false, false] HT_.out ?_
                  refine q_P 18 (some 93) #[true, true, true, true, true, true, true, true, true, true, true, true, true, true, true, true, true, false, true, false, false, false, false, false, false, false, false, false, false, false, false, false, false, false] HT_.out ?_
                  refine q_P 22 (some 97) #[true, true, true, true, true, true, true, true, true, true, true, true, true, true, true, true, true, false, true, false, false, false, true, false, false, false, false, false, false, false, false, false, false, false] HT_.out ?_
                  refine q_t 17 (some 92) #[true, true, true, true, true, true, true, true, true, true, true, true, true, true, true, true, true, true, true, false, false, false, true, false, false, false, false, false, false, false, false, false, false, false] HT_.out HW_.out hHeld ?_
                  refine q_P 19 (some 94) #[true, true, true, true, true, true, true, true, true, true, true, true, true, true, true, true, true, true, true, true, false, false, true, false, false, false, false, false, false, false, false, false, false, false] HT_.out ?_
                  refine q_P 20 (some 95) #[true, true, true, true, true, true, true, true, true, true, true, true, true, true, true, true, true, true, true, true, true, false, true, false, false, false, false, false, false, false, false, false, false, false] HT_.out ?_
                  refine q_t 21 (some 96) #[true, true, true, true, true, true, true, true, true, true, true, true, true, true, true, true, true, true, true, true, true, true, true, false, false, false, false, false, false, false, false, false, false, false] HT_.out HW_.out hHeld ?_
                  refine q_t 23 (some 98) #[true, true, true, true, true, true, true, true, true, true, true, true, true, true, true, true, true, true, true, true, true, true, true, true, false, false, false, false, false, false, false, false, false, false] HT_.out HW_.out hHeld ?_
                  refine q_P 24 (some 99) #[true, true, true, true, true, true, true, true, true, true, true, true, true, true, true, true, true, true, true, true, true, true, true, true, true, false, false, false, false, false, false, false, false, false] HT_.out ?_
                  refine q_P 25 (some 100) #[true, true, true, true, true, true, true, true, true, true, true, true, true, true, true, true, true, true, true, true, true, true, true, true, true, true, false, false, false, false, false, false, false, false] HT_.out ?_
                  refine q_P 26 (some 101) #[true, true, true, true, true, true, true, true, true, true, true, true, true, true, true, true, true, true, true, true, true, true, true, true, true, true, true, false, false, false, false, false, false, false] HT_.out ?_
                  refine q_P 27 (some 102) #[true, true, true, true, true, true, true, true, true, true, true, true, true, true, true, true, true, true, true, true, true, true, true, true, true, true, true, true, false, false, false, false, false, false] HT_.out ?_
                  refine q_P 29 (some 104) #[true, true, true, true, true, true, true, true, true, true, true, true, true, true, true, true, true, true, true, true, true, true, true, true, true, true, true, true, false, true, false, false, false, false] HT_.out ?_
                  refine q_t 28 (some 103) #[true, true, true, true, true, true, true, true, true, true, true, true, true, true, true, true, true, true, true, true, true, true, true, true, true, true, true, true, true, true, false, false, false, false] HT_.out HW_.out hHeld ?_
                  refine q_P 30 (some 105) #[true, true, true, true, true, true, true, true, true, true, true, true, true, true, true, true, true, true, true, true, true, true, true, true, true, true, true, true, true, true, true, false, false, false] HT_.out ?_
                  refine q_P 31 (some 106) #[true, true, true, true, true, true, true, true, true, true, true, true, true, true, true, true, true, true, true, true, true, true, true, true, true, true, true, true, true, true, true, true, false, false] HT_.out ?_
                  refine q_t 32 (some 107) #[true, true, true, true, true, true, true, true, true, true, true, true, true, true, true, true, true, true, true, true, true, true, true, true, true, true, true, true, true, true, true, true, true, false] HT_.out HW_.out hHeld ?_
                  refine q_P 33 (some 108) #[true, true, true, true, true, true, true, true, true, true, true, true, true, true, true, true, true, true, true, true, true, true, true, true, true, true, true, true, true, true, true, true, true, true] HT_.out ?_
                  refine done_ (done_of HT_.out (by kernel_rfl)) ?_
                  try go_wp2
                  go_roundg k1
                  case measure => have := HK1.out; omega
                  case rel => (try rw [← Nbq40.out]); exact ⟨(wrap64 (x7_1 + 1)), (wrap64 (x9_1 + 1)), q_i, q_i, H', ⟨by have := HK1.out; omega⟩, ⟨q_r (HO_3.out)⟩, ⟨q_r (HO_393001.out)⟩, ⟨q_r (HO_398001.out)⟩, ⟨q_b BK392.out⟩, ⟨q_b BK397.out⟩, ⟨bq⟩⟩
                ·rw [if_neg c39] at H
                 have c39b0 : (((rd_T49 t389 x7_1).f2).toList == t400.toList) = false := beq_eq_false_iff_ne.mpr c39
                 have c39b1 : (((rd_T49 t389 x7_1).f2).toList != t400.toList) = true := bne_iff_ne.mpr c39
                 exact absurd H (by simp)
               ·rw [if_neg c38] at H
                have c38b0 : (((rd_T49 t389 x7_1).f0).toList == (rdOf ByteArray.empty t394 x9_1).toList) = false := beq_eq_false_iff_ne.mpr c38
                have c38b1 : (((rd_T49 t389 x7_1).f0).toList != (rdOf ByteArray.empty t394 x9_1).toList) = true := bne_iff_ne.mpr c38
                exact absurd H (by simp)
              ·rw [if_neg c37] at H
               exact absurd H (by simp)
             ·rw [if_neg c36] at H
              exact absurd H (by simp)
           ·rw [if_neg c34] at H
            have c34b0 : (((rdOf ByteArray.empty t394 x9_1).extract 0 ((t384.size : Int) : Int).toNat).toList == t384.toList) = false := beq_eq_false_iff_ne.mpr c34
            have c34b0n : (((rdOf ByteArray.empty t394 x9_1).extract 0 t384.size).toList == t384.toList) = false := by simpa only [Int.toNat_natCast] using c34b0
            have c34b1 : (((rdOf ByteArray.empty t394 x9_1).extract 0 ((t384.size : Int) : Int).toNat).toList != t384.toList) = true := bne_iff_ne.mpr c34
            have c34b1n : (((rdOf ByteArray.empty t394 x9_1).extract 0 t384.size).toList != t384.toList) = true := by simpa only [Int.toNat_natCast] using c34b1
            have H' := Aside0.mk H
            clear H
            have hnb52 := NB397_392.out
            have hnc52 := NB392_397.out
            obtain ⟨hcz53_0, hcz53_1, hfz53_0, hfz53_1⟩ := q_2 BK397.out
            have p398 : 0 ≤ (x9_1 : Int) := q_d
            have q398 : x9_1 < (t394.length : Int) := q_d
            obtain ⟨ad398, e398, hx398_0⟩ := Kd.at_string (Kd.R_reads' HO_398001.out).2.2 x9_1 p398 q398
            cases e398
            replace p398 := eq_true p398
            replace q398 := eq_true q398
            go_wp2_with (first | ((with_reducible refine gate_callee (f := 26) rfl ?_); refine goesLq (some 51) rfl rfl Try.func26 (by kernel_rfl) rfl #[.slice Ao9 t383.length co9, .string (rdOf ByteArray.empty t394 x9_1), .int .i64 t385] rfl ?_; (with_reducible refine (impl_GetRow.calls k1 _ _ t383 (rdOf ByteArray.empty t394 x9_1) t385 t399 t400 _ ?side1 ?side2 A21.out).mono ?_); (case side1 => exact q_c ((Kd.R_reads' HO_3.out).2.2)); (case side2 => exact (Kd.R_reads' HO_3.out).2.1); rintro e w54 ⟨rfl, hb⟩; refine ⟨_, rfl, ?_⟩; have n0_ := Aside0.mk (Kd.R_below (q_r (HO_3.out)) hb); have n1_ := Aside0.mk (Kd.R_below (q_r (HO_393001.out)) hb); have n2_ := Aside0.mk (Kd.R_below (q_r (HO_398001.out)) hb); have n3_ := Aside0.mk (blk_below (q_b BK392.out) hb); have n4_ := Aside0.mk (blk_below (q_b BK397.out) hb); have n5_ := Aside0.mk (below_step bq hb); revert n0_ n1_ n2_ n3_ n4_ n5_; clear HO_3 HO_393001 HO_398001 BK392 BK397 HB; intro HO_3 HO_393001 HO_398001 BK392 BK397 HB; (try clear hb); (try clear hb2); (try clear hk); (try clear hi)) | ((with_reducible refine gate_dst (N := 10) rfl ?_); (try (refine gate_guard (by rfl) ?_; dsimp only)); refine q_box (N := 10) (cs := #[.int .i64 0, .string (⟨#[]⟩ : ByteArray)]) (t := 37) ?_; intro gb401 hg w55 hbox hb; have n0_ := Aside0.mk (Kd.R_below (q_r (HO_3.out)) hb); have n1_ := Aside0.mk (Kd.R_below (q_r (HO_393001.out)) hb); have n2_ := Aside0.mk (Kd.R_below (q_r (HO_398001.out)) hb); have n3_ := Aside0.mk (blk_below (q_b BK392.out) hb); have n4_ := Aside0.mk (blk_below (q_b BK397.out) hb); have n5_ := Aside0.mk (below_step bq hb); have n6_ := Aside0.mk (hbox); have n7_ := Aside0.mk ((q_g hg bq : w.heap.size ≤ gb401)); have n8_ := Aside0.mk ((q_g hg bq : w.heap.size ≤ gb401)); have n9_ := Aside0.mk ((q_n hg (q_b BK392.out) : gb392 ≠ gb401)); have n10_ := Aside0.mk ((q_m hg (q_b BK392.out) : gb401 ≠ gb392)); have n11_ := Aside0.mk ((q_n hg (q_b BK397.out) : gb397 ≠ gb401)); have n12_ := Aside0.mk ((q_m hg (q_b BK397.out) : gb401 ≠ gb397)); revert n0_ n1_ n2_ n3_ n4_ n5_ n6_ n7_ n8_ n9_ n10_ n11_ n12_; clear HO_3 HO_393001 HO_398001 BK392 BK397 HB; intro HO_3 HO_393001 HO_398001 BK392 BK397 HB BK401 GW401 GE401 NB392_401 NB401_392 NB397_401 NB401_397; clear hb hbox hg; have hnb56 := NB401_392.out; have hnc56 := NB392_401.out; have hnb57 := NB401_397.out; have hnc57 := NB397_401.out; obtain ⟨hcz58_0, hcz58_1, hfz58_0, hfz58_1⟩ := q_2 BK401.out; obtain ⟨hcz59_0, hcz59_1, hfz59_0, hfz59_1⟩ := q_2 BK397.out; have p402 : 0 ≤ (x9_1 : Int) := q_d; have q402 : x9_1 < (t394.length : Int) := q_d; obtain ⟨ad402, e402, hx402_0⟩ := Kd.at_string (Kd.R_reads' HO_398001.out).2.2 x9_1 p402 q402; obtain rfl : ad398 = ad402 := (by injection e402); have hn402_0 : ad398.block ≠ gb401 := Kd.own_blk (Kd.R_ne HO_398001.out BK401.out (by decide)); have hn402_1 : ad398.block ≠ gb401 := Kd.own_blk (Kd.R_ne HO_398001.out BK401.out (by decide)); replace hx402_0 := (cell_far (p := ⟨gb401, 0, none⟩) (by first | (rw [add_block]; exact hn402_0) | (show (Addr.add _ _).block ≠ _; rw [add_block]; exact hn402_0) | exact hn402_0) (.int .i64 t399)).trans hx402_0; replace hx402_0 := (cell_far (p := ⟨gb401, 1, none⟩) (by first | (rw [add_block]; exact hn402_1) | (show (Addr.add _ _).block ≠ _; rw [add_block]; exact hn402_1) | exact hn402_1) (.string t400)).trans hx402_0; clear hn402_0; clear hn402_1; replace p402 := eq_true p402; replace q402 := eq_true q402))
            go_roundg k1
            case measure => have := HK1.out; omega
            case rel => (try rw [← Nbq40.out]); exact ⟨(x7_1), (wrap64 (x9_1 + 1)), q_i, q_i, H', ⟨by have := HK1.out; omega⟩, ⟨by (with_reducible repeat (first | apply Kd.R_alloc | apply Kd.R_drewN | apply Kd.R_drew)); exact Kd.R_mono (Kd.R_far (p := ⟨gb401, 1, none⟩) (Kd.R_far (p := ⟨gb401, 0, none⟩) (Kd.R_types HO_3.out BK401.out (by decide)) (fun _ hk => hk.2) (.int .i64 t399)) (fun _ hk => hk.2) (.string t400)) (fun _ hk => hk.1)⟩, ⟨by (with_reducible repeat (first | apply Kd.R_alloc | apply Kd.R_drewN | apply Kd.R_drew)); exact Kd.R_mono (Kd.R_far (p := ⟨gb401, 1, none⟩) (Kd.R_far (p := ⟨gb401, 0, none⟩) (Kd.R_types HO_393001.out BK401.out (by decide)) (fun _ hk => hk.2) (.int .i64 t399)) (fun _ hk => hk.2) (.string t400)) (fun _ hk => hk.1)⟩, ⟨by (with_reducible repeat (first | apply Kd.R_alloc | apply Kd.R_drewN | apply Kd.R_drew)); exact Kd.R_mono (Kd.R_far (p := ⟨gb401, 1, none⟩) (Kd.R_far (p := ⟨gb401, 0, none⟩) (Kd.R_types HO_398001.out BK401.out (by decide)) (fun _ hk => hk.2) (.int .i64 t399)) (fun _ hk => hk.2) (.string t400)) (fun _ hk => trivial)⟩, ⟨by (with_reducible repeat (first | refine blk_drewN ?_ _ | refine blk_drew ?_ | refine blk_alloc ?_ _)); refine blk_far ?_ NB392_401.out _; (with_reducible repeat (first | refine blk_drewN ?_ _ | refine blk_drew ?_ | refine blk_alloc ?_ _)); refine blk_far ?_ NB392_401.out _; (with_reducible repeat (first | refine blk_drewN ?_ _ | refine blk_drew ?_ | refine blk_alloc ?_ _)); exact BK392.out⟩, ⟨by (with_reducible repeat (first | refine blk_drewN ?_ _ | refine blk_drew ?_ | refine blk_alloc ?_ _)); refine blk_far ?_ NB397_401.out _; (with_reducible repeat (first | refine blk_drewN ?_ _ | refine blk_drew ?_ | refine blk_alloc ?_ _)); refine blk_far ?_ NB397_401.out _; (with_reducible repeat (first | refine blk_drewN ?_ _ | refine blk_drew ?_ | refine blk_alloc ?_ _)); exact BK397.out⟩, ⟨bq⟩⟩
          ·rw [if_neg c33] at H
           exact absurd H (by simp)
         ·rw [if_neg c32] at H
          exact absurd H (by simp)
       ·rw [if_neg c22] at H
        have c22b0 : (t399 == 0) = false := beq_eq_false_iff_ne.mpr c22
        have c22b1 : (t399 != 0) = true := bne_iff_ne.mpr c22
        have H' := Aside0.mk H
        clear H
        have hnb60 := NB397_392.out
        have hnc60 := NB392_397.out
        obtain ⟨hcz61_0, hcz61_1, hfz61_0, hfz61_1⟩ := q_2 BK397.out
        have p398 : 0 ≤ (x9_1 : Int) := q_d
        have q398 : x9_1 < (t394.length : Int) := q_d
        obtain ⟨ad398, e398, hx398_0⟩ := Kd.at_string (Kd.R_reads' HO_398001.out).2.2 x9_1 p398 q398
        cases e398
        replace p398 := eq_true p398
        replace q398 := eq_true q398
        go_wp2_with (first | ((with_reducible refine gate_callee (f := 26) rfl ?_); refine goesLq (some 51) rfl rfl Try.func26 (by kernel_rfl) rfl #[.slice Ao9 t383.length co9, .string (rdOf ByteArray.empty t394 x9_1), .int .i64 t385] rfl ?_; (with_reducible refine (impl_GetRow.calls k1 _ _ t383 (rdOf ByteArray.empty t394 x9_1) t385 t399 t400 _ ?side1 ?side2 A21.out).mono ?_); (case side1 => exact q_c ((Kd.R_reads' HO_3.out).2.2)); (case side2 => exact (Kd.R_reads' HO_3.out).2.1); rintro e w62 ⟨rfl, hb⟩; refine ⟨_, rfl, ?_⟩; have n0_ := Aside0.mk (Kd.R_below (q_r (HO_3.out)) hb); have n1_ := Aside0.mk (Kd.R_below (q_r (HO_393001.out)) hb); have n2_ := Aside0.mk (Kd.R_below (q_r (HO_398001.out)) hb); have n3_ := Aside0.mk (blk_below (q_b BK392.out) hb); have n4_ := Aside0.mk (blk_below (q_b BK397.out) hb); have n5_ := Aside0.mk (below_step bq hb); revert n0_ n1_ n2_ n3_ n4_ n5_; clear HO_3 HO_393001 HO_398001 BK392 BK397 HB; intro HO_3 HO_393001 HO_398001 BK392 BK397 HB; (try clear hb); (try clear hb2); (try clear hk); (try clear hi)) | ((with_reducible refine gate_dst (N := 10) rfl ?_); (try (refine gate_guard (by rfl) ?_; dsimp only)); refine q_box (N := 10) (cs := #[.int .i64 0, .string (⟨#[]⟩ : ByteArray)]) (t := 37) ?_; intro gb401 hg w63 hbox hb; have n0_ := Aside0.mk (Kd.R_below (q_r (HO_3.out)) hb); have n1_ := Aside0.mk (Kd.R_below (q_r (HO_393001.out)) hb); have n2_ := Aside0.mk (Kd.R_below (q_r (HO_398001.out)) hb); have n3_ := Aside0.mk (blk_below (q_b BK392.out) hb); have n4_ := Aside0.mk (blk_below (q_b BK397.out) hb); have n5_ := Aside0.mk (below_step bq hb); have n6_ := Aside0.mk (hbox); have n7_ := Aside0.mk ((q_g hg bq : w.heap.size ≤ gb401)); have n8_ := Aside0.mk ((q_g hg bq : w.heap.size ≤ gb401)); have n9_ := Aside0.mk ((q_n hg (q_b BK392.out) : gb392 ≠ gb401)); have n10_ := Aside0.mk ((q_m hg (q_b BK392.out) : gb401 ≠ gb392)); have n11_ := Aside0.mk ((q_n hg (q_b BK397.out) : gb397 ≠ gb401)); have n12_ := Aside0.mk ((q_m hg (q_b BK397.out) : gb401 ≠ gb397)); revert n0_ n1_ n2_ n3_ n4_ n5_ n6_ n7_ n8_ n9_ n10_ n11_ n12_; clear HO_3 HO_393001 HO_398001 BK392 BK397 HB; intro HO_3 HO_393001 HO_398001 BK392 BK397 HB BK401 GW401 GE401 NB392_401 NB401_392 NB397_401 NB401_397; clear hb hbox hg; have hnb64 := NB401_392.out; have hnc64 := NB392_401.out; have hnb65 := NB401_397.out; have hnc65 := NB397_401.out; obtain ⟨hcz66_0, hcz66_1, hfz66_0, hfz66_1⟩ := q_2 BK401.out; obtain ⟨hcz67_0, hcz67_1, hfz67_0, hfz67_1⟩ := q_2 BK397.out; have p402 : 0 ≤ (x9_1 : Int) := q_d; have q402 : x9_1 < (t394.length : Int) := q_d; obtain ⟨ad402, e402, hx402_0⟩ := Kd.at_string (Kd.R_reads' HO_398001.out).2.2 x9_1 p402 q402; obtain rfl : ad398 = ad402 := (by injection e402); have hn402_0 : ad398.block ≠ gb401 := Kd.own_blk (Kd.R_ne HO_398001.out BK401.out (by decide)); have hn402_1 : ad398.block ≠ gb401 := Kd.own_blk (Kd.R_ne HO_398001.out BK401.out (by decide)); replace hx402_0 := (cell_far (p := ⟨gb401, 0, none⟩) (by first | (rw [add_block]; exact hn402_0) | (show (Addr.add _ _).block ≠ _; rw [add_block]; exact hn402_0) | exact hn402_0) (.int .i64 t399)).trans hx402_0; replace hx402_0 := (cell_far (p := ⟨gb401, 1, none⟩) (by first | (rw [add_block]; exact hn402_1) | (show (Addr.add _ _).block ≠ _; rw [add_block]; exact hn402_1) | exact hn402_1) (.string t400)).trans hx402_0; clear hn402_0; clear hn402_1; replace p402 := eq_true p402; replace q402 := eq_true q402))
        go_roundg k1
        case measure => have := HK1.out; omega
        case rel => (try rw [← Nbq40.out]); exact ⟨(x7_1), (wrap64 (x9_1 + 1)), q_i, q_i, H', ⟨by have := HK1.out; omega⟩, ⟨by (with_reducible repeat (first | apply Kd.R_alloc | apply Kd.R_drewN | apply Kd.R_drew)); exact Kd.R_mono (Kd.R_far (p := ⟨gb401, 1, none⟩) (Kd.R_far (p := ⟨gb401, 0, none⟩) (Kd.R_types HO_3.out BK401.out (by decide)) (fun _ hk => hk.2) (.int .i64 t399)) (fun _ hk => hk.2) (.string t400)) (fun _ hk => hk.1)⟩, ⟨by (with_reducible repeat (first | apply Kd.R_alloc | apply Kd.R_drewN | apply Kd.R_drew)); exact Kd.R_mono (Kd.R_far (p := ⟨gb401, 1, none⟩) (Kd.R_far (p := ⟨gb401, 0, none⟩) (Kd.R_types HO_393001.out BK401.out (by decide)) (fun _ hk => hk.2) (.int .i64 t399)) (fun _ hk => hk.2) (.string t400)) (fun _ hk => hk.1)⟩, ⟨by (with_reducible repeat (first | apply Kd.R_alloc | apply Kd.R_drewN | apply Kd.R_drew)); exact Kd.R_mono (Kd.R_far (p := ⟨gb401, 1, none⟩) (Kd.R_far (p := ⟨gb401, 0, none⟩) (Kd.R_types HO_398001.out BK401.out (by decide)) (fun _ hk => hk.2) (.int .i64 t399)) (fun _ hk => hk.2) (.string t400)) (fun _ hk => trivial)⟩, ⟨by (with_reducible repeat (first | refine blk_drewN ?_ _ | refine blk_drew ?_ | refine blk_alloc ?_ _)); refine blk_far ?_ NB392_401.out _; (with_reducible repeat (first | refine blk_drewN ?_ _ | refine blk_drew ?_ | refine blk_alloc ?_ _)); refine blk_far ?_ NB392_401.out _; (with_reducible repeat (first | refine blk_drewN ?_ _ | refine blk_drew ?_ | refine blk_alloc ?_ _)); exact BK392.out⟩, ⟨by (with_reducible repeat (first | refine blk_drewN ?_ _ | refine blk_drew ?_ | refine blk_alloc ?_ _)); refine blk_far ?_ NB397_401.out _; (with_reducible repeat (first | refine blk_drewN ?_ _ | refine blk_drew ?_ | refine blk_alloc ?_ _)); refine blk_far ?_ NB397_401.out _; (with_reducible repeat (first | refine blk_drewN ?_ _ | refine blk_drew ?_ | refine blk_alloc ?_ _)); exact BK397.out⟩, ⟨bq⟩⟩
      ·rw [if_neg c20] at H
       exact absurd H (by simp)
     ·rw [if_neg c19] at H
      have c19b0 := decide_eq_false c19
      clear c19
      by_cases c68 : x7_1 = (t389.length : Int)
      ·rw [if_pos c68] at H
       have c68b0 : (x7_1 == (t389.length : Int)) = true := beq_iff_eq.mpr c68
       have c68b1 : (x7_1 != (t389.length : Int)) = false := bne_eq_false_iff_eq.mpr c68
       clear c68
       replace H := Option.bind_eq_some_iff.mp H
       obtain ⟨⟨t406, t407⟩, A690, H⟩ := H
       replace H : (some ((t394.length : Int) == (t407.length : Int))) = some r := H
       have A69 := Aside0.mk A690
       clear A690
       obtain rfl := Option.some.inj H
       have hnb70 := NB397_392.out
       have hnc70 := NB392_397.out
       obtain ⟨hcz71_0, hcz71_1, hfz71_0, hfz71_1⟩ := q_2 BK397.out
       try go_wp2
       have n0_ := Aside0.mk (Kd.R_drew HO_3.out)
       have n1_ := Aside0.mk (Kd.R_drew HO_393001.out)
       have n2_ := Aside0.mk (Kd.R_drew HO_398001.out)
       have n3_ := Aside0.mk (blk_drew BK392.out)
       have n4_ := Aside0.mk (blk_drew BK397.out)
       have n5_ := Aside0.mk (below_drew1 HB.out)
       clear HO_3
       clear HO_393001
       clear HO_398001
       clear BK392
       clear BK397
       clear HB
       have HO_3 := n0_
       have HO_393001 := n1_
       have HO_398001 := n2_
       have BK392 := n3_
       have BK397 := n4_
       have HB := n5_
       clear n0_ n1_ n2_ n3_ n4_ n5_
       refine start_ (n := 16) (S := fun w' => w'.cell? ⟨gb392, 0, none⟩ = some (.int .i64 t388) ∧ w'.cell? ⟨gb392, 1, none⟩ = some (.slice Ao13 t389.length co13) ∧ w'.cell? ⟨gb397, 0, none⟩ = some (.int .i64 t393) ∧ w'.cell? ⟨gb397, 1, none⟩ = some (.slice Ao18 t394.length co18)) (ds := []) #[false, false, false, false, false, false, false, false, false, false, false, false, false, false, false, false] (by kernel_rfl) rfl rfl ⟨q_z BK392.out 0, q_z BK392.out 1, q_z BK397.out 0, q_z BK397.out 1⟩ (fun hHeld => ?_); refine with_tabW laws_FnScans.tab18 laws_FnScans.bits18 (fun HT_ HW_ => ?_)
       generalize wr.drew = w72 at HO_3 HO_393001 HO_398001 BK392 BK397 HB hHeld ⊢
       refine q_P 0 (some 111) #[true, false, false, false, false, false, false, false, false, false, false, false, false, false, false, false] HT_.out ?_
       refine q_P 1 (some 112) #[true, true, false, false, false, false, false, false, false, false, false, false, false, false, false, false] HT_.out ?_
       refine q_t 2 (some 113) #[true, true, true, false, false, false, false, false, false, false, false, false, false, false, false, false] HT_.out HW_.out hHeld ?_
       refine q_P 3 (some 114) #[true, true, true, true, false, false, false, false, false, false, false, false, false, false, false, false] HT_.out ?_
       refine q_P 4 (some 115) #[true, true, true, true, true, false, false, false, false, false, false, false, false, false, false, false] HT_.out ?_
       refine q_P 5 (some 116) #[true, true, true, true, true, true, false, false, false, false, false, false, false, false, false, false] HT_.out ?_
       refine q_P 6 (some 117) #[true, true, true, true, true, true, true, false, false, false, false, false, false, false, false, false] HT_.out ?_
       refine q_P 9 (some 120) #[true, true, true, true, true, true, true, false, false, true, false, false, false, false, false, false] HT_.out ?_
       refine q_t 7 (some 118) #[true, true, true, true, true, true, true, true, false, true, false, false, false, false, false, false] HT_.out HW_.out hHeld ?_
       refine q_P 8 (some 119) #[true, true, true, true, true, true, true, true, true, true, false, false, false, false, false, false] HT_.out ?_
       refine one_ (i := 10) (N := some 121) #[true, true, true, true, true, true, true, true, true, true, true, false, false, false, false, false] rfl rfl (one_of HT_.out (by kernel_rfl)) (by decide) (fun K hK => ?_)
       refine goes_ Try.func42 (by kernel_rfl) rfl #[.slice Ao9 t383.length co9] (by rfl) rfl rfl (by (try simp only [List.map_toArray, List.map_cons, List.map_nil]); first | done | rfl | (simp only [List.length_drop, List.length_take]; rfl)) ?_
       with_reducible refine (spec_KeysOf.calls k1 _ _ t383 t406 t407 _ ?side1 ?side2 A69.out).mono ?_
       (case side1 => exact q_c ((Kd.R_reads' HO_3.out).2.2))
       (case side2 => exact (Kd.R_reads' HO_3.out).2.1)
       rintro e w73 ⟨v408, rfl, ho0, hb⟩
       refine ⟨_, rfl, ?_⟩
       have n0_ := Aside0.mk (Kd.R_below (q_r (HO_3.out)) hb)
       have n1_ := Aside0.mk (Kd.R_below (q_r (HO_393001.out)) hb)
       have n2_ := Aside0.mk (Kd.R_elder' (q_r (HO_398001.out)) (Kd.R_base ho0) hb)
       have n3_ := Aside0.mk (Kd.R_lower (Kd.R_new' ho0 (Kd.R_lt (q_r (HO_398001.out)))) (below_size bq))
       have n4_ := Aside0.mk (blk_below (q_b BK392.out) hb)
       have n5_ := Aside0.mk (blk_below (q_b BK397.out) hb)
       have n6_ := Aside0.mk (below_step bq hb)
       clear HO_3
       clear HO_393001
       clear HO_398001
       clear BK392
       clear BK397
       clear HB
       have HO_3 := n0_
       have HO_393001 := n1_
       have HO_398001 := n2_
       have HO409 := n3_
       have BK392 := n4_
       have BK397 := n5_
       have HB := n6_
       clear n0_ n1_ n2_ n3_ n4_ n5_ n6_
       (try clear hb)
       (try clear hb2)
       (try clear hk)
       (try clear hi)
       (try clear ho0)
       obtain ⟨Ao74, co74, eo74⟩ := Kd.R_slice HO409.out
       (first | subst eo74 | (injection eo74 with f1_ f2_ f3_; have f4_ := f1_.symm; have f5_ := f3_.symm; clear f1_ f2_ f3_; subst f4_; subst f5_))
       refine hK.out _ _ ⟨q_z BK392.out 0, q_z BK392.out 1, q_z BK397.out 0, q_z BK397.out 1⟩ (fun hHeld => ?_)
       clear hK K
       refine norm_ (a' := ?_) ?_ ?_
       rotate_left
       ·show Act.put _ (some 121) _ = _
        simp only [Act.put, List.setIfInBounds_toArray, List.set_cons_zero, List.set_cons_succ, i64_w, i32_w]
        rfl
       refine q_P 11 (some 122) #[true, true, true, true, true, true, true, true, true, true, true, true, false, false, false, false] HT_.out ?_
       refine q_P 12 (some 123) #[true, true, true, true, true, true, true, true, true, true, true, true, true, false, false, false] HT_.out ?_
       refine q_P 13 (some 124) #[true, true, true, true, true, true, true, true, true, true, true, true, true, true, false, false] HT_.out ?_
       refine q_P 14 (some 125) #[true, true, true, true, true, true, true, true, true, true, true, true, true, true, true, false] HT_.out ?_
       refine q_P 15 (some 2) #[true, true, true, true, true, true, true, true, true, true, true, true, true, true, true, true] HT_.out ?_
       refine done_ (done_of HT_.out (by kernel_rfl)) ?_
       try go_wp2
       go_ret
       exact ⟨q_e, bq⟩
      ·rw [if_neg c68] at H
       have c68b0 : (x7_1 == (t389.length : Int)) = false := beq_eq_false_iff_ne.mpr c68
       have c68b1 : (x7_1 != (t389.length : Int)) = true := bne_iff_ne.mpr c68
       exact absurd H (by simp)
  ·rw [if_neg c6] at H
   have c6b0 : (t388 == 0) = false := beq_eq_false_iff_ne.mpr c6
   have c6b1 : (t388 != 0) = true := bne_iff_ne.mpr c6
   replace H := Option.bind_eq_some_iff.mp H
   obtain ⟨⟨t410, t411⟩, A750, H⟩ := H
   replace H : (some (t410 == t388)) = some r := H
   have A75 := Aside0.mk A750
   clear A750
   obtain rfl := Option.some.inj H
   go_enter Try.func10, Try.ntmps10
   try go_wp2_with (first | ((with_reducible refine gate_callee (f := 28) rfl ?_); refine goesLq (some 13) rfl rfl Try.func28 (by kernel_rfl) rfl #[.slice A0 l0.length c0] rfl ?_; (with_reducible refine (laws_lwBig.calls _ _ l0 false _ ?side1 ?side2 A2.out).mono ?_); (case side1 => exact q_c (HR0.out)); (case side2 => exact HC0.out); rintro e w' ⟨rfl, ⟨nd, rfl⟩⟩; refine ⟨_, rfl, ?_⟩) | ((with_reducible refine gate_callee (f := 47) rfl ?_); refine goesLq (some 16) rfl rfl Try.func47 (by kernel_rfl) rfl #[.slice A0 l0.length c0] rfl ?_; (with_reducible refine (spec_DrawScanTable.calls k _ _ l0 t383 t384 t385 _ ?side1 ?side2 A4.out).mono ?_); (case side1 => exact q_c (HR0.out)); (case side2 => exact HC0.out); rintro e w76 ⟨v386, rfl, ho0, hb⟩; refine ⟨_, rfl, ?_⟩; have n0_ := Aside0.mk (Kd.R_lower ho0 (below_size bq)); have n1_ := Aside0.mk (below_step bq hb); revert n0_ n1_; clear HB; intro HO387 HB; (try clear hb); (try clear hb2); (try clear hk); (try clear hi); (try clear ho0); obtain ⟨Ao77, co77, eo77⟩ := Kd.R_slice HO387.out; subst eo77) | ((with_reducible refine gate_callee (f := 48) rfl ?_); refine goesLq (some 23) rfl rfl Try.func48 (by kernel_rfl) rfl #[.slice Ao77 t383.length co77, .string t384, .int .i64 t385] rfl ?_; (with_reducible refine (impl_ScanTable.calls k _ _ t383 t384 t385 t388 t389 _ ?side1 ?side2 A5.out).mono ?_); (case side1 => exact q_c ((Kd.R_reads' HO387.out).2.2)); (case side2 => exact (Kd.R_reads' HO387.out).2.1); rintro e w78 ⟨v390, rfl, ho0, hb⟩; refine ⟨_, rfl, ?_⟩; have n0_ := Aside0.mk (Kd.R_elder' (q_r (HO387.out)) (Kd.R_base ho0) hb); have n1_ := Aside0.mk (Kd.R_lower (Kd.R_new' ho0 (Kd.R_lt (q_r (HO387.out)))) (below_size bq)); have n2_ := Aside0.mk (below_step bq hb); revert n0_ n1_ n2_; clear HO387 HB; intro HO387 HO391 HB; (try clear hb); (try clear hb2); (try clear hk); (try clear hi); (try clear ho0)) | ((with_reducible refine gate_dst (N := 6) rfl ?_); (try (refine gate_guard (by rfl) ?_; dsimp only)); refine q_box (N := 6) (cs := #[.int .i64 0, .slice none 0 0]) (t := 46) ?_; intro gb392 hg w79 hbox hb; have n0_ := Aside0.mk (Kd.R_below (q_r (HO387.out)) hb); have n1_ := Aside0.mk (Kd.R_below (q_r (HO391.out)) hb); have n2_ := Aside0.mk (below_step bq hb); have n3_ := Aside0.mk (hbox); have n4_ := Aside0.mk ((q_g hg bq : w.heap.size ≤ gb392)); have n5_ := Aside0.mk ((q_g hg bq : w.heap.size ≤ gb392)); revert n0_ n1_ n2_ n3_ n4_ n5_; clear HO387 HO391 HB; intro HO387 HO391 HB BK392 GW392 GE392; clear hb hbox hg; obtain ⟨hcz80_0, hcz80_1, hfz80_0, hfz80_1⟩ := q_2 BK392.out; obtain ⟨Ao81, co81, eo81⟩ := Kd.R_slice HO391.out; subst eo81))
   have n0_ : Aside0 (Kd.R k49 49 ((w79.setCell ⟨gb392, 0, none⟩ (.int .i64 t388)).setCell ⟨gb392, 1, none⟩ (.slice Ao81 t389.length co81)) w.heap.size (fun k_ => some k_ ≠ (.slice Ao81 t389.length co81 : Value).ownBlock) (.slice Ao77 t383.length co77) t383) := ⟨by (with_reducible repeat (first | apply Kd.R_alloc | apply Kd.R_drewN | apply Kd.R_drew)); exact Kd.R_mono (Kd.R_far (p := ⟨gb392, 1, none⟩) (Kd.R_far (p := ⟨gb392, 0, none⟩) (Kd.R_types HO387.out BK392.out (by decide)) (fun _ hk => hk.2) (.int .i64 t388)) (fun _ hk => hk.2) (.slice Ao81 t389.length co81)) (fun _ hk => hk.1.2)⟩
   have n1_ : Aside0 (Kd.R k49 49 ((w79.setCell ⟨gb392, 0, none⟩ (.int .i64 t388)).setCell ⟨gb392, 1, none⟩ (.slice Ao81 t389.length co81)) w.heap.size (fun k_ => some k_ ≠ (.slice Ao77 t383.length co77 : Value).ownBlock) (.slice Ao81 t389.length co81) t389) := ⟨by (with_reducible repeat (first | apply Kd.R_alloc | apply Kd.R_drewN | apply Kd.R_drew)); exact Kd.R_mono (Kd.R_far (p := ⟨gb392, 1, none⟩) (Kd.R_far (p := ⟨gb392, 0, none⟩) (Kd.R_types HO391.out BK392.out (by decide)) (fun _ hk => hk.2) (.int .i64 t388)) (fun _ hk => hk.2) (.slice Ao81 t389.length co81)) (fun _ hk => hk.1.2)⟩
   have n2_ : Aside0 (((w79.setCell ⟨gb392, 0, none⟩ (.int .i64 t388)).setCell ⟨gb392, 1, none⟩ (.slice Ao81 t389.length co81)).heap[gb392]? = some (.cells #[.int .i64 t388, .slice Ao81 t389.length co81] 46 (0, 0))) := ⟨by (with_reducible repeat (first | refine blk_drewN ?_ _ | refine blk_drew ?_ | refine blk_alloc ?_ _)); refine blk_put (cs := #[.int .i64 t388, .slice none 0 0]) ?_ 1 _ rfl; (with_reducible repeat (first | refine blk_drewN ?_ _ | refine blk_drew ?_ | refine blk_alloc ?_ _)); refine blk_put (cs := #[.int .i64 0, .slice none 0 0]) ?_ 0 _ rfl; (with_reducible repeat (first | refine blk_drewN ?_ _ | refine blk_drew ?_ | refine blk_alloc ?_ _)); exact BK392.out⟩
   have n3_ : Aside0 (Below w.heap.size w ((w79.setCell ⟨gb392, 0, none⟩ (.int .i64 t388)).setCell ⟨gb392, 1, none⟩ (.slice Ao81 t389.length co81))) := ⟨bq⟩
   (try clear HO387)
   (try clear HO391)
   (try clear BK392)
   (try clear HB)
   generalize ((w79.setCell ⟨gb392, 0, none⟩ (.int .i64 t388)).setCell ⟨gb392, 1, none⟩ (.slice Ao81 t389.length co81)) = w82 at n0_ n1_ n2_ n3_ ⊢
   have HO387 := n0_
   have HO391 := n1_
   have BK392 := n2_
   have HB := n3_
   clear n0_ n1_ n2_ n3_
   have n0_ := Aside0.mk (Kd.R_drew HO387.out)
   have n1_ := Aside0.mk (Kd.R_drew HO391.out)
   have n2_ := Aside0.mk (blk_drew BK392.out)
   have n3_ := Aside0.mk (below_drew1 HB.out)
   clear HO387
   clear HO391
   clear BK392
   clear HB
   have HO387 := n0_
   have HO391 := n1_
   have BK392 := n2_
   have HB := n3_
   clear n0_ n1_ n2_ n3_
   refine start_ (n := 9) (S := fun w' => w'.cell? ⟨gb392, 0, none⟩ = some (.int .i64 t388) ∧ w'.cell? ⟨gb392, 1, none⟩ = some (.slice Ao81 t389.length co81)) (ds := []) #[false, false, false, false, false, false, false, false, false] (by kernel_rfl) rfl rfl ⟨q_z BK392.out 0, q_z BK392.out 1⟩ (fun hHeld => ?_); refine with_tabW laws_FnScans.tab6 laws_FnScans.bits6 (fun HT_ HW_ => ?_)
   generalize w82.drew = w83 at HO387 HO391 BK392 HB hHeld ⊢
   refine q_P 0 (some 27) #[true, false, false, false, false, false, false, false, false] HT_.out ?_
   refine q_P 1 (some 28) #[true, true, false, false, false, false, false, false, false] HT_.out ?_
   refine q_P 2 (some 29) #[true, true, true, false, false, false, false, false, false] HT_.out ?_
   refine q_P 5 (some 32) #[true, true, true, false, false, true, false, false, false] HT_.out ?_
   refine q_t 6 (some 33) #[true, true, true, false, false, true, true, false, false] HT_.out HW_.out hHeld ?_
   refine one_ (i := 3) (N := some 30) #[true, true, true, true, false, true, true, false, false] rfl rfl (one_of HT_.out (by kernel_rfl)) (by decide) (fun K hK => ?_)
   refine goes_ Try.func49 (by kernel_rfl) rfl #[.slice Ao77 t383.length co77, .string t384, .int .i64 t385] (by rfl) rfl rfl (by (try simp only [List.map_toArray, List.map_cons, List.map_nil]); first | done | rfl | (simp only [List.length_drop, List.length_take]; rfl)) ?_
   with_reducible refine (spec_ScanTable.calls k _ _ t383 t384 t385 t410 t411 _ ?side1 ?side2 A75.out).mono ?_
   (case side1 => exact q_c ((Kd.R_reads' HO387.out).2.2))
   (case side2 => exact (Kd.R_reads' HO387.out).2.1)
   rintro e w84 ⟨v412, rfl, ho0, hb⟩
   refine ⟨_, rfl, ?_⟩
   have n0_ := Aside0.mk (Kd.R_elder' (q_r (HO387.out)) (Kd.R_base ho0) hb)
   have n1_ := Aside0.mk (Kd.R_elder' (q_r (HO391.out)) (Kd.R_base ho0) hb)
   have n2_ := Aside0.mk (Kd.R_lower (Kd.R_new' (Kd.R_new' ho0 (Kd.R_lt (q_r (HO387.out)))) (Kd.R_lt (q_r (HO391.out)))) (below_size bq))
   have n3_ := Aside0.mk (blk_below (q_b BK392.out) hb)
   have n4_ := Aside0.mk (below_step bq hb)
   clear HO387
   clear HO391
   clear BK392
   clear HB
   have HO387 := n0_
   have HO391 := n1_
   have HO413 := n2_
   have BK392 := n3_
   have HB := n4_
   clear n0_ n1_ n2_ n3_ n4_
   (try clear hb)
   (try clear hb2)
   (try clear hk)
   (try clear hi)
   (try clear ho0)
   refine hK.out _ _ ⟨q_z BK392.out 0, q_z BK392.out 1⟩ (fun hHeld => ?_)
   clear hK K
   refine norm_ (a' := ?_) ?_ ?_
   rotate_left
   ·show Act.put _ (some 30) _ = _
    simp only [Act.put, List.setIfInBounds_toArray, List.set_cons_zero, List.set_cons_succ, i64_w, i32_w]
    rfl
   refine q_P 4 (some 31) #[true, true, true, true, true, true, true, false, false] HT_.out ?_
   refine q_P 7 (some 34) #[true, true, true, true, true, true, true, true, false] HT_.out ?_
   refine q_P 8 (some 2) #[true, true, true, true, true, true, true, true, true] HT_.out ?_
   refine done_ (done_of HT_.out (by kernel_rfl)) ?_
   try go_wp2
   go_ret
   exact ⟨q_e, bq⟩

end Go.Proofs.Ytdhlcnlcpjlliaa.PFnScans
