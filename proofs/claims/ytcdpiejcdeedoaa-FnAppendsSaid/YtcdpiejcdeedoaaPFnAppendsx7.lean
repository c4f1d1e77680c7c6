/- The functions that a law reaches, each as a plain Lean function with the proof that the machine comes to its answer: written by program (the kit's print, turned by wip/gen). No conditions. -/
import Derived.Test.YtcdpiejcdeedoaaPFnAppendsx0
import Derived.Test.YtcdpiejcdeedoaaPFnAppendsx1
import Derived.Test.YtcdpiejcdeedoaaPFnAppendsx6
namespace Go.Proofs.Ytcdpiejcdeedoaa.PFnAppends
open Go.RowKit Go.Proofs.YtcdpiejcdeedoaaW.PrintWords Go.Proofs.YtcdpiejcdeedoaaW.PrintLast Go.Proofs.YtcdpiejcdeedoaaW.PrintMore
attribute [local go_sem] max2_int min2_int max_two min_two max_three min_three max_four min_four   -- for this text's walks alone
set_option linter.unusedVariables false
set_option linter.unusedSimpArgs false

/-! ### spec_l4Sync: function 61 -/
def spec_l4Sync.f (l0_0 : List Int) (l0_1 : List Int) : Option (List Int × List Int) := (some (([] : List Int) : List Int)).bind fun y320 => (if y320.length + l0_0.length < 140737488355328 then ((some (y320 ++ l0_0 : List Int)).bind fun y323 => (if y323.length + l0_1.length < 140737488355328 then (some ((y323 ++ l0_1), ([] : List Int))) else (none))) else (none))
def spec_l4Sync.T1 : Bool × List (List Nat × List Nat) := (true, [([], []), ([], []), ([1], [1]), ([0, 2], [0, 2]), ([], []), ([4], [4]), ([3, 5, 3], [3, 5]), ([6], [6]), ([7, 6, 0, 1, 2, 3, 4, 5, 6, 7], [7])])
def spec_l4Sync.B1 : List Nat := [0, 0, 2, 7, 0, 16, 63, 127, 255]
theorem spec_l4Sync.tab1 : rtab .any (opsOf Try.f61 1) = spec_l4Sync.T1 := by kernel_rfl
theorem spec_l4Sync.bits1 : waitsOk spec_l4Sync.T1.2 spec_l4Sync.B1 = true := by kernel_rfl
set_option maxHeartbeats 8000000 in
set_option maxRecDepth 100000 in
theorem spec_l4Sync.calls (A0_0 : Option Addr) (c0_0 : Nat) (l0_0 : List Int) (A0_1 : Option Addr) (c0_1 : Nat) (l0_1 : List Int) (r1 : List Int) (r2 : List Int) (w : World) (hr0_0 : Kd.C (Kd.int .u8) w A0_0 l0_0.length l0_0) (hc0_0 : l0_0.length ≤ c0_0) (hr0_1 : Kd.C (Kd.int .u8) w A0_1 l0_1.length l0_1) (hc0_1 : l0_1.length ≤ c0_1) (h : spec_l4Sync.f l0_0 l0_1 = some (r1, r2)) :
  Calls Try.prog 61 #[.agg #[.slice A0_0 l0_0.length c0_0, .slice A0_1 l0_1.length c0_1]] w fun e w' => ∃ v0_ v1_ : Value, e = .returned (.agg #[v0_, v1_]) ∧ Kd.R (Kd.int .u8) 5 w' w.heap.size (fun k_ => some k_ ≠ (v1_ : Value).ownBlock) v0_ r1 ∧ Kd.R (Kd.int .u8) 5 w' w.heap.size (fun k_ => some k_ ≠ (v0_ : Value).ownBlock) v1_ r2 ∧ Below w.heap.size w w' := by
 have hu27 := Try.underlying27
 have HR0_0 := Aside0.mk hr0_0
 have HC0_0 := Aside0.mk hc0_0
 clear hr0_0 hc0_0
 have HR0_1 := Aside0.mk hr0_1
 have HC0_1 := Aside0.mk hc0_1
 clear hr0_1 hc0_1
 have HB := Aside0.mk (Below.refl w.heap.size w)
 have H : ((some (([] : List Int) : List Int)).bind fun y320 => (if y320.length + l0_0.length < 140737488355328 then ((some (y320 ++ l0_0 : List Int)).bind fun y323 => (if y323.length + l0_1.length < 140737488355328 then (some ((y323 ++ l0_1), ([] : List Int))) else (none))) else (none))) = some (r1, r2) := h
 clear h
 obtain ⟨y320, hy320⟩ : ∃ y_ : List Int, y_ = (([] : List Int)) := ⟨_, rfl⟩
 replace H : (if y320.length + l0_0.length < 140737488355328 then ((some (y320 ++ l0_0 : List Int)).bind fun y323 => (if y323.length + l0_1.length < 140737488355328 then (some ((y323 ++ l0_1), ([] : List Int))) else (none))) else (none)) = some (r1, r2) := q_h hy320 H
 have Ny320 := Aside0.mk hy320
 clear hy320
 by_cases c2 : y320.length + l0_0.length < 140737488355328
 ·rw [if_pos c2] at H
  have LMc2 := Aside0.mk c2
  clear c2
  obtain ⟨y323, hy323⟩ : ∃ y_ : List Int, y_ = (y320 ++ l0_0) := ⟨_, rfl⟩
  replace H : (if y323.length + l0_1.length < 140737488355328 then (some ((y323 ++ l0_1), ([] : List Int))) else (none)) = some (r1, r2) := q_h hy323 H
  have Ny323 := Aside0.mk hy323
  clear hy323
  by_cases c3 : y323.length + l0_1.length < 140737488355328
  ·rw [if_pos c3] at H
   have LMc3 := Aside0.mk c3
   clear c3
   obtain ⟨y326, hy326⟩ : ∃ y_ : List Int, y_ = (y323 ++ l0_1) := ⟨_, rfl⟩
   replace H : (some (y326, ([] : List Int))) = some (r1, r2) := q_h hy326 H
   have Ny326 := Aside0.mk hy326
   clear hy326
   simp only [Option.some.injEq, Prod.mk.injEq] at H
   obtain ⟨rfl, rfl⟩ := H
   go_enter Try.func61, Try.ntmps61
   try go_wp2_with (first | ((with_reducible refine gate_dst (N := 1) rfl ?_); refine q_box (N := 1) (cs := #[.slice A0_0 l0_0.length c0_0, .slice A0_1 l0_1.length c0_1]) (t := 27) ?_; intro gb318 hg w4 hbox hb; have n0_ := Aside0.mk (below_step bq hb); have n1_ := Aside0.mk (hbox); have n2_ := Aside0.mk ((q_g hg bq : w.heap.size ≤ gb318)); have n3_ := Aside0.mk ((q_g hg bq : w.heap.size ≤ gb318)); revert n0_ n1_ n2_ n3_; clear HB; intro HB BK318 GW318 GE318; clear hb hbox hg) | ((with_reducible refine gate_dst (N := 2) rfl ?_); refine q_box (N := 2) (cs := #[.slice none 0 0, .slice none 0 0]) (t := 27) ?_; intro gb319 hg w5 hbox hb; have n0_ := Aside0.mk (blk_below (q_b BK318.out) hb); have n1_ := Aside0.mk (below_step bq hb); have n2_ := Aside0.mk (hbox); have n3_ := Aside0.mk ((q_g hg bq : w.heap.size ≤ gb319)); have n4_ := Aside0.mk ((q_g hg bq : w.heap.size ≤ gb319)); have n5_ := Aside0.mk ((q_n hg (q_b BK318.out) : gb318 ≠ gb319)); have n6_ := Aside0.mk ((q_m hg (q_b BK318.out) : gb319 ≠ gb318)); revert n0_ n1_ n2_ n3_ n4_ n5_ n6_; clear BK318 HB; intro BK318 HB BK319 GW319 GE319 NB318_319 NB319_318; clear hb hbox hg))
   have n0_ := Aside0.mk (blk_drew BK318.out)
   have n1_ := Aside0.mk (blk_drew BK319.out)
   have n2_ := Aside0.mk (below_drew1 HB.out)
   clear BK318
   clear BK319
   clear HB
   have BK318 := n0_
   have BK319 := n1_
   have HB := n2_
   clear n0_ n1_ n2_
   refine start_ (n := 9) (S := fun w' => w'.cell? ⟨gb318, 0, none⟩ = some (.slice A0_0 l0_0.length c0_0) ∧ w'.cell? ⟨gb318, 1, none⟩ = some (.slice A0_1 l0_1.length c0_1)) (ds := []) #[false, false, false, false, false, false, false, false, false] (by kernel_rfl) rfl rfl ⟨q_z BK318.out 0, q_z BK318.out 1⟩ (fun hHeld => ?_); refine with_tabW spec_l4Sync.tab1 spec_l4Sync.bits1 (fun HT_ HW_ => ?_)
   generalize w5.drew = w6 at BK318 BK319 HB hHeld ⊢
   refine q_p 1 (some 4) #[false, true, false, false, false, false, false, false, false] HT_.out ?_
   refine q_p 4 (some 7) #[false, true, false, false, true, false, false, false, false] HT_.out ?_
   refine q_t 2 (some 5) #[false, true, true, false, true, false, false, false, false] HT_.out HW_.out hHeld ?_
   refine q_t 5 (some 8) #[false, true, true, false, true, true, false, false, false] HT_.out HW_.out hHeld ?_
   refine one_ (i := 0) (N := some 3) #[true, true, true, false, true, true, false, false, false] rfl rfl (one_of HT_.out (by kernel_rfl)) (by decide) (fun K hK => ?_)
   refine Kd.R_lit_step (Kd.int .u8) _ 5 ?hg (N := 3) ?hd (xs := ([] : List Int)) (inner := []) (ok := fun _ => True) (okp := fun _ => True) ?hr ?hp (fun _ hk => hk) trivial (Below.refl _ _) (Nat.le_refl _) (by simp) ?_; (case hd => rfl); (case hg => rfl); (case hr => first | (go_simp; done) | (go_simp; rfl)); (case hp => exact (Reps.none _ _))
   intro v321 w7 ho8 hb hg_ hnew_
   clear hg_ hnew_
   (first | rw [← Ny320.out] at ho8 | (simp only [Int.reduceToNat] at ho8; rw [← Ny320.out] at ho8))
   have n0_ := Aside0.mk (Kd.R_lower ho8 (below_size bq))
   have n1_ := Aside0.mk (blk_below (q_b BK318.out) hb)
   have n2_ := Aside0.mk (blk_below (q_b BK319.out) hb)
   have n3_ := Aside0.mk (below_step bq hb)
   clear BK318
   clear BK319
   clear HB
   have HO322 := n0_
   have BK318 := n1_
   have BK319 := n2_
   have HB := n3_
   clear n0_ n1_ n2_ n3_
   clear hb ho8
   refine hK.out _ _ ⟨q_z BK318.out 0, q_z BK318.out 1⟩ (fun hHeld => ?_)
   clear hK K
   refine norm_ (a' := ?_) ?_ ?_
   rotate_left
   ·show Act.put _ (some 3) _ = _
    simp only [Act.put, List.setIfInBounds_toArray, List.set_cons_zero, List.set_cons_succ, i64_w, i32_w]
    rfl
   refine one_ (i := 3) (N := some 6) #[true, true, true, true, true, true, false, false, false] rfl rfl (one_of HT_.out (by kernel_rfl)) (by decide) (fun K hK => ?_)
   refine Kd.R_append_rows_step (Kd.int .u8) (w0 := w) w.heap.size (by rfl) (.tmp 3) (.tmp 5) 22 5 (.int .u8 0) 1 rfl Try.underlying22 info5 rfl (by decide) (by omega) v321 y320 l0_0 _ _ _ (fun _ => True) (fun _ => False) rfl rfl ?aO ?aR (fun _ _ h => h) (fun _ h => h.elim) ?aF ?aB ?aS ?aL ?_
   (case aR => repeat (first | exact (Kd.C_below HR0_0.out HB.out) | (with_reducible refine Kd.C_alloc ?_ _) | (with_reducible refine Kd.C_drewN ?_ _) | (with_reducible refine Kd.C_drew ?_)))
   (case aB => exact bq)
   (case aF => exact (fun _ _ => trivial))
   (case aO => exact (q_r (HO322.out)))
   (case aS => exact (below_size bq))
   (case aL => have := LMc2.out; omega)
   intro v324 w9 ho hb hg hat
   rw [← Ny323.out] at ho
   have n0_ := Aside0.mk (blk_grown (q_b BK318.out) hg (Kd.R_ne HO322.out BK318.out (by decide)))
   have n1_ := Aside0.mk (blk_grown (q_b BK319.out) hg (Kd.R_ne HO322.out BK319.out (by decide)))
   have n2_ := Aside0.mk (hb)
   have n3_ := Aside0.mk (ho)
   clear BK318
   clear BK319
   clear HB
   clear HO322
   have BK318 := n0_
   have BK319 := n1_
   have HB := n2_
   have HO325 := n3_
   clear n0_ n1_ n2_ n3_
   clear ho hb hg hat
   refine hK.out _ _ ⟨q_z BK318.out 0, q_z BK318.out 1⟩ (fun hHeld => ?_)
   clear hK K
   refine norm_ (a' := ?_) ?_ ?_
   rotate_left
   ·show Act.put _ (some 6) _ = _
    simp only [Act.put, List.setIfInBounds_toArray, List.set_cons_zero, List.set_cons_succ, i64_w, i32_w]
    rfl
   refine one_ (i := 6) (N := some 9) #[true, true, true, true, true, true, true, false, false] rfl rfl (one_of HT_.out (by kernel_rfl)) (by decide) (fun K hK => ?_)
   refine Kd.R_append_rows_step (Kd.int .u8) (w0 := w) w.heap.size (by rfl) (.tmp 6) (.tmp 8) 22 5 (.int .u8 0) 1 rfl Try.underlying22 info5 rfl (by decide) (by omega) v324 y323 l0_1 _ _ _ (fun _ => True) (fun _ => False) rfl rfl ?aO ?aR (fun _ _ h => h) (fun _ h => h.elim) ?aF ?aB ?aS ?aL ?_
   (case aR => repeat (first | exact (Kd.C_below HR0_1.out HB.out) | (with_reducible refine Kd.C_alloc ?_ _) | (with_reducible refine Kd.C_drewN ?_ _) | (with_reducible refine Kd.C_drew ?_)))
   (case aB => exact bq)
   (case aF => exact (fun _ _ => trivial))
   (case aO => exact (q_r (HO325.out)))
   (case aS => exact (below_size bq))
   (case aL => have := LMc3.out; omega)
   intro v327 w10 ho hb hg hat
   rw [← Ny326.out] at ho
   have n0_ := Aside0.mk (blk_grown (q_b BK318.out) hg (Kd.R_ne HO325.out BK318.out (by decide)))
   have n1_ := Aside0.mk (blk_grown (q_b BK319.out) hg (Kd.R_ne HO325.out BK319.out (by decide)))
   have n2_ := Aside0.mk (hb)
   have n3_ := Aside0.mk (ho)
   clear BK318
   clear BK319
   clear HB
   clear HO325
   have BK318 := n0_
   have BK319 := n1_
   have HB := n2_
   have HO328 := n3_
   clear n0_ n1_ n2_ n3_
   clear ho hb hg hat
   obtain ⟨Ao11, co11, eo11⟩ := Kd.R_slice HO328.out
   (first | subst eo11 | (injection eo11 with f1_ f2_ f3_; have f4_ := f1_.symm; have f5_ := f3_.symm; clear f1_ f2_ f3_; subst f4_; subst f5_))
   refine hK.out _ _ ⟨q_z BK318.out 0, q_z BK318.out 1⟩ (fun hHeld => ?_)
   clear hK K
   refine norm_ (a' := ?_) ?_ ?_
   rotate_left
   ·show Act.put _ (some 9) _ = _
    simp only [Act.put, List.setIfInBounds_toArray, List.set_cons_zero, List.set_cons_succ, i64_w, i32_w]
    rfl
   refine q_p 7 (some 10) #[true, true, true, true, true, true, true, true, false] HT_.out ?_
   refine one_ (i := 8) (N := none) #[true, true, true, true, true, true, true, true, true] rfl rfl (one_of HT_.out (by kernel_rfl)) (by decide) (fun K hK => ?_)
   have hs12 : w10.cell? ⟨gb319, 0, none⟩ = some (.slice none 0 0) := (blk_cell BK319.out 0).trans rfl
   have hfs12 := blk_frozen BK319.out 0
   have hns12_0 := NB318_319.out
   have hms12_0 := NB319_318.out
   have hs13 : w10.cell? ⟨gb319, 1, none⟩ = some (.slice none 0 0) := (blk_cell BK319.out 1).trans rfl
   have hfs13 := blk_frozen BK319.out 1
   have hns13_0 := NB318_319.out
   have hms13_0 := NB319_318.out
   refine skip_ (w1 := ?_) (by rfl) rfl ?_ ?_
   rotate_left
   ·go_simp
    rfl
   refine hK.out _ _ ⟨((cell_far (p := ⟨gb319, _, none⟩) NB318_319.out _).trans (((cell_far (p := ⟨gb319, _, none⟩) NB318_319.out _).trans (hHeld.1)))), ((cell_far (p := ⟨gb319, _, none⟩) NB318_319.out _).trans (((cell_far (p := ⟨gb319, _, none⟩) NB318_319.out _).trans (hHeld.2))))⟩ (fun hHeld => ?_)
   clear hK K
   refine done_ (done_of HT_.out (by kernel_rfl)) ?_
   try go_wp2
   refine bodyPost_ret (results_cell_row rfl _ _ gb319 27 #[.slice Ao11 y326.length co11, .slice none 0 0] (0, 0) _ rfl (by (with_reducible repeat (first | refine blk_drewN ?_ _ | refine blk_drew ?_ | refine blk_alloc ?_ _)); refine blk_put (cs := #[.slice Ao11 y326.length co11, .slice none 0 0]) ?_ 1 _ rfl; (with_reducible repeat (first | refine blk_drewN ?_ _ | refine blk_drew ?_ | refine blk_alloc ?_ _)); refine blk_put (cs := #[.slice none 0 0, .slice none 0 0]) ?_ 0 _ rfl; (with_reducible repeat (first | refine blk_drewN ?_ _ | refine blk_drew ?_ | refine blk_alloc ?_ _)); exact BK319.out) Try.underlying27 rfl (by kernel_rfl)) rfl ?_
   exact ⟨_, _, q_e, by (with_reducible repeat (first | apply Kd.R_alloc | apply Kd.R_drewN | apply Kd.R_drew)); exact Kd.R_mono (Kd.R_far (p := ⟨gb319, 1, none⟩) (Kd.R_far (p := ⟨gb319, 0, none⟩) (Kd.R_types HO328.out BK319.out (by decide)) (fun _ hk => hk.2) (.slice Ao11 y326.length co11)) (fun _ hk => hk.2) (.slice none 0 0)) (fun _ hk => (by simp [Value.ownBlock])), by first | exact Kd.R_nil _ _ _ _ _ | exact Kd.N_nil _ _ _ _ _ | exact Kd.V_nil _ _ _ _ _ | exact Kd.Q_nil _ _ _ _ _ | exact Kd.S_nil _ _ _ _ _, bq⟩
  ·rw [if_neg c3] at H
   exact absurd H (by simp)
 ·rw [if_neg c2] at H
  exact absurd H (by simp)

/-! ### spec_ReadLog: function 49 -/
def spec_ReadLog.f (k : Nat) (l0_0 : List Int) (l0_1 : List Int) : Option (Int × Int × (List (List Int))) := (spec_LogFault.f l0_0 l0_1).bind fun t331 => (if t331 = 0 then ((spec_l4Sync.f l0_0 l0_1).bind fun bt332 => ((spec_UnframeAll.f k bt332.1).bind fun bt338 => (some (bt338.1, bt338.2.1, bt338.2.2)))) else (some (t331, 0, ([] : List (List Int)))))
attribute [local go_sem] Instr.field asAgg
set_option maxHeartbeats 8000000 in
set_option maxRecDepth 100000 in
theorem spec_ReadLog.calls (k : Nat) (A0_0 : Option Addr) (c0_0 : Nat) (l0_0 : List Int) (A0_1 : Option Addr) (c0_1 : Nat) (l0_1 : List Int) (r1 : Int) (r2 : Int) (r3 : List (List Int)) (w : World) (hr0_0 : Kd.C (Kd.int .u8) w A0_0 l0_0.length l0_0) (hc0_0 : l0_0.length ≤ c0_0) (hr0_1 : Kd.C (Kd.int .u8) w A0_1 l0_1.length l0_1) (hc0_1 : l0_1.length ≤ c0_1) (h : spec_ReadLog.f k l0_0 l0_1 = some (r1, r2, r3)) :
  Calls Try.prog 49 #[.agg #[.slice A0_0 l0_0.length c0_0, .slice A0_1 l0_1.length c0_1]] w fun e w' => ∃ v2_ : Value, e = .returned (.agg #[.int .i64 r1, .int .i64 r2, v2_]) ∧ Kd.S (Kd.slice 5 (Kd.int .u8)) 22 w' w.heap.size (fun _ => True) v2_ r3 ∧ Below w.heap.size w w' := by
 have hu27 := Try.underlying27
 have hu43 := Try.underlying43
 have HR0_0 := Aside0.mk hr0_0
 have HC0_0 := Aside0.mk hc0_0
 clear hr0_0 hc0_0
 have HR0_1 := Aside0.mk hr0_1
 have HC0_1 := Aside0.mk hc0_1
 clear hr0_1 hc0_1
 have HB := Aside0.mk (Below.refl w.heap.size w)
 have H : ((spec_LogFault.f l0_0 l0_1).bind fun t331 => (if t331 = 0 then ((spec_l4Sync.f l0_0 l0_1).bind fun bt332 => ((spec_UnframeAll.f k bt332.1).bind fun bt338 => (some (bt338.1, bt338.2.1, bt338.2.2)))) else (some (t331, 0, ([] : List (List Int)))))) = some (r1, r2, r3) := h
 clear h
 replace H := Option.bind_eq_some_iff.mp H
 obtain ⟨t331, A20, H⟩ := H
 replace H : (if t331 = 0 then ((spec_l4Sync.f l0_0 l0_1).bind fun bt332 => ((spec_UnframeAll.f k bt332.1).bind fun bt338 => (some (bt338.1, bt338.2.1, bt338.2.2)))) else (some (t331, 0, ([] : List (List Int))))) = some (r1, r2, r3) := H
 have A2 := Aside0.mk A20
 clear A20
 by_cases c3 : t331 = 0
 ·rw [if_pos c3] at H
  have c3b0 : (t331 == 0) = true := beq_iff_eq.mpr c3
  have c3b1 : (t331 != 0) = false := bne_eq_false_iff_eq.mpr c3
  clear c3
  replace H := Option.bind_eq_some_iff.mp H
  obtain ⟨⟨t332, t335⟩, A40, H⟩ := H
  replace H : ((spec_UnframeAll.f k t332).bind fun bt338 => (some (bt338.1, bt338.2.1, bt338.2.2))) = some (r1, r2, r3) := H
  have A4 := Aside0.mk A40
  clear A40
  replace H := Option.bind_eq_some_iff.mp H
  obtain ⟨⟨t338, t339, t340⟩, A50, H⟩ := H
  replace H : (some (t338, t339, t340)) = some (r1, r2, r3) := H
  have A5 := Aside0.mk A50
  clear A50
  simp only [Option.some.injEq, Prod.mk.injEq] at H
  obtain ⟨rfl, rfl, rfl⟩ := H
  go_enter Try.func49, Try.ntmps49
  go_wp2_with (first | ((with_reducible refine gate_dst (N := 1) rfl ?_); refine q_box (N := 1) (cs := #[.slice A0_0 l0_0.length c0_0, .slice A0_1 l0_1.length c0_1]) (t := 27) ?_; intro gb329 hg w6 hbox hb; have n0_ := Aside0.mk (below_step bq hb); have n1_ := Aside0.mk (hbox); have n2_ := Aside0.mk ((q_g hg bq : w.heap.size ≤ gb329)); have n3_ := Aside0.mk ((q_g hg bq : w.heap.size ≤ gb329)); revert n0_ n1_ n2_ n3_; clear HB; intro HB BK329 GW329 GE329; clear hb hbox hg) | ((with_reducible refine gate_dst (N := 2) rfl ?_); refine q_box (N := 2) (cs := #[.int .i64 0, .int .i64 0, .slice none 0 0]) (t := 43) ?_; intro gb330 hg w7 hbox hb; have n0_ := Aside0.mk (blk_below (q_b BK329.out) hb); have n1_ := Aside0.mk (below_step bq hb); have n2_ := Aside0.mk (hbox); have n3_ := Aside0.mk ((q_g hg bq : w.heap.size ≤ gb330)); have n4_ := Aside0.mk ((q_g hg bq : w.heap.size ≤ gb330)); have n5_ := Aside0.mk ((q_n hg (q_b BK329.out) : gb329 ≠ gb330)); have n6_ := Aside0.mk ((q_m hg (q_b BK329.out) : gb330 ≠ gb329)); revert n0_ n1_ n2_ n3_ n4_ n5_ n6_; clear BK329 HB; intro BK329 HB BK330 GW330 GE330 NB329_330 NB330_329; clear hb hbox hg; have hnb8 := NB329_330.out; have hnc8 := NB330_329.out; obtain ⟨hcz9_0, hcz9_1, hfz9_0, hfz9_1⟩ := q_2 BK329.out) | ((with_reducible refine gate_callee (f := 15) rfl ?_); refine goesLq (some 5) rfl rfl Try.func15 (by kernel_rfl) rfl #[.agg #[.slice A0_0 l0_0.length c0_0, .slice A0_1 l0_1.length c0_1]] rfl ?_; (with_reducible refine (spec_LogFault.calls _ _ l0_0 _ _ l0_1 t331 _ ?side1 ?side2 ?side3 ?side4 A2.out).mono ?_); (case side1 => exact q_c ((Kd.C_below HR0_0.out HB.out))); (case side2 => exact HC0_0.out); (case side3 => exact q_c ((Kd.C_below HR0_1.out HB.out))); (case side4 => exact HC0_1.out); rintro e w10 ⟨rfl, hb⟩; refine ⟨_, rfl, ?_⟩; have n0_ := Aside0.mk (blk_below (q_b BK329.out) hb); have n1_ := Aside0.mk (blk_below (q_b BK330.out) hb); have n2_ := Aside0.mk (below_step bq hb); revert n0_ n1_ n2_; clear BK329 BK330 HB; intro BK329 BK330 HB; (try clear hb); (try clear hb2); (try clear hk); (try clear hi); obtain ⟨hcz11_0, hcz11_1, hfz11_0, hfz11_1⟩ := q_2 BK329.out) | ((with_reducible refine gate_callee (f := 61) rfl ?_); refine goesLq (some 11) rfl rfl Try.func61 (by kernel_rfl) rfl #[.agg #[.slice A0_0 l0_0.length c0_0, .slice A0_1 l0_1.length c0_1]] rfl ?_; (with_reducible refine (spec_l4Sync.calls _ _ l0_0 _ _ l0_1 t332 t335 _ ?side1 ?side2 ?side3 ?side4 A4.out).mono ?_); (case side1 => exact q_c ((Kd.C_below HR0_0.out HB.out))); (case side2 => exact HC0_0.out); (case side3 => exact q_c ((Kd.C_below HR0_1.out HB.out))); (case side4 => exact HC0_1.out); rintro e w12 ⟨v333, v336, rfl, ho0, ho1, hb⟩; refine ⟨_, rfl, ?_⟩; have n0_ := Aside0.mk (Kd.R_lower ho0 (below_size bq)); have n1_ := Aside0.mk (Kd.R_lower ho1 (below_size bq)); have n2_ := Aside0.mk (blk_below (q_b BK329.out) hb); have n3_ := Aside0.mk (blk_below (q_b BK330.out) hb); have n4_ := Aside0.mk (below_step bq hb); revert n0_ n1_ n2_ n3_ n4_; clear BK329 BK330 HB; intro HO334 HO337 BK329 BK330 HB; (try clear hb); (try clear hb2); (try clear hk); (try clear hi); (try clear ho0); (try clear ho1); obtain ⟨Ao13, co13, eo13⟩ := Kd.R_slice HO334.out; subst eo13) | ((with_reducible refine gate_callee (f := 37) rfl ?_); refine goesLq (some 13) rfl rfl Try.func37 (by kernel_rfl) rfl #[.slice Ao13 t332.length co13] rfl ?_; (with_reducible refine (spec_UnframeAll.calls k _ _ t332 t338 t339 t340 _ ?side1 ?side2 A5.out).mono ?_); (case side1 => exact q_c ((Kd.R_reads' HO334.out).2.2)); (case side2 => exact (Kd.R_reads' HO334.out).2.1); rintro e w14 ⟨v341, rfl, ho0, hb⟩; refine ⟨_, rfl, ?_⟩; have n0_ := Aside0.mk (Kd.R_below (q_r (HO334.out)) hb); have n1_ := Aside0.mk (Kd.R_below (q_r (HO337.out)) hb); have n2_ := Aside0.mk (Kd.S_lower (Kd.S_new' (Kd.S_new' ho0 (Kd.R_lt (q_r (HO334.out)))) (Kd.R_lt (q_r (HO337.out)))) (below_size bq)); have n3_ := Aside0.mk (blk_below (q_b BK329.out) hb); have n4_ := Aside0.mk (blk_below (q_b BK330.out) hb); have n5_ := Aside0.mk (below_step bq hb); revert n0_ n1_ n2_ n3_ n4_ n5_; clear HO334 HO337 BK329 BK330 HB; intro HO334 HO337 HO342 BK329 BK330 HB; (try clear hb); (try clear hb2); (try clear hk); (try clear hi); (try clear ho0); obtain ⟨hcz15_0, hcz15_1, hcz15_2, hfz15_0, hfz15_1, hfz15_2⟩ := q_3 BK330.out; obtain ⟨Ao16, co16, eo16⟩ := Kd.S_slice HO342.out; subst eo16))
  refine bodyPost_ret (results_cell_row rfl _ _ gb330 43 #[.int .i64 t338, .int .i64 t339, .slice Ao16 t340.length co16] (0, 0) _ rfl (by (with_reducible repeat (first | refine blk_drewN ?_ _ | refine blk_drew ?_ | refine blk_alloc ?_ _)); refine blk_put (cs := #[.int .i64 t338, .int .i64 t339, .slice none 0 0]) ?_ 2 _ rfl; (with_reducible repeat (first | refine blk_drewN ?_ _ | refine blk_drew ?_ | refine blk_alloc ?_ _)); refine blk_put (cs := #[.int .i64 t338, .int .i64 0, .slice none 0 0]) ?_ 1 _ rfl; (with_reducible repeat (first | refine blk_drewN ?_ _ | refine blk_drew ?_ | refine blk_alloc ?_ _)); refine blk_put (cs := #[.int .i64 0, .int .i64 0, .slice none 0 0]) ?_ 0 _ rfl; (with_reducible repeat (first | refine blk_drewN ?_ _ | refine blk_drew ?_ | refine blk_alloc ?_ _)); exact BK330.out) Try.underlying43 rfl (by kernel_rfl)) rfl ?_
  exact ⟨_, q_e, by (with_reducible repeat (first | apply Kd.S_alloc | apply Kd.S_drewN | apply Kd.S_drew)); exact Kd.S_mono (Kd.S_far (p := ⟨gb330, 2, none⟩) (Kd.S_far (p := ⟨gb330, 1, none⟩) (Kd.S_far (p := ⟨gb330, 0, none⟩) (Kd.S_types HO342.out BK330.out (by decide)) (fun _ hk => hk.2) (.int .i64 t338)) (fun _ hk => hk.2) (.int .i64 t339)) (fun _ hk => hk.2) (.slice Ao16 t340.length co16)) (fun _ hk => trivial), bq⟩
 ·rw [if_neg c3] at H
  have c3b0 : (t331 == 0) = false := beq_eq_false_iff_ne.mpr c3
  have c3b1 : (t331 != 0) = true := bne_iff_ne.mpr c3
  simp only [Option.some.injEq, Prod.mk.injEq] at H
  obtain ⟨rfl, rfl, rfl⟩ := H
  go_enter Try.func49, Try.ntmps49
  go_wp2_with (first | ((with_reducible refine gate_dst (N := 1) rfl ?_); refine q_box (N := 1) (cs := #[.slice A0_0 l0_0.length c0_0, .slice A0_1 l0_1.length c0_1]) (t := 27) ?_; intro gb329 hg w17 hbox hb; have n0_ := Aside0.mk (below_step bq hb); have n1_ := Aside0.mk (hbox); have n2_ := Aside0.mk ((q_g hg bq : w.heap.size ≤ gb329)); have n3_ := Aside0.mk ((q_g hg bq : w.heap.size ≤ gb329)); revert n0_ n1_ n2_ n3_; clear HB; intro HB BK329 GW329 GE329; clear hb hbox hg) | ((with_reducible refine gate_dst (N := 2) rfl ?_); refine q_box (N := 2) (cs := #[.int .i64 0, .int .i64 0, .slice none 0 0]) (t := 43) ?_; intro gb330 hg w18 hbox hb; have n0_ := Aside0.mk (blk_below (q_b BK329.out) hb); have n1_ := Aside0.mk (below_step bq hb); have n2_ := Aside0.mk (hbox); have n3_ := Aside0.mk ((q_g hg bq : w.heap.size ≤ gb330)); have n4_ := Aside0.mk ((q_g hg bq : w.heap.size ≤ gb330)); have n5_ := Aside0.mk ((q_n hg (q_b BK329.out) : gb329 ≠ gb330)); have n6_ := Aside0.mk ((q_m hg (q_b BK329.out) : gb330 ≠ gb329)); revert n0_ n1_ n2_ n3_ n4_ n5_ n6_; clear BK329 HB; intro BK329 HB BK330 GW330 GE330 NB329_330 NB330_329; clear hb hbox hg; have hnb19 := NB329_330.out; have hnc19 := NB330_329.out; obtain ⟨hcz20_0, hcz20_1, hfz20_0, hfz20_1⟩ := q_2 BK329.out) | ((with_reducible refine gate_callee (f := 15) rfl ?_); refine goesLq (some 5) rfl rfl Try.func15 (by kernel_rfl) rfl #[.agg #[.slice A0_0 l0_0.length c0_0, .slice A0_1 l0_1.length c0_1]] rfl ?_; (with_reducible refine (spec_LogFault.calls _ _ l0_0 _ _ l0_1 t331 _ ?side1 ?side2 ?side3 ?side4 A2.out).mono ?_); (case side1 => exact q_c ((Kd.C_below HR0_0.out HB.out))); (case side2 => exact HC0_0.out); (case side3 => exact q_c ((Kd.C_below HR0_1.out HB.out))); (case side4 => exact HC0_1.out); rintro e w21 ⟨rfl, hb⟩; refine ⟨_, rfl, ?_⟩; have n0_ := Aside0.mk (blk_below (q_b BK329.out) hb); have n1_ := Aside0.mk (blk_below (q_b BK330.out) hb); have n2_ := Aside0.mk (below_step bq hb); revert n0_ n1_ n2_; clear BK329 BK330 HB; intro BK329 BK330 HB; (try clear hb); (try clear hb2); (try clear hk); (try clear hi); obtain ⟨hcz22_0, hcz22_1, hcz22_2, hfz22_0, hfz22_1, hfz22_2⟩ := q_3 BK330.out))
  refine bodyPost_ret (results_cell_row rfl _ _ gb330 43 #[.int .i64 t331, .int .i64 0, .slice none 0 0] (0, 0) _ rfl (by (with_reducible repeat (first | refine blk_drewN ?_ _ | refine blk_drew ?_ | refine blk_alloc ?_ _)); refine blk_put (cs := #[.int .i64 t331, .int .i64 0, .slice none 0 0]) ?_ 2 _ rfl; (with_reducible repeat (first | refine blk_drewN ?_ _ | refine blk_drew ?_ | refine blk_alloc ?_ _)); refine blk_put (cs := #[.int .i64 t331, .int .i64 0, .slice none 0 0]) ?_ 1 _ rfl; (with_reducible repeat (first | refine blk_drewN ?_ _ | refine blk_drew ?_ | refine blk_alloc ?_ _)); refine blk_put (cs := #[.int .i64 0, .int .i64 0, .slice none 0 0]) ?_ 0 _ rfl; (with_reducible repeat (first | refine blk_drewN ?_ _ | refine blk_drew ?_ | refine blk_alloc ?_ _)); exact BK330.out) Try.underlying43 rfl (by kernel_rfl)) rfl ?_
  exact ⟨_, q_e, by first | exact Kd.S_nil _ _ _ _ _ | exact Kd.N_nil _ _ _ _ _ | exact Kd.V_nil _ _ _ _ _ | exact Kd.Q_nil _ _ _ _ _ | exact Kd.R_nil _ _ _ _ _, bq⟩

/-- A state of type 83 at block g of W; what its slices lead to came in by w0. -/
def IsS83 (w0 W : World) (g : Nat) (f0 : List Int) (f1 : Int) : Prop := ∃ A0 c0, W.heap[g]? = some (.cells #[.slice A0 f0.length c0, .int .i64 f1] 83 (0, 0)) ∧ w0.heap.size ≤ g ∧ Kd.C (Kd.int .u8) w0 A0 f0.length f0
theorem IsS83.grown {w0 W : World} {g : Nat} {f0 : List Int} {f1 : Int} {W1 : World} {row : Option Nat} (h : IsS83 w0 W g f0 f1) (hw : W.grownBy W1 row) (hne : some g ≠ row) : IsS83 w0 W1 g f0 f1 := by
  obtain ⟨A0, c0, hb, hg, hr0⟩ := h
  exact ⟨A0, c0, blk_grown hb hw hne, hg, hr0⟩
theorem IsS83.own_neN {w0 W : World} {g : Nat} {f0 : List Int} {f1 : Int} {α : Type} {d : Kd α} {e : Nat} {base : Nat} {ok : Nat → Prop} {v : Value} {xs : List α} (h : IsS83 w0 W g f0 f1) (ho : Kd.N d e W base ok v xs) (ht : e ≠ 83) : some g ≠ v.ownBlock := by
  obtain ⟨A0, c0, hb, hg, hr0⟩ := h
  exact Kd.N_ne ho hb ht
theorem IsS83.fresh {w0 W : World} {g : Nat} {f0 : List Int} {f1 : Int} (h : IsS83 w0 W g f0 f1) : ∀ k, W.heap.size ≤ k → k ≠ g := by
  obtain ⟨A0, c0, hb, hg, hr0⟩ := h
  exact Kd.freshB hb
theorem IsS83.kept {w0 W : World} {g : Nat} {f0 : List Int} {f1 : Int} {W1 : World} {S : Nat → Prop} (h : IsS83 w0 W g f0 f1) (hk : Kept W W1 S) (hne : ¬ S g) : IsS83 w0 W1 g f0 f1 := by
  obtain ⟨A0, c0, hb, hg, hr0⟩ := h
  exact ⟨A0, c0, blk_kept hb hk hne, hg, hr0⟩
theorem IsS83.below {w0 W : World} {g : Nat} {f0 : List Int} {f1 : Int} {W1 : World} (h : IsS83 w0 W g f0 f1) (hw : Below W.heap.size W W1) : IsS83 w0 W1 g f0 f1 := h.grown (grown_of_below hw none) (by simp)
theorem IsS83.alloc {w0 W : World} {g : Nat} {f0 : List Int} {f1 : Int} (h : IsS83 w0 W g f0 f1) (o : Obj) : IsS83 w0 (W.alloc o) g f0 f1 := h.below (below_alloc (Below.refl _ _) o)
theorem IsS83.drewN {w0 W : World} {g : Nat} {f0 : List Int} {f1 : Int} (h : IsS83 w0 W g f0 f1) (m : Nat) : IsS83 w0 (W.drewN m) g f0 f1 := h
theorem IsS83.drew {w0 W : World} {g : Nat} {f0 : List Int} {f1 : Int} (h : IsS83 w0 W g f0 f1) : IsS83 w0 W.drew g f0 f1 := h
theorem IsS83.at_ {w0 W : World} {g : Nat} {f0 : List Int} {f1 : Int} {w' : World} {m : Nat} (hq : W.drewN m = w') (h : IsS83 w0 W g f0 f1) : IsS83 w0 w' g f0 f1 := by subst hq; exact IsS83.drewN h m
theorem IsS83.apart {w0 W : World} {g : Nat} {f0 : List Int} {f1 : Int} {α : Type} {d : Kd α} {e : Nat} {base : Nat} {ok : Nat → Prop} {v : Value} {xs : List α} (h : IsS83 w0 W g f0 f1) (ho : d.R e W base ok v xs) (ht : ∀ q, q ∈ e :: d.E → q ≠ 83) : d.R e W base (fun k => ok k ∧ k ≠ g) v xs := by
  obtain ⟨A0, c0, hb, hg, hr0⟩ := h
  exact Kd.R_types ho hb ht
theorem IsS83.own_ne {w0 W : World} {g : Nat} {f0 : List Int} {f1 : Int} {α : Type} {d : Kd α} {e : Nat} {base : Nat} {ok : Nat → Prop} {v : Value} {xs : List α} (h : IsS83 w0 W g f0 f1) (ho : d.R e W base ok v xs) (ht : e ≠ 83) : some g ≠ v.ownBlock := by
  obtain ⟨A0, c0, hb, hg, hr0⟩ := h
  exact Kd.R_ne ho hb ht
theorem IsS83.apartQ {w0 W : World} {g : Nat} {f0 : List Int} {f1 : Int} {α : Type} {d : Kd α} {e : Nat} {base : Nat} {ok : Nat → Prop} {v : Value} {xs : List α} (h : IsS83 w0 W g f0 f1) (ho : d.Q e W base ok v xs) (ht : ∀ q, q ∈ e :: d.E → q ≠ 83) : d.Q e W base (fun k => ok k ∧ k ≠ g) v xs := by
  obtain ⟨A0, c0, hb, hg, hr0⟩ := h
  exact Kd.Q_types ho hb ht
theorem IsS83.own_neQ {w0 W : World} {g : Nat} {f0 : List Int} {f1 : Int} {α : Type} {d : Kd α} {e : Nat} {base : Nat} {ok : Nat → Prop} {v : Value} {xs : List α} (h : IsS83 w0 W g f0 f1) (ho : d.Q e W base ok v xs) (ht : e ≠ 83) : some g ≠ v.ownBlock := by
  obtain ⟨A0, c0, hb, hg, hr0⟩ := h
  exact Kd.Q_ne ho hb ht
theorem IsS83.apartS {w0 W : World} {g : Nat} {f0 : List Int} {f1 : Int} {α : Type} {d : Kd α} {e : Nat} {base : Nat} {ok : Nat → Prop} {v : Value} {xs : List α} (h : IsS83 w0 W g f0 f1) (ho : d.S e W base ok v xs) (ht : ∀ q, q ∈ e :: d.E → q ≠ 83) : d.S e W base (fun k => ok k ∧ k ≠ g) v xs := by
  obtain ⟨A0, c0, hb, hg, hr0⟩ := h
  exact Kd.S_types ho hb ht
theorem IsS83.own_neS {w0 W : World} {g : Nat} {f0 : List Int} {f1 : Int} {α : Type} {d : Kd α} {e : Nat} {base : Nat} {ok : Nat → Prop} {v : Value} {xs : List α} (h : IsS83 w0 W g f0 f1) (ho : d.S e W base ok v xs) (ht : e ≠ 83) : some g ≠ v.ownBlock := by
  obtain ⟨A0, c0, hb, hg, hr0⟩ := h
  exact Kd.S_ne ho hb ht
theorem IsS83.lt {w0 W : World} {g : Nat} {f0 : List Int} {f1 : Int} (h : IsS83 w0 W g f0 f1) : g < W.heap.size := by
  obtain ⟨A0, c0, hb, hg, hr0⟩ := h
  exact blk_lt hb
theorem IsS83.ge {w0 W : World} {g : Nat} {f0 : List Int} {f1 : Int} (h : IsS83 w0 W g f0 f1) : w0.heap.size ≤ g := by
  obtain ⟨A0, c0, hb, hg, hr0⟩ := h
  exact hg
theorem IsS83.ne_blk {w0 W : World} {g : Nat} {f0 : List Int} {f1 : Int} {a : Nat} {cs : Array Value} {t : TypeId} {fr : Nat × Nat} (h : IsS83 w0 W g f0 f1) (hb2 : W.heap[a]? = some (.cells cs t fr)) (ht : t ≠ 83) : g ≠ a := by
  obtain ⟨A0, c0, hb, hg, hr0⟩ := h
  rintro rfl
  rw [hb] at hb2
  injection hb2 with hb2
  injection hb2 with _ ht2
  exact ht ht2.symm
theorem IsS83.far {w0 W : World} {g : Nat} {f0 : List Int} {f1 : Int} {p : Addr} (h : IsS83 w0 W g f0 f1) (hne : g ≠ p.block) (u : Value) : IsS83 w0 (W.setCell p u) g f0 f1 := by
  obtain ⟨A0, c0, hb, hg, hr0⟩ := h
  exact ⟨A0, c0, blk_far hb hne u, hg, hr0⟩
theorem cellS83_0 {W : World} {g : Nat} {A0 : Option Addr} {c0 : Nat} {f0 : List Int} {f1 : Int} (h : W.heap[g]? = some (.cells #[.slice A0 f0.length c0, .int .i64 f1] 83 (0, 0))) : W.cell? ⟨g, 0, none⟩ = some (.slice A0 f0.length c0) := (blk_cell h 0).trans rfl
theorem cellS83_1 {W : World} {g : Nat} {A0 : Option Addr} {c0 : Nat} {f0 : List Int} {f1 : Int} (h : W.heap[g]? = some (.cells #[.slice A0 f0.length c0, .int .i64 f1] 83 (0, 0))) : W.cell? ⟨g, 1, none⟩ = some (.int .i64 f1) := (blk_cell h 1).trans rfl
theorem IsS83.set_1 {w0 W : World} {g : Nat} {f0 : List Int} {f1 : Int} (h : IsS83 w0 W g f0 f1) (x : Int) : IsS83 w0 (W.setCell ⟨g, 1, none⟩ (.int .i64 x)) g f0 x := by
  obtain ⟨A0, c0, hb, hg, hr0⟩ := h
  exact ⟨A0, c0, by simpa using blk_set hb 1 (.int .i64 x), hg, hr0⟩
theorem IsS83.new (w0 W : World) (A0 : Option Addr) (c0 : Nat) (f0 : List Int) (f1 : Int) (hB : Below w0.heap.size w0 W) (hr0 : Kd.C (Kd.int .u8) w0 A0 f0.length f0) : IsS83 w0 (W.alloc (.cells #[.slice A0 f0.length c0, .int .i64 f1] 83)) W.heap.size f0 f1 := ⟨A0, c0, by simpa using heap_alloc_new W _, hB.size, hr0⟩

/-! ### spec_l1Next: function 76 -/
def spec_l1Next.f (s0_0 : List Int) (s0_1 : Int) (a1 : Int) : Option (Int × Int) := if a1 < 1 then (some (0, wrap64 (s0_1 + 1))) else (if (s0_0.length : Int) = 0 then (if a1 = 0 then (none) else (some (Int.tmod (wrap64 ((wrap64 ((wrap64 (s0_1 + 1)) - 1)) * 7)) a1, wrap64 (s0_1 + 1)))) else (if 0 ≤ (Int.tmod (wrap64 ((wrap64 (s0_1 + 1)) - 1)) (s0_0.length : Int)) then (if (Int.tmod (wrap64 ((wrap64 (s0_1 + 1)) - 1)) (s0_0.length : Int)) < (s0_0.length : Int) then (if a1 > 200 then (if 0 ≤ (Int.tmod (wrap64 ((wrap64 ((wrap64 (s0_1 + 1)) - 1)) + 1)) (s0_0.length : Int)) then (if (Int.tmod (wrap64 ((wrap64 ((wrap64 (s0_1 + 1)) - 1)) + 1)) (s0_0.length : Int)) < (s0_0.length : Int) then (if a1 = 0 then (none) else (some (Int.tmod (wrap64 ((wrap64 ((wrap64 ((wrap64 ((wrap64 (rd s0_0 (Int.tmod (wrap64 ((wrap64 (s0_1 + 1)) - 1)) (s0_0.length : Int)))) + (wrap64 ((wrap64 (Int.tdiv (wrap64 ((wrap64 (s0_1 + 1)) - 1)) (s0_0.length : Int))) * 37)))) * 251)) + (wrap64 ((wrap64 (rd s0_0 (Int.tmod (wrap64 ((wrap64 ((wrap64 (s0_1 + 1)) - 1)) + 1)) (s0_0.length : Int)))) * 13)))) + (wrap64 ((wrap64 (s0_1 + 1)) - 1)))) a1, wrap64 (s0_1 + 1)))) else (none)) else (none)) else (if a1 = 0 then (none) else (some (Int.tmod (wrap64 ((wrap64 (rd s0_0 (Int.tmod (wrap64 ((wrap64 (s0_1 + 1)) - 1)) (s0_0.length : Int)))) + (wrap64 ((wrap64 (Int.tdiv (wrap64 ((wrap64 (s0_1 + 1)) - 1)) (s0_0.length : Int))) * 37)))) a1, wrap64 (s0_1 + 1))))) else (none)) else (none)))
set_option maxHeartbeats 8000000 in
set_option maxRecDepth 100000 in
theorem spec_l1Next.calls (g : Nat) (s0_0 : List Int) (s0_1 : Int) (a1 : Int) (r1 : Int) (r2 : Int) (w0 w : World) (hI : IsS83 w0 w g s0_0 s0_1) (hB : Below w0.heap.size w0 w) (h : spec_l1Next.f s0_0 s0_1 a1 = some (r1, r2)) :
  Calls Try.prog 76 #[.pointer (some ⟨g, 0, none⟩), .int .i64 a1] w fun e w' => e = .returned (.int .i64 r1) ∧ IsS83 w0 w' g s0_0 r2 ∧ Below w0.heap.size w0 w' ∧ KeepBut w w' g none := by
 have HI0 := Aside0.mk hI
 have HK := Aside0.mk (KeepBut.refl w g none)
 have HL := Aside0.mk hB.size
 clear hI
 have HW0 := Aside0.mk hB.size
 have HB := Aside0.mk hB
 clear hB
 have H : (if a1 < 1 then (some (0, wrap64 (s0_1 + 1))) else (if (s0_0.length : Int) = 0 then (if a1 = 0 then (none) else (some (Int.tmod (wrap64 ((wrap64 ((wrap64 (s0_1 + 1)) - 1)) * 7)) a1, wrap64 (s0_1 + 1)))) else (if 0 ≤ (Int.tmod (wrap64 ((wrap64 (s0_1 + 1)) - 1)) (s0_0.length : Int)) then (if (Int.tmod (wrap64 ((wrap64 (s0_1 + 1)) - 1)) (s0_0.length : Int)) < (s0_0.length : Int) then (if a1 > 200 then (if 0 ≤ (Int.tmod (wrap64 ((wrap64 ((wrap64 (s0_1 + 1)) - 1)) + 1)) (s0_0.length : Int)) then (if (Int.tmod (wrap64 ((wrap64 ((wrap64 (s0_1 + 1)) - 1)) + 1)) (s0_0.length : Int)) < (s0_0.length : Int) then (if a1 = 0 then (none) else (some (Int.tmod (wrap64 ((wrap64 ((wrap64 ((wrap64 ((wrap64 (rd s0_0 (Int.tmod (wrap64 ((wrap64 (s0_1 + 1)) - 1)) (s0_0.length : Int)))) + (wrap64 ((wrap64 (Int.tdiv (wrap64 ((wrap64 (s0_1 + 1)) - 1)) (s0_0.length : Int))) * 37)))) * 251)) + (wrap64 ((wrap64 (rd s0_0 (Int.tmod (wrap64 ((wrap64 ((wrap64 (s0_1 + 1)) - 1)) + 1)) (s0_0.length : Int)))) * 13)))) + (wrap64 ((wrap64 (s0_1 + 1)) - 1)))) a1, wrap64 (s0_1 + 1)))) else (none)) else (none)) else (if a1 = 0 then (none) else (some (Int.tmod (wrap64 ((wrap64 (rd s0_0 (Int.tmod (wrap64 ((wrap64 (s0_1 + 1)) - 1)) (s0_0.length : Int)))) + (wrap64 ((wrap64 (Int.tdiv (wrap64 ((wrap64 (s0_1 + 1)) - 1)) (s0_0.length : Int))) * 37)))) a1, wrap64 (s0_1 + 1))))) else (none)) else (none)))) = some (r1, r2) := h
 clear h
 by_cases c3 : a1 < 1
 ·rw [if_pos c3] at H
  have c3b0 := decide_eq_true c3
  clear c3
  simp only [Option.some.injEq, Prod.mk.injEq] at H
  obtain ⟨rfl, rfl⟩ := H
  obtain ⟨ASz4_0, cSz4_0, HGz4, hgz4, HSz4_0⟩ := HI0.out
  have hcz4_0 := cellS83_0 HGz4
  have hcz4_1 := cellS83_1 HGz4
  have hfz4_1 := blk_frozen HGz4 1
  clear HGz4 hgz4
  go_enter Try.func76, Try.ntmps76
  go_wp2
  repeat (go_quiet (fail); try go_wp2)
  go_ret
  exact ⟨q_e, q_I83_0_1, q_B83_0, q_K⟩
 ·rw [if_neg c3] at H
  have c3b0 := decide_eq_false c3
  clear c3
  by_cases c5 : (s0_0.length : Int) = 0
  ·rw [if_pos c5] at H
   have c5b0 : ((s0_0.length : Int) == 0) = true := beq_iff_eq.mpr c5
   have c5b1 : ((s0_0.length : Int) != 0) = false := bne_eq_false_iff_eq.mpr c5
   clear c5
   by_cases c6 : a1 = 0
   ·rw [if_pos c6] at H
    exact absurd H (by simp)
   ·rw [if_neg c6] at H
    have c6b0 : (a1 == 0) = false := beq_eq_false_iff_ne.mpr c6
    have c6b1 : (a1 != 0) = true := bne_iff_ne.mpr c6
    simp only [Option.some.injEq, Prod.mk.injEq] at H
    obtain ⟨rfl, rfl⟩ := H
    obtain ⟨ASz7_0, cSz7_0, HGz7, hgz7, HSz7_0⟩ := HI0.out
    have hcz7_0 := cellS83_0 HGz7
    have hcz7_1 := cellS83_1 HGz7
    have hfz7_1 := blk_frozen HGz7 1
    clear HGz7 hgz7
    go_enter Try.func76, Try.ntmps76
    go_wp2
    repeat (go_quiet (fail); try go_wp2)
    go_ret
    exact ⟨q_e, q_I83_0_1, q_B83_0, q_K⟩
  ·rw [if_neg c5] at H
   have c5b0 : ((s0_0.length : Int) == 0) = false := beq_eq_false_iff_ne.mpr c5
   have c5b1 : ((s0_0.length : Int) != 0) = true := bne_iff_ne.mpr c5
   have c5b2 : ¬ (s0_0 = []) := fun h_ => c5 (by rw [h_]; rfl)
   obtain ⟨ji8, hji8⟩ : ∃ j_ : Int, (Int.tmod (wrap64 ((wrap64 (s0_1 + 1)) - 1)) (s0_0.length : Int)) = j_ := ⟨_, rfl⟩
   replace H : (if 0 ≤ (ji8) then (if (ji8) < (s0_0.length : Int) then (if a1 > 200 then (if 0 ≤ (Int.tmod (wrap64 ((wrap64 ((wrap64 (s0_1 + 1)) - 1)) + 1)) (s0_0.length : Int)) then (if (Int.tmod (wrap64 ((wrap64 ((wrap64 (s0_1 + 1)) - 1)) + 1)) (s0_0.length : Int)) < (s0_0.length : Int) then (if a1 = 0 then (none) else (some (Int.tmod (wrap64 ((wrap64 ((wrap64 ((wrap64 ((wrap64 (rd s0_0 (ji8))) + (wrap64 ((wrap64 (Int.tdiv (wrap64 ((wrap64 (s0_1 + 1)) - 1)) (s0_0.length : Int))) * 37)))) * 251)) + (wrap64 ((wrap64 (rd s0_0 (Int.tmod (wrap64 ((wrap64 ((wrap64 (s0_1 + 1)) - 1)) + 1)) (s0_0.length : Int)))) * 13)))) + (wrap64 ((wrap64 (s0_1 + 1)) - 1)))) a1, wrap64 (s0_1 + 1)))) else (none)) else (none)) else (if a1 = 0 then (none) else (some (Int.tmod (wrap64 ((wrap64 (rd s0_0 (ji8))) + (wrap64 ((wrap64 (Int.tdiv (wrap64 ((wrap64 (s0_1 + 1)) - 1)) (s0_0.length : Int))) * 37)))) a1, wrap64 (s0_1 + 1))))) else (none)) else (none)) = some (r1, r2) := by first | (rw [hji8] at H; exact H) | (simp only [hji8] at H ⊢; exact H)
   by_cases c9 : 0 ≤ (ji8)
   ·rw [if_pos c9] at H
    have c9b0 := decide_eq_true c9
    clear c9
    by_cases c10 : (ji8) < (s0_0.length : Int)
    ·rw [if_pos c10] at H
     have c10b0 := decide_eq_true c10
     clear c10
     by_cases c11 : a1 > 200
     ·rw [if_pos c11] at H
      have c11b0 := decide_eq_true c11
      clear c11
      obtain ⟨ji12, hji12⟩ : ∃ j_ : Int, (Int.tmod (wrap64 ((wrap64 ((wrap64 (s0_1 + 1)) - 1)) + 1)) (s0_0.length : Int)) = j_ := ⟨_, rfl⟩
      replace H : (if 0 ≤ (ji12) then (if (ji12) < (s0_0.length : Int) then (if a1 = 0 then (none) else (some (Int.tmod (wrap64 ((wrap64 ((wrap64 ((wrap64 ((wrap64 (rd s0_0 (ji8))) + (wrap64 ((wrap64 (Int.tdiv (wrap64 ((wrap64 (s0_1 + 1)) - 1)) (s0_0.length : Int))) * 37)))) * 251)) + (wrap64 ((wrap64 (rd s0_0 (ji12))) * 13)))) + (wrap64 ((wrap64 (s0_1 + 1)) - 1)))) a1, wrap64 (s0_1 + 1)))) else (none)) else (none)) = some (r1, r2) := by first | (rw [hji12] at H; exact H) | (simp only [hji12] at H ⊢; exact H)
      by_cases c13 : 0 ≤ (ji12)
      ·rw [if_pos c13] at H
       have c13b0 := decide_eq_true c13
       clear c13
       by_cases c14 : (ji12) < (s0_0.length : Int)
       ·rw [if_pos c14] at H
        have c14b0 := decide_eq_true c14
        clear c14
        by_cases c15 : a1 = 0
        ·rw [if_pos c15] at H
         exact absurd H (by simp)
        ·rw [if_neg c15] at H
         have c15b0 : (a1 == 0) = false := beq_eq_false_iff_ne.mpr c15
         have c15b1 : (a1 != 0) = true := bne_iff_ne.mpr c15
         simp only [Option.some.injEq, Prod.mk.injEq] at H
         obtain ⟨rfl, rfl⟩ := H
         obtain ⟨ASz16_0, cSz16_0, HGz16, hgz16, HSz16_0⟩ := HI0.out
         have hcz16_0 := cellS83_0 HGz16
         have hcz16_1 := cellS83_1 HGz16
         have hfz16_1 := blk_frozen HGz16 1
         clear HGz16 hgz16
         have p343 : 0 ≤ ((ji8) : Int) := q_d
         have q343 : (ji8) < (s0_0.length : Int) := q_d
         obtain ⟨ad343, e343, hx343_0⟩ := Kd.at_int HSz16_0 (ji8) p343 q343
         cases e343
         have hn343_0 : ad343.block ≠ g := Nat.ne_of_lt (Nat.lt_of_lt_of_le (by have := World.block_lt_of_cell? _ _ hx343_0; first | rwa [add_block] at this | exact this) (IsS83.ge HI0.out))
         replace hx343_0 := pw_cell_below HB.out hx343_0
         replace hx343_0 := (cell_far (p := ⟨g, 1, none⟩) (by first | (rw [add_block]; exact hn343_0) | (show (Addr.add _ _).block ≠ _; rw [add_block]; exact hn343_0) | exact hn343_0) (.int .i64 (wrap64 (s0_1 + 1)))).trans hx343_0
         (try have hy343_0 := fun (n_ : Nat) => (show (((w.drewN n_).setCell ⟨g, 1, none⟩ (.int .i64 (wrap64 (s0_1 + 1))))).cell? _ = some _ from hx343_0))
         clear hn343_0
         replace p343 := eq_true p343
         replace q343 := eq_true q343
         have p344 : 0 ≤ ((ji12) : Int) := q_d
         have q344 : (ji12) < (s0_0.length : Int) := q_d
         obtain ⟨ad344, e344, hx344_0⟩ := Kd.at_int HSz16_0 (ji12) p344 q344
         obtain rfl : ad343 = ad344 := (by injection e344)
         have hn344_0 : ad343.block ≠ g := Nat.ne_of_lt (Nat.lt_of_lt_of_le (by have := World.block_lt_of_cell? _ _ hx344_0; first | rwa [add_block] at this | exact this) (IsS83.ge HI0.out))
         replace hx344_0 := pw_cell_below HB.out hx344_0
         replace hx344_0 := (cell_far (p := ⟨g, 1, none⟩) (by first | (rw [add_block]; exact hn344_0) | (show (Addr.add _ _).block ≠ _; rw [add_block]; exact hn344_0) | exact hn344_0) (.int .i64 (wrap64 (s0_1 + 1)))).trans hx344_0
         (try have hy344_0 := fun (n_ : Nat) => (show (((w.drewN n_).setCell ⟨g, 1, none⟩ (.int .i64 (wrap64 (s0_1 + 1))))).cell? _ = some _ from hx344_0))
         clear hn344_0
         replace p344 := eq_true p344
         replace q344 := eq_true q344
         go_enter Try.func76, Try.ntmps76
         go_wp2
         repeat (go_quiet (fail); try go_wp2)
         go_ret
         exact ⟨by first | rfl | (simp [errW_none, errW_some] <;> rfl) | (simp only [← hji8, ← hji12]; first | rfl | (simp [errW_none, errW_some] <;> rfl)) | (simp [*, errW_none, errW_some] <;> rfl), q_I83_0_1, q_B83_0, q_K⟩
       ·rw [if_neg c14] at H
        exact absurd H (by simp)
      ·rw [if_neg c13] at H
       exact absurd H (by simp)
     ·rw [if_neg c11] at H
      have c11b0 := decide_eq_false c11
      clear c11
      by_cases c17 : a1 = 0
      ·rw [if_pos c17] at H
       exact absurd H (by simp)
      ·rw [if_neg c17] at H
       have c17b0 : (a1 == 0) = false := beq_eq_false_iff_ne.mpr c17
       have c17b1 : (a1 != 0) = true := bne_iff_ne.mpr c17
       simp only [Option.some.injEq, Prod.mk.injEq] at H
       obtain ⟨rfl, rfl⟩ := H
       obtain ⟨ASz18_0, cSz18_0, HGz18, hgz18, HSz18_0⟩ := HI0.out
       have hcz18_0 := cellS83_0 HGz18
       have hcz18_1 := cellS83_1 HGz18
       have hfz18_1 := blk_frozen HGz18 1
       clear HGz18 hgz18
       have p343 : 0 ≤ ((ji8) : Int) := q_d
       have q343 : (ji8) < (s0_0.length : Int) := q_d
       obtain ⟨ad343, e343, hx343_0⟩ := Kd.at_int HSz18_0 (ji8) p343 q343
       cases e343
       have hn343_0 : ad343.block ≠ g := Nat.ne_of_lt (Nat.lt_of_lt_of_le (by have := World.block_lt_of_cell? _ _ hx343_0; first | rwa [add_block] at this | exact this) (IsS83.ge HI0.out))
       replace hx343_0 := pw_cell_below HB.out hx343_0
       replace hx343_0 := (cell_far (p := ⟨g, 1, none⟩) (by first | (rw [add_block]; exact hn343_0) | (show (Addr.add _ _).block ≠ _; rw [add_block]; exact hn343_0) | exact hn343_0) (.int .i64 (wrap64 (s0_1 + 1)))).trans hx343_0
       (try have hy343_0 := fun (n_ : Nat) => (show (((w.drewN n_).setCell ⟨g, 1, none⟩ (.int .i64 (wrap64 (s0_1 + 1))))).cell? _ = some _ from hx343_0))
       clear hn343_0
       replace p343 := eq_true p343
       replace q343 := eq_true q343
       go_enter Try.func76, Try.ntmps76
       go_wp2
       repeat (go_quiet (fail); try go_wp2)
       go_ret
       exact ⟨by first | rfl | (simp [errW_none, errW_some] <;> rfl) | (simp only [← hji8]; first | rfl | (simp [errW_none, errW_some] <;> rfl)) | (simp [*, errW_none, errW_some] <;> rfl), q_I83_0_1, q_B83_0, q_K⟩
    ·rw [if_neg c10] at H
     exact absurd H (by simp)
   ·rw [if_neg c9] at H
    exact absurd H (by simp)

/-! ### spec_l1Pick: function 75 -/
def spec_l1Pick.f (s0_0 : List Int) (s0_1 : Int) (l1 : List Int) : Option (Int × Int) := (spec_l1Next.f s0_0 s0_1 (l1.length : Int)).bind fun bt345 => (if 0 ≤ bt345.1 then (if bt345.1 < (l1.length : Int) then (some (rd l1 bt345.1, bt345.2)) else (none)) else (none))
set_option maxHeartbeats 8000000 in
set_option maxRecDepth 100000 in
theorem spec_l1Pick.calls (g : Nat) (s0_0 : List Int) (s0_1 : Int) (A1 : Option Addr) (c1 : Nat) (l1 : List Int) (r1 : Int) (r2 : Int) (w0 w : World) (hI : IsS83 w0 w g s0_0 s0_1) (hB : Below w0.heap.size w0 w) (hr1 : Kd.C (Kd.int .i64) w A1 l1.length l1) (hc1 : l1.length ≤ c1) (hf1 : ∀ ad, A1 = some ad → 0 < l1.length → ad.block ≠ g) (h : spec_l1Pick.f s0_0 s0_1 l1 = some (r1, r2)) :
  Calls Try.prog 75 #[.pointer (some ⟨g, 0, none⟩), .slice A1 l1.length c1] w fun e w' => e = .returned (.int .i64 r1) ∧ IsS83 w0 w' g s0_0 r2 ∧ Below w0.heap.size w0 w' ∧ KeepBut w w' g none := by
 have HR1 := Aside0.mk hr1
 have HC1 := Aside0.mk hc1
 clear hr1 hc1
 have HI0 := Aside0.mk hI
 have HK := Aside0.mk (KeepBut.refl w g none)
 have HL := Aside0.mk hB.size
 clear hI
 have HW0 := Aside0.mk hB.size
 have HB := Aside0.mk hB
 clear hB
 have H : ((spec_l1Next.f s0_0 s0_1 (l1.length : Int)).bind fun bt345 => (if 0 ≤ bt345.1 then (if bt345.1 < (l1.length : Int) then (some (rd l1 bt345.1, bt345.2)) else (none)) else (none))) = some (r1, r2) := h
 clear h
 replace H := Option.bind_eq_some_iff.mp H
 obtain ⟨⟨t345, t346⟩, A30, H⟩ := H
 replace H : (if 0 ≤ t345 then (if t345 < (l1.length : Int) then (some (rd l1 t345, t346)) else (none)) else (none)) = some (r1, r2) := H
 have A3 := Aside0.mk A30
 clear A30
 by_cases c4 : 0 ≤ t345
 ·rw [if_pos c4] at H
  have c4b0 := decide_eq_true c4
  clear c4
  by_cases c5 : t345 < (l1.length : Int)
  ·rw [if_pos c5] at H
   have c5b0 := decide_eq_true c5
   clear c5
   simp only [Option.some.injEq, Prod.mk.injEq] at H
   obtain ⟨rfl, rfl⟩ := H
   go_enter Try.func75, Try.ntmps75
   go_wp2_with (first | ((with_reducible refine gate_callee (f := 76) rfl ?_); refine goesLq (some 9) rfl rfl Try.func76 (by kernel_rfl) rfl #[.pointer (some ⟨g, 0, none⟩), .int .i64 (l1.length : Int)] rfl ?_; (with_reducible refine (spec_l1Next.calls g s0_0 s0_1 (l1.length : Int) t345 t346 w0 _ ?side1 ?side2 A3.out).mono ?_); (case side1 => repeat (first | (with_reducible first | exact HI0.out | apply IsS83.alloc | apply IsS83.drewN | apply IsS83.drew | apply IsS83.set_1) | exact HI0.out)); (case side2 => repeat (first | (with_reducible first | exact HB.out | apply below_alloc | apply pw_below_drewN | apply below_drew1 | refine below_set ?_ (IsS83.ge HI0.out)) | exact HB.out)); rintro e w6 ⟨rfl, hi, hb, hk⟩; refine ⟨_, rfl, ?_⟩; have n0_ := Aside0.mk (KeepBut.trans q_K hk (.inl rfl)); have n1_ := Aside0.mk (hb); have n2_ := Aside0.mk (hi); revert n0_ n1_ n2_; clear HK HB HI0; intro HK HB HI0; (try clear hb); (try clear hb2); (try clear hk); (try clear hi); have p347 : 0 ≤ (t345 : Int) := q_d; have q347 : t345 < (l1.length : Int) := q_d; obtain ⟨ad347, e347, hx347_0⟩ := Kd.at_int HR1.out t345 p347 q347; cases e347; replace hx347_0 := keep_cell HK.out hx347_0 (by first | (rw [add_block]; exact hf1 _ rfl (by omega)) | exact hf1 _ rfl (by omega) | exact hf1 ad347 rfl (by omega)); replace p347 := eq_true p347; replace q347 := eq_true q347))
   go_ret
   exact ⟨q_e, q_I83_0_1, q_B83_0, q_K⟩
  ·rw [if_neg c5] at H
   exact absurd H (by simp)
 ·rw [if_neg c4] at H
  exact absurd H (by simp)

/-! ### spec_l3Some: function 57 -/
def spec_l3Some.l0 : Nat → List Int → Int → List Int → Int → Option (List Int × Int)
  | 0, _, _, _, _ => none
  | k + 1, x3, x4, x1000, x1001 => if x4 > 0 then ((spec_l1Next.f x1000 x1001 256).bind fun bt362 => (if x3.length < 140737488355328 then (spec_l3Some.l0 k (x3 ++ [(bt362.1) % 256]) (wrap64 (x4 - 1)) x1000 bt362.2) else (none))) else (some (x3, x1001))
def spec_l3Some.f (k : Nat) (s0_0 : List Int) (s0_1 : Int) : Option (List Int × Int) := (spec_l1Next.f s0_0 s0_1 9).bind fun bt351 => ((spec_l1Next.f s0_0 bt351.2 9).bind fun bt353 => ((spec_l1Next.f s0_0 bt353.2 9).bind fun bt355 => ((spec_l1Pick.f s0_0 bt355.2 (([wrap64 (1 + bt351.1), wrap64 (1 + bt353.1), wrap64 (1 + bt355.1), 0, 500, 501] : List Int))).bind fun bt360 => (spec_l3Some.l0 k (([] : List Int)) bt360.1 s0_0 bt360.2))))
set_option maxHeartbeats 8000000 in
set_option maxRecDepth 100000 in
theorem spec_l3Some.calls (k : Nat) (g : Nat) (s0_0 : List Int) (s0_1 : Int) (r1 : List Int) (r2 : Int) (w0 w : World) (hI : IsS83 w0 w g s0_0 s0_1) (hB : Below w0.heap.size w0 w) (h : spec_l3Some.f k s0_0 s0_1 = some (r1, r2)) :
  Calls Try.prog 57 #[.pointer (some ⟨g, 0, none⟩)] w fun e w' => ∃ v0_ : Value, e = .returned (v0_) ∧ Kd.R (Kd.int .u8) 5 w' w.heap.size (fun _ => True) v0_ r1 ∧ IsS83 w0 w' g s0_0 r2 ∧ Below w0.heap.size w0 w' ∧ KeepBut w w' g none := by
 have HI0 := Aside0.mk hI
 have HK := Aside0.mk (KeepBut.refl w g none)
 have HL := Aside0.mk hB.size
 clear hI
 have HW0 := Aside0.mk hB.size
 have HB := Aside0.mk hB
 clear hB
 have H : ((spec_l1Next.f s0_0 s0_1 9).bind fun bt351 => ((spec_l1Next.f s0_0 bt351.2 9).bind fun bt353 => ((spec_l1Next.f s0_0 bt353.2 9).bind fun bt355 => ((spec_l1Pick.f s0_0 bt355.2 (([wrap64 (1 + bt351.1), wrap64 (1 + bt353.1), wrap64 (1 + bt355.1), 0, 500, 501] : List Int))).bind fun bt360 => (spec_l3Some.l0 k (([] : List Int)) bt360.1 s0_0 bt360.2))))) = some (r1, r2) := h
 clear h
 obtain ⟨y348, hy348⟩ : ∃ y_ : List Int, y_ = (([] : List Int)) := ⟨_, rfl⟩
 replace H : ((spec_l1Next.f s0_0 s0_1 9).bind fun bt351 => ((spec_l1Next.f s0_0 bt351.2 9).bind fun bt353 => ((spec_l1Next.f s0_0 bt353.2 9).bind fun bt355 => ((spec_l1Pick.f s0_0 bt355.2 (([wrap64 (1 + bt351.1), wrap64 (1 + bt353.1), wrap64 (1 + bt355.1), 0, 500, 501] : List Int))).bind fun bt360 => (spec_l3Some.l0 k y348 bt360.1 s0_0 bt360.2))))) = some (r1, r2) := q_h hy348 H
 have Ny348 := Aside0.mk hy348
 clear hy348
 replace H := Option.bind_eq_some_iff.mp H
 obtain ⟨⟨t351, t352⟩, A20, H⟩ := H
 replace H : ((spec_l1Next.f s0_0 t352 9).bind fun bt353 => ((spec_l1Next.f s0_0 bt353.2 9).bind fun bt355 => ((spec_l1Pick.f s0_0 bt355.2 (([wrap64 (1 + t351), wrap64 (1 + bt353.1), wrap64 (1 + bt355.1), 0, 500, 501] : List Int))).bind fun bt360 => (spec_l3Some.l0 k y348 bt360.1 s0_0 bt360.2)))) = some (r1, r2) := H
 have A2 := Aside0.mk A20
 clear A20
 replace H := Option.bind_eq_some_iff.mp H
 obtain ⟨⟨t353, t354⟩, A30, H⟩ := H
 replace H : ((spec_l1Next.f s0_0 t354 9).bind fun bt355 => ((spec_l1Pick.f s0_0 bt355.2 (([wrap64 (1 + t351), wrap64 (1 + t353), wrap64 (1 + bt355.1), 0, 500, 501] : List Int))).bind fun bt360 => (spec_l3Some.l0 k y348 bt360.1 s0_0 bt360.2))) = some (r1, r2) := H
 have A3 := Aside0.mk A30
 clear A30
 replace H := Option.bind_eq_some_iff.mp H
 obtain ⟨⟨t355, t356⟩, A40, H⟩ := H
 replace H : ((spec_l1Pick.f s0_0 t356 (([wrap64 (1 + t351), wrap64 (1 + t353), wrap64 (1 + t355), 0, 500, 501] : List Int))).bind fun bt360 => (spec_l3Some.l0 k y348 bt360.1 s0_0 bt360.2)) = some (r1, r2) := H
 have A4 := Aside0.mk A40
 clear A40
 obtain ⟨y357, hy357⟩ : ∃ y_ : List Int, y_ = (([wrap64 (1 + t351), wrap64 (1 + t353), wrap64 (1 + t355), 0, 500, 501] : List Int)) := ⟨_, rfl⟩
 replace H : ((spec_l1Pick.f s0_0 t356 y357).bind fun bt360 => (spec_l3Some.l0 k y348 bt360.1 s0_0 bt360.2)) = some (r1, r2) := q_h hy357 H
 have Ny357 := Aside0.mk hy357
 clear hy357
 replace H := Option.bind_eq_some_iff.mp H
 obtain ⟨⟨t360, t361⟩, A50, H⟩ := H
 replace H : (spec_l3Some.l0 k y348 t360 s0_0 t361) = some (r1, r2) := H
 have A5 := Aside0.mk A50
 clear A50
 have H' := Aside0.mk H
 clear H
 go_enter Try.func57, Try.ntmps57
 go_wp2_with (first | ((with_reducible refine gate_dst (N := 5) rfl ?_); refine Kd.R_lit (Kd.int .u8) _ 5 ?hg (N := 5) ?hd (xs := ([] : List Int)) (inner := []) (ok := fun _ => True) (okp := fun _ => True) ?hr ?hp (fun _ hk => hk) trivial (Below.refl _ _) (Nat.le_refl _) (by simp) ?_; (case hd => rfl); (case hg => rfl); (case hr => first | (go_simp; done) | (go_simp; rfl)); (case hp => exact (Reps.none _ _)); intro v349 w6 ho7 hb hg_ hnew_; clear hg_ hnew_; (first | rw [← Ny348.out] at ho7 | (simp only [Int.reduceToNat] at ho7; rw [← Ny348.out] at ho7)); have n0_ := Aside0.mk (Kd.R_lower ho7 (keep_size (w := w) (g := g) (row := none) q_K)); have n1_ := Aside0.mk (IsS83.below q_I83_0_1 hb); have n2_ := Aside0.mk (KeepBut.trans q_K (KeepBut.of_below hb g none) (.inl rfl)); have n3_ := Aside0.mk (below_step q_B83_0 hb); revert n0_ n1_ n2_ n3_; clear HI0 HK HB; intro HO350 HI0 HK HB; clear hb ho7) | ((with_reducible refine gate_callee (f := 76) rfl ?_); refine goesLq (some 8) rfl rfl Try.func76 (by kernel_rfl) rfl #[.pointer (some ⟨g, 0, none⟩), .int .i64 9] rfl ?_; (with_reducible refine (spec_l1Next.calls g s0_0 s0_1 9 t351 t352 w0 _ ?side1 ?side2 A2.out).mono ?_); (case side1 => repeat (first | (with_reducible first | exact HI0.out | apply IsS83.alloc | apply IsS83.drewN | apply IsS83.drew | apply IsS83.set_1) | exact HI0.out)); (case side2 => repeat (first | (with_reducible first | exact HB.out | apply below_alloc | apply pw_below_drewN | apply below_drew1 | refine below_set ?_ (IsS83.ge HI0.out)) | exact HB.out)); rintro e w8 ⟨rfl, hi, hb, hk⟩; refine ⟨_, rfl, ?_⟩; have n0_ := Aside0.mk (Kd.R_mono (Kd.R_keep (IsS83.apart (show IsS83 w0 _ g s0_0 s0_1 from q_I83_0_1) (q_r (HO350.out)) (by decide)) hk (fun _ h => h.2)) (fun _ h => h.1)); have n1_ := Aside0.mk (KeepBut.trans q_K hk (.inl rfl)); have n2_ := Aside0.mk (hb); have n3_ := Aside0.mk (hi); revert n0_ n1_ n2_ n3_; clear HO350 HK HB HI0; intro HO350 HK HB HI0; (try clear hb); (try clear hb2); (try clear hk); (try clear hi)) | ((with_reducible refine gate_callee (f := 76) rfl ?_); refine goesLq (some 11) rfl rfl Try.func76 (by kernel_rfl) rfl #[.pointer (some ⟨g, 0, none⟩), .int .i64 9] rfl ?_; (with_reducible refine (spec_l1Next.calls g s0_0 t352 9 t353 t354 w0 _ ?side1 ?side2 A3.out).mono ?_); (case side1 => repeat (first | (with_reducible first | exact HI0.out | apply IsS83.alloc | apply IsS83.drewN | apply IsS83.drew | apply IsS83.set_1) | exact HI0.out)); (case side2 => repeat (first | (with_reducible first | exact HB.out | apply below_alloc | apply pw_below_drewN | apply below_drew1 | refine below_set ?_ (IsS83.ge HI0.out)) | exact HB.out)); rintro e w9 ⟨rfl, hi, hb, hk⟩; refine ⟨_, rfl, ?_⟩; have n0_ := Aside0.mk (Kd.R_mono (Kd.R_keep (IsS83.apart (show IsS83 w0 _ g s0_0 t352 from q_I83_0_1) (q_r (HO350.out)) (by decide)) hk (fun _ h => h.2)) (fun _ h => h.1)); have n1_ := Aside0.mk (KeepBut.trans q_K hk (.inl rfl)); have n2_ := Aside0.mk (hb); have n3_ := Aside0.mk (hi); revert n0_ n1_ n2_ n3_; clear HO350 HK HB HI0; intro HO350 HK HB HI0; (try clear hb); (try clear hb2); (try clear hk); (try clear hi)) | ((with_reducible refine gate_callee (f := 76) rfl ?_); refine goesLq (some 14) rfl rfl Try.func76 (by kernel_rfl) rfl #[.pointer (some ⟨g, 0, none⟩), .int .i64 9] rfl ?_; (with_reducible refine (spec_l1Next.calls g s0_0 t354 9 t355 t356 w0 _ ?side1 ?side2 A4.out).mono ?_); (case side1 => repeat (first | (with_reducible first | exact HI0.out | apply IsS83.alloc | apply IsS83.drewN | apply IsS83.drew | apply IsS83.set_1) | exact HI0.out)); (case side2 => repeat (first | (with_reducible first | exact HB.out | apply below_alloc | apply pw_below_drewN | apply below_drew1 | refine below_set ?_ (IsS83.ge HI0.out)) | exact HB.out)); rintro e w10 ⟨rfl, hi, hb, hk⟩; refine ⟨_, rfl, ?_⟩; have n0_ := Aside0.mk (Kd.R_mono (Kd.R_keep (IsS83.apart (show IsS83 w0 _ g s0_0 t354 from q_I83_0_1) (q_r (HO350.out)) (by decide)) hk (fun _ h => h.2)) (fun _ h => h.1)); have n1_ := Aside0.mk (KeepBut.trans q_K hk (.inl rfl)); have n2_ := Aside0.mk (hb); have n3_ := Aside0.mk (hi); revert n0_ n1_ n2_ n3_; clear HO350 HK HB HI0; intro HO350 HK HB HI0; (try clear hb); (try clear hb2); (try clear hk); (try clear hi)) | ((with_reducible refine gate_dst (N := 16) rfl ?_); refine Kd.R_lit (Kd.int .i64) _ 2 ?hg (N := 16) ?hd (xs := ([wrap64 (1 + t351), wrap64 (1 + t353), wrap64 (1 + t355), 0, 500, 501] : List Int)) (inner := [.int .i64 (wrap64 (1 + t351)), .int .i64 (wrap64 (1 + t353)), .int .i64 (wrap64 (1 + t355)), .int .i64 0, .int .i64 500, .int .i64 501]) (ok := fun _ => True) (okp := fun _ => True) ?hr ?hp (fun _ hk => hk) trivial (Below.refl _ _) (Nat.le_refl _) (by simp) ?_; (case hd => rfl); (case hg => rfl); (case hr => first | (go_simp; done) | (go_simp; rfl)); (case hp => exact (Reps.one (show Kd.M (Kd.int .i64) _ _ _ (wrap64 (1 + t351)) [.int .i64 (wrap64 (1 + t351))] from rfl) (Reps.one (show Kd.M (Kd.int .i64) _ _ _ (wrap64 (1 + t353)) [.int .i64 (wrap64 (1 + t353))] from rfl) (Reps.one (show Kd.M (Kd.int .i64) _ _ _ (wrap64 (1 + t355)) [.int .i64 (wrap64 (1 + t355))] from rfl) (Reps.one (show Kd.M (Kd.int .i64) _ _ _ 0 [.int .i64 0] from rfl) (Reps.one (show Kd.M (Kd.int .i64) _ _ _ 500 [.int .i64 500] from rfl) (Reps.one (show Kd.M (Kd.int .i64) _ _ _ 501 [.int .i64 501] from rfl) (Reps.none _ _)))))))); intro v358 w11 ho12 hb hg_ hnew_; clear hg_ hnew_; (first | rw [← Ny357.out] at ho12 | (simp only [Int.reduceToNat] at ho12; rw [← Ny357.out] at ho12)); have n0_ := Aside0.mk (Kd.R_below (q_r (HO350.out)) hb); have n1_ := Aside0.mk (Kd.R_lower ho12 (keep_size (w := w) (g := g) (row := none) q_K)); have n2_ := Aside0.mk (IsS83.below q_I83_0_1 hb); have n3_ := Aside0.mk (KeepBut.trans q_K (KeepBut.of_below hb g none) (.inl rfl)); have n4_ := Aside0.mk (below_step q_B83_0 hb); revert n0_ n1_ n2_ n3_ n4_; clear HO350 HI0 HK HB; intro HO350 HO359 HI0 HK HB; clear hb ho12; obtain ⟨Ao13, co13, eo13⟩ := Kd.R_slice HO359.out; subst eo13) | ((with_reducible refine gate_callee (f := 75) rfl ?_); refine goesLq (some 17) rfl rfl Try.func75 (by kernel_rfl) rfl #[.pointer (some ⟨g, 0, none⟩), .slice Ao13 y357.length co13] rfl ?_; (with_reducible refine (spec_l1Pick.calls g s0_0 t356 _ _ y357 t360 t361 w0 _ ?side1 ?side2 ?side3 ?side4 ?side5 A5.out).mono ?_); (case side1 => repeat (first | (with_reducible first | exact HI0.out | apply IsS83.alloc | apply IsS83.drewN | apply IsS83.drew | apply IsS83.set_1) | exact HI0.out)); (case side2 => repeat (first | (with_reducible first | exact HB.out | apply below_alloc | apply pw_below_drewN | apply below_drew1 | refine below_set ?_ (IsS83.ge HI0.out)) | exact HB.out)); (case side3 => exact q_c ((Kd.R_reads' HO359.out).2.2)); (case side4 => exact (Kd.R_reads' HO359.out).2.1); (case side5 => exact far_slice (IsS83.own_ne HI0.out HO359.out (by decide))); rintro e w14 ⟨rfl, hi, hb, hk⟩; refine ⟨_, rfl, ?_⟩; have n0_ := Aside0.mk (Kd.R_mono (Kd.R_keep (IsS83.apart (show IsS83 w0 _ g s0_0 t356 from q_I83_0_1) (q_r (HO350.out)) (by decide)) hk (fun _ h => h.2)) (fun _ h => h.1)); have n1_ := Aside0.mk (Kd.R_mono (Kd.R_keep (IsS83.apart (show IsS83 w0 _ g s0_0 t356 from q_I83_0_1) (q_r (HO359.out)) (by decide)) hk (fun _ h => h.2)) (fun _ h => h.1)); have n2_ := Aside0.mk (KeepBut.trans q_K hk (.inl rfl)); have n3_ := Aside0.mk (hb); have n4_ := Aside0.mk (hi); revert n0_ n1_ n2_ n3_ n4_; clear HO350 HO359 HK HB HI0; intro HO350 HO359 HK HB HI0; (try clear hb); (try clear hb2); (try clear hk); (try clear hi)))
 go_loopg [3, 4] k (fun kq v3 v4 w' => ∃ (x3_1 : List Int) (x4_1 : Int) (x1001_1 : Int), v4 = .int .i64 x4_1 ∧ Aside0 (spec_l3Some.l0 kq x3_1 x4_1 s0_0 x1001_1 = some (r1, r2)) ∧ Aside0 (kq ≤ k) ∧ Aside0 (Kd.R (Kd.int .u8) 5 w' w.heap.size (fun _ => True) v3 x3_1) ∧ Aside0 (IsS83 w0 w' g s0_0 x1001_1) ∧ Aside0 (KeepBut w w' g none) ∧ Aside0 (Below w0.heap.size w0 w'))
 case atStart => exact ⟨(y348), (t360), (t361), q_i, H', ⟨Nat.le_refl _⟩, ⟨q_r (HO350.out)⟩, ⟨q_I83_0_1⟩, ⟨q_K⟩, ⟨q_B83_0⟩⟩
 case round =>
  clear H'
  (try clear p2); (try clear c5); (try clear p6); (try clear c7)
  obtain ⟨x3_1, x4_1, x1001_1, rfl, HA, HK1, HO_3, HI0, HK, HB⟩ := hrel
  cases gk with
  | zero => exact absurd HA.out (by simp [spec_l3Some.l0])
  | succ k1 =>
   have H := HA.out
   clear HA
   simp only [spec_l3Some.l0] at H
   by_cases c15 : x4_1 > 0
   ·rw [if_pos c15] at H
    have c15b0 := decide_eq_true c15
    clear c15
    replace H := Option.bind_eq_some_iff.mp H
    obtain ⟨⟨t362, t363⟩, A160, H⟩ := H
    replace H : (if x3_1.length < 140737488355328 then (spec_l3Some.l0 k1 (x3_1 ++ [(t362) % 256]) (wrap64 (x4_1 - 1)) s0_0 t363) else (none)) = some (r1, r2) := H
    have A16 := Aside0.mk A160
    clear A160
    by_cases c17 : x3_1.length < 140737488355328
    ·rw [if_pos c17] at H
     have LMc17 := Aside0.mk c17
     clear c17
     obtain ⟨y364, hy364⟩ : ∃ y_ : List Int, y_ = (x3_1 ++ [(t362) % 256]) := ⟨_, rfl⟩
     replace H : (spec_l3Some.l0 k1 y364 (wrap64 (x4_1 - 1)) s0_0 t363) = some (r1, r2) := q_h hy364 H
     have Ny364 := Aside0.mk hy364
     clear hy364
     have H' := Aside0.mk H
     clear H
     go_wp2_with (first | ((with_reducible refine gate_callee (f := 76) rfl ?_); refine goesLq (some 24) rfl rfl Try.func76 (by kernel_rfl) rfl #[.pointer (some ⟨g, 0, none⟩), .int .i64 256] rfl ?_; (with_reducible refine (spec_l1Next.calls g s0_0 x1001_1 256 t362 t363 w0 _ ?side1 ?side2 A16.out).mono ?_); (case side1 => repeat (first | (with_reducible first | exact HI0.out | apply IsS83.alloc | apply IsS83.drewN | apply IsS83.drew | apply IsS83.set_1) | exact HI0.out)); (case side2 => repeat (first | (with_reducible first | exact HB.out | apply below_alloc | apply pw_below_drewN | apply below_drew1 | refine below_set ?_ (IsS83.ge HI0.out)) | exact HB.out)); rintro e w18 ⟨rfl, hi, hb, hk⟩; refine ⟨_, rfl, ?_⟩; have n0_ := Aside0.mk (Kd.R_mono (Kd.R_keep (IsS83.apart (show IsS83 w0 _ g s0_0 x1001_1 from q_I83_0_1) (q_r (HO_3.out)) (by decide)) hk (fun _ h => h.2)) (fun _ h => h.1)); have n1_ := Aside0.mk (KeepBut.trans q_K hk (.inl rfl)); have n2_ := Aside0.mk (hb); have n3_ := Aside0.mk (hi); revert n0_ n1_ n2_ n3_; clear HO_3 HK HB HI0; intro HO_3 HK HB HI0; (try clear hb); (try clear hb2); (try clear hk); (try clear hi)) | ((with_reducible refine gate_builtin (b := .append) (xs := #[.tmp 22, .tmp 26]) rfl ?_); at_builtin; refine Kd.R_append (Kd.int .u8) w.heap.size rfl (.tmp 22) (.tmp 26) 22 5 (.int .u8 0) 1 rfl Try.underlying22 info5 rfl (by decide) (by omega) u3 x3_1 ((t362) % 256) [.int .u8 ((t362) % 256)] (fun _ => True) (fun _ => False) rfl rfl ?aP (fun _ hk => hk.elim) ?aF ?aO (Below.refl _ _) ?aS ?aL ?_; (case aP => exact rfl); (case aF => exact (fun _ _ => trivial)); (case aO => exact (q_r (HO_3.out))); (case aS => exact (keep_size (w := w) (g := g) (row := none) q_K)); (case aL => have := LMc17.out; omega); intro v365 w19 ho hb hg hat; rw [← Ny364.out] at ho; have n0_ := Aside0.mk (IsS83.grown q_I83_0_1 hg (IsS83.own_ne HI0.out HO_3.out (by decide))); have n1_ := Aside0.mk (below_weaken q_B83_0 HL.out hb); have n2_ := Aside0.mk (KeepBut.trans q_K (KeepBut.of_grown hg g) (Kd.R_base2 HO_3.out)); have n3_ := Aside0.mk (ho); revert n0_ n1_ n2_ n3_; clear HI0 HB HK HO_3; intro HI0 HB HK HO366; clear ho hb hg hat))
     go_roundg k1
     case measure => have := HK1.out; omega
     case rel => exact ⟨(y364), (wrap64 (x4_1 - 1)), (t363), q_i, H', ⟨by have := HK1.out; omega⟩, ⟨q_r (HO366.out)⟩, ⟨q_I83_0_1⟩, ⟨q_K⟩, ⟨q_B83_0⟩⟩
    ·rw [if_neg c17] at H
     exact absurd H (by simp)
   ·rw [if_neg c15] at H
    have c15b0 := decide_eq_false c15
    clear c15
    simp only [Option.some.injEq, Prod.mk.injEq] at H
    obtain ⟨rfl, rfl⟩ := H
    go_wp2
    go_ret
    exact ⟨_, q_e, q_r (HO_3.out), q_I83_0_1, q_B83_0, q_K⟩

/-! ### spec_l1Source: function 58 -/
def spec_l1Source.f (l0 : List Int) : Option (List Int × Int) := some (l0, 0)
set_option maxHeartbeats 8000000 in
set_option maxRecDepth 100000 in
theorem spec_l1Source.calls (A0 : Option Addr) (c0 : Nat) (l0 : List Int) (r1 : List Int) (r2 : Int) (w0 w : World) (hB : Below w0.heap.size w0 w) (hr0 : Kd.C (Kd.int .u8) w0 A0 l0.length l0) (hc0 : l0.length ≤ c0) (h : spec_l1Source.f l0 = some (r1, r2)) :
  Calls Try.prog 58 #[.slice A0 l0.length c0] w fun e w' => ∃ g_ : Nat, e = .returned (.pointer (some ⟨g_, 0, none⟩)) ∧ IsS83 w0 w' g_ r1 r2 ∧ Below w0.heap.size w0 w' ∧ Below w.heap.size w w' := by
 have hu83 := Try.underlying83
 have HR0 := Aside0.mk hr0
 have HC0 := Aside0.mk hc0
 clear hr0 hc0
 have HBW := Aside0.mk (Below.refl w.heap.size w)
 have HW0 := Aside0.mk hB.size
 have HB := Aside0.mk hB
 clear hB
 have H : (some (l0, 0)) = some (r1, r2) := h
 clear h
 simp only [Option.some.injEq, Prod.mk.injEq] at H
 obtain ⟨rfl, rfl⟩ := H
 go_enter Try.func58, Try.ntmps58
 go_wp2_with (first | ((with_reducible refine gate_dst (N := 5) rfl ?_); refine q_box (N := 5) (cs := #[.slice A0 l0.length c0, .int .i64 0]) (t := 83) ?_; intro gb367 hg w2 hbox hb; have n0_ := Aside0.mk (below_step HBW.out hb); have n1_ := Aside0.mk (below_step bq hb); have n2_ := Aside0.mk (hbox); have n3_ := Aside0.mk ((by rw [hg]; exact (below_size (by repeat (first | (with_reducible first | exact HBW.out | apply below_alloc | apply pw_below_drewN | apply below_drew1) | exact HBW.out))) : w.heap.size ≤ gb367)); have n4_ := Aside0.mk ((Nat.le_trans HW0.out (by rw [hg]; exact (below_size (by repeat (first | (with_reducible first | exact HBW.out | apply below_alloc | apply pw_below_drewN | apply below_drew1) | exact HBW.out))) : w.heap.size ≤ gb367) : w0.heap.size ≤ gb367)); revert n0_ n1_ n2_ n3_ n4_; clear HBW HB; intro HBW HB BK367 GW367 GE367; clear hb hbox hg))
 go_ret
 exact ⟨_, rfl, (show IsS83 w0 _ gb367 l0 0 from ⟨_, _, q_b BK367.out, GE367.out, HR0.out⟩), bq, by repeat (first | (with_reducible first | exact HBW.out | apply below_alloc | apply pw_below_drewN | apply below_drew1 | refine below_set ?_ GW367.out) | exact HBW.out)⟩

/-! ### spec_l1Chance: function 84 -/
def spec_l1Chance.f (s0_0 : List Int) (s0_1 : Int) (a1 : Int) : Option (Bool × Int) := (spec_l1Next.f s0_0 s0_1 a1).bind fun bt368 => (some ((bt368.1 == 0), bt368.2))
set_option maxHeartbeats 8000000 in
set_option maxRecDepth 100000 in
theorem spec_l1Chance.calls (g : Nat) (s0_0 : List Int) (s0_1 : Int) (a1 : Int) (r1 : Bool) (r2 : Int) (w0 w : World) (hI : IsS83 w0 w g s0_0 s0_1) (hB : Below w0.heap.size w0 w) (h : spec_l1Chance.f s0_0 s0_1 a1 = some (r1, r2)) :
  Calls Try.prog 84 #[.pointer (some ⟨g, 0, none⟩), .int .i64 a1] w fun e w' => e = .returned (.bool r1) ∧ IsS83 w0 w' g s0_0 r2 ∧ Below w0.heap.size w0 w' ∧ KeepBut w w' g none := by
 have HI0 := Aside0.mk hI
 have HK := Aside0.mk (KeepBut.refl w g none)
 have HL := Aside0.mk hB.size
 clear hI
 have HW0 := Aside0.mk hB.size
 have HB := Aside0.mk hB
 clear hB
 have H : ((spec_l1Next.f s0_0 s0_1 a1).bind fun bt368 => (some ((bt368.1 == 0), bt368.2))) = some (r1, r2) := h
 clear h
 replace H := Option.bind_eq_some_iff.mp H
 obtain ⟨⟨t368, t369⟩, A30, H⟩ := H
 replace H : (some ((t368 == 0), t369)) = some (r1, r2) := H
 have A3 := Aside0.mk A30
 clear A30
 simp only [Option.some.injEq, Prod.mk.injEq] at H
 obtain ⟨rfl, rfl⟩ := H
 go_enter Try.func84, Try.ntmps84
 go_wp2_with (first | ((with_reducible refine gate_callee (f := 76) rfl ?_); refine goesLq (some 7) rfl rfl Try.func76 (by kernel_rfl) rfl #[.pointer (some ⟨g, 0, none⟩), .int .i64 a1] rfl ?_; (with_reducible refine (spec_l1Next.calls g s0_0 s0_1 a1 t368 t369 w0 _ ?side1 ?side2 A3.out).mono ?_); (case side1 => repeat (first | (with_reducible first | exact HI0.out | apply IsS83.alloc | apply IsS83.drewN | apply IsS83.drew | apply IsS83.set_1) | exact HI0.out)); (case side2 => repeat (first | (with_reducible first | exact HB.out | apply below_alloc | apply pw_below_drewN | apply below_drew1 | refine below_set ?_ (IsS83.ge HI0.out)) | exact HB.out)); rintro e w4 ⟨rfl, hi, hb, hk⟩; refine ⟨_, rfl, ?_⟩; have n0_ := Aside0.mk (KeepBut.trans q_K hk (.inl rfl)); have n1_ := Aside0.mk (hb); have n2_ := Aside0.mk (hi); revert n0_ n1_ n2_; clear HK HB HI0; intro HK HB HI0; (try clear hb); (try clear hb2); (try clear hk); (try clear hi)))
 go_ret
 exact ⟨q_e, q_I83_0_1, q_B83_0, q_K⟩

/-! ### spec_l3Cut: function 85 -/
def spec_l3Cut.f (s0_0 : List Int) (s0_1 : Int) (l1 : List Int) : Option (List Int × Int) := (some (([] : List Int) : List Int)).bind fun y370 => (if y370.length + l1.length < 140737488355328 then ((some (y370 ++ l1 : List Int)).bind fun y373 => (if (y373.length : Int) = 0 then ((spec_l1Next.f s0_0 s0_1 256).bind fun bt376 => (some ((([(bt376.1) % 256] : List Int)), bt376.2))) else ((spec_l1Next.f s0_0 s0_1 (y373.length : Int)).bind fun bt381 => ((spec_l1Next.f s0_0 bt381.2 3).bind fun bt383 => (if bt383.1 = 0 then ((spec_l1Next.f s0_0 bt383.2 256).bind fun bt385 => (if 0 ≤ bt381.1 then (if bt381.1 < (y373.length : Int) then (some ((y373.set (bt381.1 : Int).toNat ((bt385.1) % 256)), bt385.2)) else (none)) else (none))) else (if bt383.1 = 1 then (if 0 ≤ bt381.1 then (if bt381.1 ≤ (y373.length : Int) then (some ((y373.take (bt381.1 : Int).toNat), bt383.2)) else (none)) else (none)) else (if bt383.1 = 2 then ((spec_l1Next.f s0_0 bt383.2 6).bind fun bt391 => (if y373.length < 140737488355328 then (some ((y373 ++ [(bt391.1) % 256]), bt391.2)) else (none))) else (some (y373, bt383.2))))))))) else (none))
set_option maxHeartbeats 8000000 in
set_option maxRecDepth 100000 in
theorem spec_l3Cut.calls (g : Nat) (s0_0 : List Int) (s0_1 : Int) (A1 : Option Addr) (c1 : Nat) (l1 : List Int) (r1 : List Int) (r2 : Int) (w0 w : World) (hI : IsS83 w0 w g s0_0 s0_1) (hB : Below w0.heap.size w0 w) (hr1 : Kd.C (Kd.int .u8) w A1 l1.length l1) (hc1 : l1.length ≤ c1) (hf1 : ∀ ad, A1 = some ad → 0 < l1.length → ad.block ≠ g) (h : spec_l3Cut.f s0_0 s0_1 l1 = some (r1, r2)) :
  Calls Try.prog 85 #[.pointer (some ⟨g, 0, none⟩), .slice A1 l1.length c1] w fun e w' => ∃ v0_ : Value, e = .returned (v0_) ∧ Kd.R (Kd.int .u8) 5 w' w.heap.size (fun _ => True) v0_ r1 ∧ IsS83 w0 w' g s0_0 r2 ∧ Below w0.heap.size w0 w' ∧ KeepBut w w' g none := by
 have HR1 := Aside0.mk hr1
 have HC1 := Aside0.mk hc1
 clear hr1 hc1
 have HI0 := Aside0.mk hI
 have HK := Aside0.mk (KeepBut.refl w g none)
 have HL := Aside0.mk hB.size
 clear hI
 have HW0 := Aside0.mk hB.size
 have HB := Aside0.mk hB
 clear hB
 have H : ((some (([] : List Int) : List Int)).bind fun y370 => (if y370.length + l1.length < 140737488355328 then ((some (y370 ++ l1 : List Int)).bind fun y373 => (if (y373.length : Int) = 0 then ((spec_l1Next.f s0_0 s0_1 256).bind fun bt376 => (some ((([(bt376.1) % 256] : List Int)), bt376.2))) else ((spec_l1Next.f s0_0 s0_1 (y373.length : Int)).bind fun bt381 => ((spec_l1Next.f s0_0 bt381.2 3).bind fun bt383 => (if bt383.1 = 0 then ((spec_l1Next.f s0_0 bt383.2 256).bind fun bt385 => (if 0 ≤ bt381.1 then (if bt381.1 < (y373.length : Int) then (some ((y373.set (bt381.1 : Int).toNat ((bt385.1) % 256)), bt385.2)) else (none)) else (none))) else (if bt383.1 = 1 then (if 0 ≤ bt381.1 then (if bt381.1 ≤ (y373.length : Int) then (some ((y373.take (bt381.1 : Int).toNat), bt383.2)) else (none)) else (none)) else (if bt383.1 = 2 then ((spec_l1Next.f s0_0 bt383.2 6).bind fun bt391 => (if y373.length < 140737488355328 then (some ((y373 ++ [(bt391.1) % 256]), bt391.2)) else (none))) else (some (y373, bt383.2))))))))) else (none))) = some (r1, r2) := h
 clear h
 obtain ⟨y370, hy370⟩ : ∃ y_ : List Int, y_ = (([] : List Int)) := ⟨_, rfl⟩
 replace H : (if y370.length + l1.length < 140737488355328 then ((some (y370 ++ l1 : List Int)).bind fun y373 => (if (y373.length : Int) = 0 then ((spec_l1Next.f s0_0 s0_1 256).bind fun bt376 => (some ((([(bt376.1) % 256] : List Int)), bt376.2))) else ((spec_l1Next.f s0_0 s0_1 (y373.length : Int)).bind fun bt381 => ((spec_l1Next.f s0_0 bt381.2 3).bind fun bt383 => (if bt383.1 = 0 then ((spec_l1Next.f s0_0 bt383.2 256).bind fun bt385 => (if 0 ≤ bt381.1 then (if bt381.1 < (y373.length : Int) then (some ((y373.set (bt381.1 : Int).toNat ((bt385.1) % 256)), bt385.2)) else (none)) else (none))) else (if bt383.1 = 1 then (if 0 ≤ bt381.1 then (if bt381.1 ≤ (y373.length : Int) then (some ((y373.take (bt381.1 : Int).toNat), bt383.2)) else (none)) else (none)) else (if bt383.1 = 2 then ((spec_l1Next.f s0_0 bt383.2 6).bind fun bt391 => (if y373.length < 140737488355328 then (some ((y373 ++ [(bt391.1) % 256]), bt391.2)) else (none))) else (some (y373, bt383.2))))))))) else (none)) = some (r1, r2) := q_h hy370 H
 have Ny370 := Aside0.mk hy370
 clear hy370
 by_cases c3 : y370.length + l1.length < 140737488355328
 ·rw [if_pos c3] at H
  have LMc3 := Aside0.mk c3
  clear c3
  obtain ⟨y373, hy373⟩ : ∃ y_ : List Int, y_ = (y370 ++ l1) := ⟨_, rfl⟩
  replace H : (if (y373.length : Int) = 0 then ((spec_l1Next.f s0_0 s0_1 256).bind fun bt376 => (some ((([(bt376.1) % 256] : List Int)), bt376.2))) else ((spec_l1Next.f s0_0 s0_1 (y373.length : Int)).bind fun bt381 => ((spec_l1Next.f s0_0 bt381.2 3).bind fun bt383 => (if bt383.1 = 0 then ((spec_l1Next.f s0_0 bt383.2 256).bind fun bt385 => (if 0 ≤ bt381.1 then (if bt381.1 < (y373.length : Int) then (some ((y373.set (bt381.1 : Int).toNat ((bt385.1) % 256)), bt385.2)) else (none)) else (none))) else (if bt383.1 = 1 then (if 0 ≤ bt381.1 then (if bt381.1 ≤ (y373.length : Int) then (some ((y373.take (bt381.1 : Int).toNat), bt383.2)) else (none)) else (none)) else (if bt383.1 = 2 then ((spec_l1Next.f s0_0 bt383.2 6).bind fun bt391 => (if y373.length < 140737488355328 then (some ((y373 ++ [(bt391.1) % 256]), bt391.2)) else (none))) else (some (y373, bt383.2)))))))) = some (r1, r2) := q_h hy373 H
  have Ny373 := Aside0.mk hy373
  clear hy373
  by_cases c4 : (y373.length : Int) = 0
  ·rw [if_pos c4] at H
   have c4b0 : ((y373.length : Int) == 0) = true := beq_iff_eq.mpr c4
   have c4b1 : ((y373.length : Int) != 0) = false := bne_eq_false_iff_eq.mpr c4
   clear c4
   replace H := Option.bind_eq_some_iff.mp H
   obtain ⟨⟨t376, t377⟩, A50, H⟩ := H
   replace H : (some ((([(t376) % 256] : List Int)), t377)) = some (r1, r2) := H
   have A5 := Aside0.mk A50
   clear A50
   obtain ⟨y378, hy378⟩ : ∃ y_ : List Int, y_ = (([(t376) % 256] : List Int)) := ⟨_, rfl⟩
   replace H : (some (y378, t377)) = some (r1, r2) := q_h hy378 H
   have Ny378 := Aside0.mk hy378
   clear hy378
   simp only [Option.some.injEq, Prod.mk.injEq] at H
   obtain ⟨rfl, rfl⟩ := H
   go_enter Try.func85, Try.ntmps85
   go_wp2_with (first | ((with_reducible refine gate_dst (N := 7) rfl ?_); refine Kd.R_lit (Kd.int .u8) _ 5 ?hg (N := 7) ?hd (xs := ([] : List Int)) (inner := []) (ok := fun _ => True) (okp := fun _ => True) ?hr ?hp (fun _ hk => hk) trivial (Below.refl _ _) (Nat.le_refl _) (by simp) ?_; (case hd => rfl); (case hg => rfl); (case hr => first | (go_simp; done) | (go_simp; rfl)); (case hp => exact (Reps.none _ _)); intro v371 w6 ho7 hb hg_ hnew_; clear hg_ hnew_; (first | rw [← Ny370.out] at ho7 | (simp only [Int.reduceToNat] at ho7; rw [← Ny370.out] at ho7)); have n0_ := Aside0.mk (Kd.R_lower ho7 (keep_size (w := w) (g := g) (row := none) q_K)); have n1_ := Aside0.mk (IsS83.below q_I83_0_1 hb); have n2_ := Aside0.mk (KeepBut.trans q_K (KeepBut.of_below hb g none) (.inl rfl)); have n3_ := Aside0.mk (below_step q_B83_0 hb); revert n0_ n1_ n2_ n3_; clear HI0 HK HB; intro HO372 HI0 HK HB; clear hb ho7) | ((with_reducible refine gate_builtin (b := .append) (xs := #[.tmp 7, .tmp 8]) rfl ?_); at_builtin; refine Kd.R_append_rows (Kd.int .u8) w.heap.size rfl (.tmp 7) (.tmp 8) 22 5 (.int .u8 0) 1 rfl Try.underlying22 info5 rfl (by decide) (by omega) v371 y370 l1 _ _ _ (fun _ => True) (fun _ => False) rfl rfl ?aO ?aR (fun _ _ h => h) (fun _ h => h.elim) ?aF (Below.refl _ _) ?aS ?aL ?_; (case aR => exact Kd.C_keep 0 HR1.out q_K hf1); (case aF => exact (fun _ _ => trivial)); (case aO => exact (q_r (HO372.out))); (case aS => exact (keep_size (w := w) (g := g) (row := none) q_K)); (case aL => have := LMc3.out; omega); intro v374 w8 ho hb hg hat; rw [← Ny373.out] at ho; have n0_ := Aside0.mk (IsS83.grown q_I83_0_1 hg (IsS83.own_ne HI0.out HO372.out (by decide))); have n1_ := Aside0.mk (below_weaken q_B83_0 HL.out hb); have n2_ := Aside0.mk (KeepBut.trans q_K (KeepBut.of_grown hg g) (Kd.R_base2 HO372.out)); have n3_ := Aside0.mk (ho); revert n0_ n1_ n2_ n3_; clear HI0 HB HK HO372; intro HI0 HB HK HO375; clear ho hb hg hat; obtain ⟨Ao9, co9, eo9⟩ := Kd.R_slice HO375.out; subst eo9) | ((with_reducible refine gate_callee (f := 76) rfl ?_); refine goesLq (some 14) rfl rfl Try.func76 (by kernel_rfl) rfl #[.pointer (some ⟨g, 0, none⟩), .int .i64 256] rfl ?_; (with_reducible refine (spec_l1Next.calls g s0_0 s0_1 256 t376 t377 w0 _ ?side1 ?side2 A5.out).mono ?_); (case side1 => repeat (first | (with_reducible first | exact HI0.out | apply IsS83.alloc | apply IsS83.drewN | apply IsS83.drew | apply IsS83.set_1) | exact HI0.out)); (case side2 => repeat (first | (with_reducible first | exact HB.out | apply below_alloc | apply pw_below_drewN | apply below_drew1 | refine below_set ?_ (IsS83.ge HI0.out)) | exact HB.out)); rintro e w10 ⟨rfl, hi, hb, hk⟩; refine ⟨_, rfl, ?_⟩; have n0_ := Aside0.mk (Kd.R_mono (Kd.R_keep (IsS83.apart (show IsS83 w0 _ g s0_0 s0_1 from q_I83_0_1) (q_r (HO375.out)) (by decide)) hk (fun _ h => h.2)) (fun _ h => h.1)); have n1_ := Aside0.mk (KeepBut.trans q_K hk (.inl rfl)); have n2_ := Aside0.mk (hb); have n3_ := Aside0.mk (hi); revert n0_ n1_ n2_ n3_; clear HO375 HK HB HI0; intro HO375 HK HB HI0; (try clear hb); (try clear hb2); (try clear hk); (try clear hi)) | ((with_reducible refine gate_dst (N := 16) rfl ?_); refine Kd.R_lit (Kd.int .u8) _ 5 ?hg (N := 16) ?hd (xs := ([(t376) % 256] : List Int)) (inner := [.int .u8 ((t376) % 256)]) (ok := fun _ => True) (okp := fun _ => True) ?hr ?hp (fun _ hk => hk) trivial (Below.refl _ _) (Nat.le_refl _) (by simp) ?_; (case hd => rfl); (case hg => rfl); (case hr => first | (go_simp; done) | (go_simp; rfl)); (case hp => exact (Reps.one (show Kd.M (Kd.int .u8) _ _ _ ((t376) % 256) [.int .u8 ((t376) % 256)] from rfl) (Reps.none _ _))); intro v379 w11 ho12 hb hg_ hnew_; clear hg_ hnew_; (first | rw [← Ny378.out] at ho12 | (simp only [Int.reduceToNat] at ho12; rw [← Ny378.out] at ho12)); have n0_ := Aside0.mk (Kd.R_elder' (q_r (HO375.out)) (Kd.R_base ho12) hb); have n1_ := Aside0.mk (Kd.R_lower (Kd.R_new' ho12 (Kd.R_lt (q_r (HO375.out)))) (keep_size (w := w) (g := g) (row := none) q_K)); have n2_ := Aside0.mk (IsS83.below q_I83_0_1 hb); have n3_ := Aside0.mk (KeepBut.trans q_K (KeepBut.of_below hb g none) (.inl rfl)); have n4_ := Aside0.mk (below_step q_B83_0 hb); revert n0_ n1_ n2_ n3_ n4_; clear HO375 HI0 HK HB; intro HO375 HO380 HI0 HK HB; clear hb ho12))
   go_ret
   exact ⟨_, q_e, q_r (Kd.R_mono HO380.out (fun _ hk => trivial)), q_I83_0_1, q_B83_0, q_K⟩
  ·rw [if_neg c4] at H
   have c4b0 : ((y373.length : Int) == 0) = false := beq_eq_false_iff_ne.mpr c4
   have c4b1 : ((y373.length : Int) != 0) = true := bne_iff_ne.mpr c4
   have c4b2 : ¬ (y373 = []) := fun h_ => c4 (by rw [h_]; rfl)
   replace H := Option.bind_eq_some_iff.mp H
   obtain ⟨⟨t381, t382⟩, A130, H⟩ := H
   replace H : ((spec_l1Next.f s0_0 t382 3).bind fun bt383 => (if bt383.1 = 0 then ((spec_l1Next.f s0_0 bt383.2 256).bind fun bt385 => (if 0 ≤ t381 then (if t381 < (y373.length : Int) then (some ((y373.set (t381 : Int).toNat ((bt385.1) % 256)), bt385.2)) else (none)) else (none))) else (if bt383.1 = 1 then (if 0 ≤ t381 then (if t381 ≤ (y373.length : Int) then (some ((y373.take (t381 : Int).toNat), bt383.2)) else (none)) else (none)) else (if bt383.1 = 2 then ((spec_l1Next.f s0_0 bt383.2 6).bind fun bt391 => (if y373.length < 140737488355328 then (some ((y373 ++ [(bt391.1) % 256]), bt391.2)) else (none))) else (some (y373, bt383.2)))))) = some (r1, r2) := H
   have A13 := Aside0.mk A130
   clear A130
   replace H := Option.bind_eq_some_iff.mp H
   obtain ⟨⟨t383, t384⟩, A140, H⟩ := H
   replace H : (if t383 = 0 then ((spec_l1Next.f s0_0 t384 256).bind fun bt385 => (if 0 ≤ t381 then (if t381 < (y373.length : Int) then (some ((y373.set (t381 : Int).toNat ((bt385.1) % 256)), bt385.2)) else (none)) else (none))) else (if t383 = 1 then (if 0 ≤ t381 then (if t381 ≤ (y373.length : Int) then (some ((y373.take (t381 : Int).toNat), t384)) else (none)) else (none)) else (if t383 = 2 then ((spec_l1Next.f s0_0 t384 6).bind fun bt391 => (if y373.length < 140737488355328 then (some ((y373 ++ [(bt391.1) % 256]), bt391.2)) else (none))) else (some (y373, t384))))) = some (r1, r2) := H
   have A14 := Aside0.mk A140
   clear A140
   by_cases c15 : t383 = 0
   ·rw [if_pos c15] at H
    have c15b0 : (t383 == 0) = true := beq_iff_eq.mpr c15
    have c15b1 : (t383 != 0) = false := bne_eq_false_iff_eq.mpr c15
    clear c15
    replace H := Option.bind_eq_some_iff.mp H
    obtain ⟨⟨t385, t386⟩, A160, H⟩ := H
    replace H : (if 0 ≤ t381 then (if t381 < (y373.length : Int) then (some ((y373.set (t381 : Int).toNat ((t385) % 256)), t386)) else (none)) else (none)) = some (r1, r2) := H
    have A16 := Aside0.mk A160
    clear A160
    by_cases c17 : 0 ≤ t381
    ·rw [if_pos c17] at H
     have c17b0 := decide_eq_true c17
     clear c17
     by_cases c18 : t381 < (y373.length : Int)
     ·rw [if_pos c18] at H
      have c18b0 := decide_eq_true c18
      clear c18
      obtain ⟨y387, hy387⟩ : ∃ y_ : List Int, y_ = (y373.set (t381 : Int).toNat ((t385) % 256)) := ⟨_, rfl⟩
      replace H : (some (y387, t386)) = some (r1, r2) := q_h hy387 H
      have Ny387 := Aside0.mk hy387
      clear hy387
      simp only [Option.some.injEq, Prod.mk.injEq] at H
      obtain ⟨rfl, rfl⟩ := H
      go_enter Try.func85, Try.ntmps85
      go_wp2_with (first | ((with_reducible refine gate_dst (N := 7) rfl ?_); refine Kd.R_lit (Kd.int .u8) _ 5 ?hg (N := 7) ?hd (xs := ([] : List Int)) (inner := []) (ok := fun _ => True) (okp := fun _ => True) ?hr ?hp (fun _ hk => hk) trivial (Below.refl _ _) (Nat.le_refl _) (by simp) ?_; (case hd => rfl); (case hg => rfl); (case hr => first | (go_simp; done) | (go_simp; rfl)); (case hp => exact (Reps.none _ _)); intro v371 w20 ho21 hb hg_ hnew_; clear hg_ hnew_; (first | rw [← Ny370.out] at ho21 | (simp only [Int.reduceToNat] at ho21; rw [← Ny370.out] at ho21)); have n0_ := Aside0.mk (Kd.R_lower ho21 (keep_size (w := w) (g := g) (row := none) q_K)); have n1_ := Aside0.mk (IsS83.below q_I83_0_1 hb); have n2_ := Aside0.mk (KeepBut.trans q_K (KeepBut.of_below hb g none) (.inl rfl)); have n3_ := Aside0.mk (below_step q_B83_0 hb); revert n0_ n1_ n2_ n3_; clear HI0 HK HB; intro HO372 HI0 HK HB; clear hb ho21) | ((with_reducible refine gate_builtin (b := .append) (xs := #[.tmp 7, .tmp 8]) rfl ?_); at_builtin; refine Kd.R_append_rows (Kd.int .u8) w.heap.size rfl (.tmp 7) (.tmp 8) 22 5 (.int .u8 0) 1 rfl Try.underlying22 info5 rfl (by decide) (by omega) v371 y370 l1 _ _ _ (fun _ => True) (fun _ => False) rfl rfl ?aO ?aR (fun _ _ h => h) (fun _ h => h.elim) ?aF (Below.refl _ _) ?aS ?aL ?_; (case aR => exact Kd.C_keep 0 HR1.out q_K hf1); (case aF => exact (fun _ _ => trivial)); (case aO => exact (q_r (HO372.out))); (case aS => exact (keep_size (w := w) (g := g) (row := none) q_K)); (case aL => have := LMc3.out; omega); intro v374 w22 ho hb hg hat; rw [← Ny373.out] at ho; have n0_ := Aside0.mk (IsS83.grown q_I83_0_1 hg (IsS83.own_ne HI0.out HO372.out (by decide))); have n1_ := Aside0.mk (below_weaken q_B83_0 HL.out hb); have n2_ := Aside0.mk (KeepBut.trans q_K (KeepBut.of_grown hg g) (Kd.R_base2 HO372.out)); have n3_ := Aside0.mk (ho); revert n0_ n1_ n2_ n3_; clear HI0 HB HK HO372; intro HI0 HB HK HO375; clear ho hb hg hat; obtain ⟨Ao23, co23, eo23⟩ := Kd.R_slice HO375.out; subst eo23) | ((with_reducible refine gate_callee (f := 76) rfl ?_); refine goesLq (some 20) rfl rfl Try.func76 (by kernel_rfl) rfl #[.pointer (some ⟨g, 0, none⟩), .int .i64 (y373.length : Int)] rfl ?_; (with_reducible refine (spec_l1Next.calls g s0_0 s0_1 (y373.length : Int) t381 t382 w0 _ ?side1 ?side2 A13.out).mono ?_); (case side1 => repeat (first | (with_reducible first | exact HI0.out | apply IsS83.alloc | apply IsS83.drewN | apply IsS83.drew | apply IsS83.set_1) | exact HI0.out)); (case side2 => repeat (first | (with_reducible first | exact HB.out | apply below_alloc | apply pw_below_drewN | apply below_drew1 | refine below_set ?_ (IsS83.ge HI0.out)) | exact HB.out)); rintro e w24 ⟨rfl, hi, hb, hk⟩; refine ⟨_, rfl, ?_⟩; have n0_ := Aside0.mk (Kd.R_mono (Kd.R_keep (IsS83.apart (show IsS83 w0 _ g s0_0 s0_1 from q_I83_0_1) (q_r (HO375.out)) (by decide)) hk (fun _ h => h.2)) (fun _ h => h.1)); have n1_ := Aside0.mk (KeepBut.trans q_K hk (.inl rfl)); have n2_ := Aside0.mk (hb); have n3_ := Aside0.mk (hi); revert n0_ n1_ n2_ n3_; clear HO375 HK HB HI0; intro HO375 HK HB HI0; (try clear hb); (try clear hb2); (try clear hk); (try clear hi)) | ((with_reducible refine gate_callee (f := 76) rfl ?_); refine goesLq (some 22) rfl rfl Try.func76 (by kernel_rfl) rfl #[.pointer (some ⟨g, 0, none⟩), .int .i64 3] rfl ?_; (with_reducible refine (spec_l1Next.calls g s0_0 t382 3 t383 t384 w0 _ ?side1 ?side2 A14.out).mono ?_); (case side1 => repeat (first | (with_reducible first | exact HI0.out | apply IsS83.alloc | apply IsS83.drewN | apply IsS83.drew | apply IsS83.set_1) | exact HI0.out)); (case side2 => repeat (first | (with_reducible first | exact HB.out | apply below_alloc | apply pw_below_drewN | apply below_drew1 | refine below_set ?_ (IsS83.ge HI0.out)) | exact HB.out)); rintro e w25 ⟨rfl, hi, hb, hk⟩; refine ⟨_, rfl, ?_⟩; have n0_ := Aside0.mk (Kd.R_mono (Kd.R_keep (IsS83.apart (show IsS83 w0 _ g s0_0 t382 from q_I83_0_1) (q_r (HO375.out)) (by decide)) hk (fun _ h => h.2)) (fun _ h => h.1)); have n1_ := Aside0.mk (KeepBut.trans q_K hk (.inl rfl)); have n2_ := Aside0.mk (hb); have n3_ := Aside0.mk (hi); revert n0_ n1_ n2_ n3_; clear HO375 HK HB HI0; intro HO375 HK HB HI0; (try clear hb); (try clear hb2); (try clear hk); (try clear hi)) | ((with_reducible refine gate_callee (f := 76) rfl ?_); refine goesLq (some 28) rfl rfl Try.func76 (by kernel_rfl) rfl #[.pointer (some ⟨g, 0, none⟩), .int .i64 256] rfl ?_; (with_reducible refine (spec_l1Next.calls g s0_0 t384 256 t385 t386 w0 _ ?side1 ?side2 A16.out).mono ?_); (case side1 => repeat (first | (with_reducible first | exact HI0.out | apply IsS83.alloc | apply IsS83.drewN | apply IsS83.drew | apply IsS83.set_1) | exact HI0.out)); (case side2 => repeat (first | (with_reducible first | exact HB.out | apply below_alloc | apply pw_below_drewN | apply below_drew1 | refine below_set ?_ (IsS83.ge HI0.out)) | exact HB.out)); rintro e w26 ⟨rfl, hi, hb, hk⟩; refine ⟨_, rfl, ?_⟩; have n0_ := Aside0.mk (Kd.R_mono (Kd.R_keep (IsS83.apart (show IsS83 w0 _ g s0_0 t384 from q_I83_0_1) (q_r (HO375.out)) (by decide)) hk (fun _ h => h.2)) (fun _ h => h.1)); have n1_ := Aside0.mk (KeepBut.trans q_K hk (.inl rfl)); have n2_ := Aside0.mk (hb); have n3_ := Aside0.mk (hi); revert n0_ n1_ n2_ n3_; clear HO375 HK HB HI0; intro HO375 HK HB HI0; (try clear hb); (try clear hb2); (try clear hk); (try clear hi); have p19 : 0 ≤ (t381 : Int) := q_d; have q19 : (t381 : Int) < ((y373.length : Int) : Int) := q_d; obtain ⟨go19, co19, eo19, gb19, gl19, cl19, HG19⟩ := Kd.R_form HO375.out (by omega); (first | cases eo19 | (injection eo19 with ea_ en_ ec_; (first | subst ea_ | (injection ea_ with ea_; subst ea_)); subst ec_; clear en_)); have GB19 := Aside0.mk gb19; have GG19 := Aside0.mk HG19; clear gb19 gl19 HG19; obtain ⟨hx19_0, hf19_0⟩ := Kd.R_celln 0 HO375.out (t381 : Int) p19 q19; replace p19 := eq_true p19; replace q19 := eq_true q19; obtain ⟨hy27_, hz27_⟩ := Kd.R_celln 0 HO375.out (t381 : Int) q_d q_d; have HP27 := Kd.R_putg HO375.out (t381 : Int) ((t385) % 256)) | ((with_reducible refine gate_store (t := 5) (p := 30) rfl ?_); refine store_event (t := 5) (p := 30) (v := ?vo_w28) (w1 := (w26.setCell ⟨go19, (t381 : Int).toNat, none⟩ (.int .u8 ((t385) % 256)))) ?hg ?ho ?hn ?hr ?_; (case ho => rfl); (case hg => rfl); (case hn => rfl); (case hr => first | (go_simp; done) | (go_simp; rfl)); intro w28 hw; have hg : w26.grownBy w28 (some go19) := (by rw [hw]; exact HP27.2); have hp_ : Kd.R (Kd.int .u8) 5 w28 w.heap.size (fun _ => True) (.slice (some ⟨go19, 0, none⟩) y373.length co23) y387 := (by rw [hw, Ny387.out]; exact HP27.1); clear HP27; have n0_ := Aside0.mk (IsS83.grown q_I83_0_1 hg (IsS83.own_ne HI0.out HO375.out (by decide))); have n1_ := Aside0.mk (hp_); have n2_ := Aside0.mk ((by rw [hw]; exact below_set (HB.out) (Nat.le_trans HL.out GB19.out) : Below w0.heap.size w0 w28)); have n3_ := Aside0.mk (KeepBut.trans q_K (KeepBut.of_grown hg g) (Kd.R_base2 HO375.out)); revert n0_ n1_ n2_ n3_; clear HI0 HO375 HB HK; intro HI0 HO375 HB HK; clear hg hw hp_))
      go_ret
      exact ⟨_, q_e, q_r (HO375.out), q_I83_0_1, q_B83_0, q_K⟩
     ·rw [if_neg c18] at H
      exact absurd H (by simp)
    ·rw [if_neg c17] at H
     exact absurd H (by simp)
   ·rw [if_neg c15] at H
    have c15b0 : (t383 == 0) = false := beq_eq_false_iff_ne.mpr c15
    have c15b1 : (t383 != 0) = true := bne_iff_ne.mpr c15
    by_cases c29 : t383 = 1
    ·rw [if_pos c29] at H
     have c29b0 : (t383 == 1) = true := beq_iff_eq.mpr c29
     have c29b1 : (t383 != 1) = false := bne_eq_false_iff_eq.mpr c29
     clear c29
     by_cases c30 : 0 ≤ t381
     ·rw [if_pos c30] at H
      have c30b0 := eq_true c30
      have c30b1 := decide_eq_true c30
      clear c30
      by_cases c31 : t381 ≤ (y373.length : Int)
      ·rw [if_pos c31] at H
       have c31b0 := eq_true c31
       have c31b1 := decide_eq_true c31
       clear c31
       obtain ⟨y388, hy388⟩ : ∃ y_ : List Int, y_ = (y373.take (t381 : Int).toNat) := ⟨_, rfl⟩
       replace H : (some (y388, t384)) = some (r1, r2) := q_h hy388 H
       have Ny388 := Aside0.mk hy388
       clear hy388
       simp only [Option.some.injEq, Prod.mk.injEq] at H
       obtain ⟨rfl, rfl⟩ := H
       go_enter Try.func85, Try.ntmps85
       go_wp2_with (first | ((with_reducible refine gate_dst (N := 7) rfl ?_); refine Kd.R_lit (Kd.int .u8) _ 5 ?hg (N := 7) ?hd (xs := ([] : List Int)) (inner := []) (ok := fun _ => True) (okp := fun _ => True) ?hr ?hp (fun _ hk => hk) trivial (Below.refl _ _) (Nat.le_refl _) (by simp) ?_; (case hd => rfl); (case hg => rfl); (case hr => first | (go_simp; done) | (go_simp; rfl)); (case hp => exact (Reps.none _ _)); intro v371 w32 ho33 hb hg_ hnew_; clear hg_ hnew_; (first | rw [← Ny370.out] at ho33 | (simp only [Int.reduceToNat] at ho33; rw [← Ny370.out] at ho33)); have n0_ := Aside0.mk (Kd.R_lower ho33 (keep_size (w := w) (g := g) (row := none) q_K)); have n1_ := Aside0.mk (IsS83.below q_I83_0_1 hb); have n2_ := Aside0.mk (KeepBut.trans q_K (KeepBut.of_below hb g none) (.inl rfl)); have n3_ := Aside0.mk (below_step q_B83_0 hb); revert n0_ n1_ n2_ n3_; clear HI0 HK HB; intro HO372 HI0 HK HB; clear hb ho33) | ((with_reducible refine gate_builtin (b := .append) (xs := #[.tmp 7, .tmp 8]) rfl ?_); at_builtin; refine Kd.R_append_rows (Kd.int .u8) w.heap.size rfl (.tmp 7) (.tmp 8) 22 5 (.int .u8 0) 1 rfl Try.underlying22 info5 rfl (by decide) (by omega) v371 y370 l1 _ _ _ (fun _ => True) (fun _ => False) rfl rfl ?aO ?aR (fun _ _ h => h) (fun _ h => h.elim) ?aF (Below.refl _ _) ?aS ?aL ?_; (case aR => exact Kd.C_keep 0 HR1.out q_K hf1); (case aF => exact (fun _ _ => trivial)); (case aO => exact (q_r (HO372.out))); (case aS => exact (keep_size (w := w) (g := g) (row := none) q_K)); (case aL => have := LMc3.out; omega); intro v374 w34 ho hb hg hat; rw [← Ny373.out] at ho; have n0_ := Aside0.mk (IsS83.grown q_I83_0_1 hg (IsS83.own_ne HI0.out HO372.out (by decide))); have n1_ := Aside0.mk (below_weaken q_B83_0 HL.out hb); have n2_ := Aside0.mk (KeepBut.trans q_K (KeepBut.of_grown hg g) (Kd.R_base2 HO372.out)); have n3_ := Aside0.mk (ho); revert n0_ n1_ n2_ n3_; clear HI0 HB HK HO372; intro HI0 HB HK HO375; clear ho hb hg hat; obtain ⟨Ao35, co35, eo35⟩ := Kd.R_slice HO375.out; subst eo35) | ((with_reducible refine gate_callee (f := 76) rfl ?_); refine goesLq (some 20) rfl rfl Try.func76 (by kernel_rfl) rfl #[.pointer (some ⟨g, 0, none⟩), .int .i64 (y373.length : Int)] rfl ?_; (with_reducible refine (spec_l1Next.calls g s0_0 s0_1 (y373.length : Int) t381 t382 w0 _ ?side1 ?side2 A13.out).mono ?_); (case side1 => repeat (first | (with_reducible first | exact HI0.out | apply IsS83.alloc | apply IsS83.drewN | apply IsS83.drew | apply IsS83.set_1) | exact HI0.out)); (case side2 => repeat (first | (with_reducible first | exact HB.out | apply below_alloc | apply pw_below_drewN | apply below_drew1 | refine below_set ?_ (IsS83.ge HI0.out)) | exact HB.out)); rintro e w36 ⟨rfl, hi, hb, hk⟩; refine ⟨_, rfl, ?_⟩; have n0_ := Aside0.mk (Kd.R_mono (Kd.R_keep (IsS83.apart (show IsS83 w0 _ g s0_0 s0_1 from q_I83_0_1) (q_r (HO375.out)) (by decide)) hk (fun _ h => h.2)) (fun _ h => h.1)); have n1_ := Aside0.mk (KeepBut.trans q_K hk (.inl rfl)); have n2_ := Aside0.mk (hb); have n3_ := Aside0.mk (hi); revert n0_ n1_ n2_ n3_; clear HO375 HK HB HI0; intro HO375 HK HB HI0; (try clear hb); (try clear hb2); (try clear hk); (try clear hi)) | ((with_reducible refine gate_callee (f := 76) rfl ?_); refine goesLq (some 22) rfl rfl Try.func76 (by kernel_rfl) rfl #[.pointer (some ⟨g, 0, none⟩), .int .i64 3] rfl ?_; (with_reducible refine (spec_l1Next.calls g s0_0 t382 3 t383 t384 w0 _ ?side1 ?side2 A14.out).mono ?_); (case side1 => repeat (first | (with_reducible first | exact HI0.out | apply IsS83.alloc | apply IsS83.drewN | apply IsS83.drew | apply IsS83.set_1) | exact HI0.out)); (case side2 => repeat (first | (with_reducible first | exact HB.out | apply below_alloc | apply pw_below_drewN | apply below_drew1 | refine below_set ?_ (IsS83.ge HI0.out)) | exact HB.out)); rintro e w37 ⟨rfl, hi, hb, hk⟩; refine ⟨_, rfl, ?_⟩; have n0_ := Aside0.mk (Kd.R_mono (Kd.R_keep (IsS83.apart (show IsS83 w0 _ g s0_0 t382 from q_I83_0_1) (q_r (HO375.out)) (by decide)) hk (fun _ h => h.2)) (fun _ h => h.1)); have n1_ := Aside0.mk (KeepBut.trans q_K hk (.inl rfl)); have n2_ := Aside0.mk (hb); have n3_ := Aside0.mk (hi); revert n0_ n1_ n2_ n3_; clear HO375 HK HB HI0; intro HO375 HK HB HI0; (try clear hb); (try clear hb2); (try clear hk); (try clear hi); have q38 : (t381 : Int) ≤ ((y373.length : Int) : Int) := q_d; obtain ⟨i038, hi038, _, hsz38, _⟩ := info_parts info5; have hcut38 := cut_to (P := Try.prog) 22 5 .i64 Try.underlying22 hi038 Ao35 y373.length co35 t381 q_d q38 (Kd.R_reads' HO375.out).2.1; have hr38 := Kd.R_take (m := (t381 : Int).toNat) HO375.out (by omega); have hy38 : y388.length = (t381 : Int).toNat := (by rw [Ny388.out, List.length_take]; omega); rw [← Ny388.out] at hr38; rw [← hy38] at hr38 hcut38; clear hy38 hi038 hsz38 HO375; have HO390 := Aside0.mk hr38; clear hr38; replace q38 := eq_true q38))
       go_ret
       exact ⟨_, q_e, q_r (HO390.out), q_I83_0_1, q_B83_0, q_K⟩
      ·rw [if_neg c31] at H
       exact absurd H (by simp)
     ·rw [if_neg c30] at H
      exact absurd H (by simp)
    ·rw [if_neg c29] at H
     have c29b0 : (t383 == 1) = false := beq_eq_false_iff_ne.mpr c29
     have c29b1 : (t383 != 1) = true := bne_iff_ne.mpr c29
     by_cases c39 : t383 = 2
     ·rw [if_pos c39] at H
      have c39b0 : (t383 == 2) = true := beq_iff_eq.mpr c39
      have c39b1 : (t383 != 2) = false := bne_eq_false_iff_eq.mpr c39
      clear c39
      replace H := Option.bind_eq_some_iff.mp H
      obtain ⟨⟨t391, t392⟩, A400, H⟩ := H
      replace H : (if y373.length < 140737488355328 then (some ((y373 ++ [(t391) % 256]), t392)) else (none)) = some (r1, r2) := H
      have A40 := Aside0.mk A400
      clear A400
      by_cases c41 : y373.length < 140737488355328
      ·rw [if_pos c41] at H
       have LMc41 := Aside0.mk c41
       clear c41
       obtain ⟨y393, hy393⟩ : ∃ y_ : List Int, y_ = (y373 ++ [(t391) % 256]) := ⟨_, rfl⟩
       replace H : (some (y393, t392)) = some (r1, r2) := q_h hy393 H
       have Ny393 := Aside0.mk hy393
       clear hy393
       simp only [Option.some.injEq, Prod.mk.injEq] at H
       obtain ⟨rfl, rfl⟩ := H
       go_enter Try.func85, Try.ntmps85
       go_wp2_with (first | ((with_reducible refine gate_dst (N := 7) rfl ?_); refine Kd.R_lit (Kd.int .u8) _ 5 ?hg (N := 7) ?hd (xs := ([] : List Int)) (inner := []) (ok := fun _ => True) (okp := fun _ => True) ?hr ?hp (fun _ hk => hk) trivial (Below.refl _ _) (Nat.le_refl _) (by simp) ?_; (case hd => rfl); (case hg => rfl); (case hr => first | (go_simp; done) | (go_simp; rfl)); (case hp => exact (Reps.none _ _)); intro v371 w42 ho43 hb hg_ hnew_; clear hg_ hnew_; (first | rw [← Ny370.out] at ho43 | (simp only [Int.reduceToNat] at ho43; rw [← Ny370.out] at ho43)); have n0_ := Aside0.mk (Kd.R_lower ho43 (keep_size (w := w) (g := g) (row := none) q_K)); have n1_ := Aside0.mk (IsS83.below q_I83_0_1 hb); have n2_ := Aside0.mk (KeepBut.trans q_K (KeepBut.of_below hb g none) (.inl rfl)); have n3_ := Aside0.mk (below_step q_B83_0 hb); revert n0_ n1_ n2_ n3_; clear HI0 HK HB; intro HO372 HI0 HK HB; clear hb ho43) | ((with_reducible refine gate_builtin (b := .append) (xs := #[.tmp 7, .tmp 8]) rfl ?_); at_builtin; refine Kd.R_append_rows (Kd.int .u8) w.heap.size rfl (.tmp 7) (.tmp 8) 22 5 (.int .u8 0) 1 rfl Try.underlying22 info5 rfl (by decide) (by omega) v371 y370 l1 _ _ _ (fun _ => True) (fun _ => False) rfl rfl ?aO ?aR (fun _ _ h => h) (fun _ h => h.elim) ?aF (Below.refl _ _) ?aS ?aL ?_; (case aR => exact Kd.C_keep 0 HR1.out q_K hf1); (case aF => exact (fun _ _ => trivial)); (case aO => exact (q_r (HO372.out))); (case aS => exact (keep_size (w := w) (g := g) (row := none) q_K)); (case aL => have := LMc3.out; omega); intro v374 w44 ho hb hg hat; rw [← Ny373.out] at ho; have n0_ := Aside0.mk (IsS83.grown q_I83_0_1 hg (IsS83.own_ne HI0.out HO372.out (by decide))); have n1_ := Aside0.mk (below_weaken q_B83_0 HL.out hb); have n2_ := Aside0.mk (KeepBut.trans q_K (KeepBut.of_grown hg g) (Kd.R_base2 HO372.out)); have n3_ := Aside0.mk (ho); revert n0_ n1_ n2_ n3_; clear HI0 HB HK HO372; intro HI0 HB HK HO375; clear ho hb hg hat; obtain ⟨Ao45, co45, eo45⟩ := Kd.R_slice HO375.out; subst eo45) | ((with_reducible refine gate_callee (f := 76) rfl ?_); refine goesLq (some 20) rfl rfl Try.func76 (by kernel_rfl) rfl #[.pointer (some ⟨g, 0, none⟩), .int .i64 (y373.length : Int)] rfl ?_; (with_reducible refine (spec_l1Next.calls g s0_0 s0_1 (y373.length : Int) t381 t382 w0 _ ?side1 ?side2 A13.out).mono ?_); (case side1 => repeat (first | (with_reducible first | exact HI0.out | apply IsS83.alloc | apply IsS83.drewN | apply IsS83.drew | apply IsS83.set_1) | exact HI0.out)); (case side2 => repeat (first | (with_reducible first | exact HB.out | apply below_alloc | apply pw_below_drewN | apply below_drew1 | refine below_set ?_ (IsS83.ge HI0.out)) | exact HB.out)); rintro e w46 ⟨rfl, hi, hb, hk⟩; refine ⟨_, rfl, ?_⟩; have n0_ := Aside0.mk (Kd.R_mono (Kd.R_keep (IsS83.apart (show IsS83 w0 _ g s0_0 s0_1 from q_I83_0_1) (q_r (HO375.out)) (by decide)) hk (fun _ h => h.2)) (fun _ h => h.1)); have n1_ := Aside0.mk (KeepBut.trans q_K hk (.inl rfl)); have n2_ := Aside0.mk (hb); have n3_ := Aside0.mk (hi); revert n0_ n1_ n2_ n3_; clear HO375 HK HB HI0; intro HO375 HK HB HI0; (try clear hb); (try clear hb2); (try clear hk); (try clear hi)) | ((with_reducible refine gate_callee (f := 76) rfl ?_); refine goesLq (some 22) rfl rfl Try.func76 (by kernel_rfl) rfl #[.pointer (some ⟨g, 0, none⟩), .int .i64 3] rfl ?_; (with_reducible refine (spec_l1Next.calls g s0_0 t382 3 t383 t384 w0 _ ?side1 ?side2 A14.out).mono ?_); (case side1 => repeat (first | (with_reducible first | exact HI0.out | apply IsS83.alloc | apply IsS83.drewN | apply IsS83.drew | apply IsS83.set_1) | exact HI0.out)); (case side2 => repeat (first | (with_reducible first | exact HB.out | apply below_alloc | apply pw_below_drewN | apply below_drew1 | refine below_set ?_ (IsS83.ge HI0.out)) | exact HB.out)); rintro e w47 ⟨rfl, hi, hb, hk⟩; refine ⟨_, rfl, ?_⟩; have n0_ := Aside0.mk (Kd.R_mono (Kd.R_keep (IsS83.apart (show IsS83 w0 _ g s0_0 t382 from q_I83_0_1) (q_r (HO375.out)) (by decide)) hk (fun _ h => h.2)) (fun _ h => h.1)); have n1_ := Aside0.mk (KeepBut.trans q_K hk (.inl rfl)); have n2_ := Aside0.mk (hb); have n3_ := Aside0.mk (hi); revert n0_ n1_ n2_ n3_; clear HO375 HK HB HI0; intro HO375 HK HB HI0; (try clear hb); (try clear hb2); (try clear hk); (try clear hi)) | ((with_reducible refine gate_callee (f := 76) rfl ?_); refine goesLq (some 40) rfl rfl Try.func76 (by kernel_rfl) rfl #[.pointer (some ⟨g, 0, none⟩), .int .i64 6] rfl ?_; (with_reducible refine (spec_l1Next.calls g s0_0 t384 6 t391 t392 w0 _ ?side1 ?side2 A40.out).mono ?_); (case side1 => repeat (first | (with_reducible first | exact HI0.out | apply IsS83.alloc | apply IsS83.drewN | apply IsS83.drew | apply IsS83.set_1) | exact HI0.out)); (case side2 => repeat (first | (with_reducible first | exact HB.out | apply below_alloc | apply pw_below_drewN | apply below_drew1 | refine below_set ?_ (IsS83.ge HI0.out)) | exact HB.out)); rintro e w48 ⟨rfl, hi, hb, hk⟩; refine ⟨_, rfl, ?_⟩; have n0_ := Aside0.mk (Kd.R_mono (Kd.R_keep (IsS83.apart (show IsS83 w0 _ g s0_0 t384 from q_I83_0_1) (q_r (HO375.out)) (by decide)) hk (fun _ h => h.2)) (fun _ h => h.1)); have n1_ := Aside0.mk (KeepBut.trans q_K hk (.inl rfl)); have n2_ := Aside0.mk (hb); have n3_ := Aside0.mk (hi); revert n0_ n1_ n2_ n3_; clear HO375 HK HB HI0; intro HO375 HK HB HI0; (try clear hb); (try clear hb2); (try clear hk); (try clear hi)) | ((with_reducible refine gate_builtin (b := .append) (xs := #[.tmp 38, .tmp 42]) rfl ?_); at_builtin; refine Kd.R_append (Kd.int .u8) w.heap.size rfl (.tmp 38) (.tmp 42) 22 5 (.int .u8 0) 1 rfl Try.underlying22 info5 rfl (by decide) (by omega) (.slice Ao45 y373.length co45) y373 ((t391) % 256) [.int .u8 ((t391) % 256)] (fun _ => True) (fun _ => False) rfl rfl ?aP (fun _ hk => hk.elim) ?aF ?aO (Below.refl _ _) ?aS ?aL ?_; (case aP => exact rfl); (case aF => exact (fun _ _ => trivial)); (case aO => exact (q_r (HO375.out))); (case aS => exact (keep_size (w := w) (g := g) (row := none) q_K)); (case aL => have := LMc41.out; omega); intro v394 w49 ho hb hg hat; rw [← Ny393.out] at ho; have n0_ := Aside0.mk (IsS83.grown q_I83_0_1 hg (IsS83.own_ne HI0.out HO375.out (by decide))); have n1_ := Aside0.mk (below_weaken q_B83_0 HL.out hb); have n2_ := Aside0.mk (KeepBut.trans q_K (KeepBut.of_grown hg g) (Kd.R_base2 HO375.out)); have n3_ := Aside0.mk (ho); revert n0_ n1_ n2_ n3_; clear HI0 HB HK HO375; intro HI0 HB HK HO395; clear ho hb hg hat))
       go_ret
       exact ⟨_, q_e, q_r (HO395.out), q_I83_0_1, q_B83_0, q_K⟩
      ·rw [if_neg c41] at H
       exact absurd H (by simp)
     ·rw [if_neg c39] at H
      have c39b0 : (t383 == 2) = false := beq_eq_false_iff_ne.mpr c39
      have c39b1 : (t383 != 2) = true := bne_iff_ne.mpr c39
      simp only [Option.some.injEq, Prod.mk.injEq] at H
      obtain ⟨rfl, rfl⟩ := H
      go_enter Try.func85, Try.ntmps85
      go_wp2_with (first | ((with_reducible refine gate_dst (N := 7) rfl ?_); refine Kd.R_lit (Kd.int .u8) _ 5 ?hg (N := 7) ?hd (xs := ([] : List Int)) (inner := []) (ok := fun _ => True) (okp := fun _ => True) ?hr ?hp (fun _ hk => hk) trivial (Below.refl _ _) (Nat.le_refl _) (by simp) ?_; (case hd => rfl); (case hg => rfl); (case hr => first | (go_simp; done) | (go_simp; rfl)); (case hp => exact (Reps.none _ _)); intro v371 w50 ho51 hb hg_ hnew_; clear hg_ hnew_; (first | rw [← Ny370.out] at ho51 | (simp only [Int.reduceToNat] at ho51; rw [← Ny370.out] at ho51)); have n0_ := Aside0.mk (Kd.R_lower ho51 (keep_size (w := w) (g := g) (row := none) q_K)); have n1_ := Aside0.mk (IsS83.below q_I83_0_1 hb); have n2_ := Aside0.mk (KeepBut.trans q_K (KeepBut.of_below hb g none) (.inl rfl)); have n3_ := Aside0.mk (below_step q_B83_0 hb); revert n0_ n1_ n2_ n3_; clear HI0 HK HB; intro HO372 HI0 HK HB; clear hb ho51) | ((with_reducible refine gate_builtin (b := .append) (xs := #[.tmp 7, .tmp 8]) rfl ?_); at_builtin; refine Kd.R_append_rows (Kd.int .u8) w.heap.size rfl (.tmp 7) (.tmp 8) 22 5 (.int .u8 0) 1 rfl Try.underlying22 info5 rfl (by decide) (by omega) v371 y370 l1 _ _ _ (fun _ => True) (fun _ => False) rfl rfl ?aO ?aR (fun _ _ h => h) (fun _ h => h.elim) ?aF (Below.refl _ _) ?aS ?aL ?_; (case aR => exact Kd.C_keep 0 HR1.out q_K hf1); (case aF => exact (fun _ _ => trivial)); (case aO => exact (q_r (HO372.out))); (case aS => exact (keep_size (w := w) (g := g) (row := none) q_K)); (case aL => have := LMc3.out; omega); intro v374 w52 ho hb hg hat; rw [← Ny373.out] at ho; have n0_ := Aside0.mk (IsS83.grown q_I83_0_1 hg (IsS83.own_ne HI0.out HO372.out (by decide))); have n1_ := Aside0.mk (below_weaken q_B83_0 HL.out hb); have n2_ := Aside0.mk (KeepBut.trans q_K (KeepBut.of_grown hg g) (Kd.R_base2 HO372.out)); have n3_ := Aside0.mk (ho); revert n0_ n1_ n2_ n3_; clear HI0 HB HK HO372; intro HI0 HB HK HO375; clear ho hb hg hat; obtain ⟨Ao53, co53, eo53⟩ := Kd.R_slice HO375.out; subst eo53) | ((with_reducible refine gate_callee (f := 76) rfl ?_); refine goesLq (some 20) rfl rfl Try.func76 (by kernel_rfl) rfl #[.pointer (some ⟨g, 0, none⟩), .int .i64 (y373.length : Int)] rfl ?_; (with_reducible refine (spec_l1Next.calls g s0_0 s0_1 (y373.length : Int) t381 t382 w0 _ ?side1 ?side2 A13.out).mono ?_); (case side1 => repeat (first | (with_reducible first | exact HI0.out | apply IsS83.alloc | apply IsS83.drewN | apply IsS83.drew | apply IsS83.set_1) | exact HI0.out)); (case side2 => repeat (first | (with_reducible first | exact HB.out | apply below_alloc | apply pw_below_drewN | apply below_drew1 | refine below_set ?_ (IsS83.ge HI0.out)) | exact HB.out)); rintro e w54 ⟨rfl, hi, hb, hk⟩; refine ⟨_, rfl, ?_⟩; have n0_ := Aside0.mk (Kd.R_mono (Kd.R_keep (IsS83.apart (show IsS83 w0 _ g s0_0 s0_1 from q_I83_0_1) (q_r (HO375.out)) (by decide)) hk (fun _ h => h.2)) (fun _ h => h.1)); have n1_ := Aside0.mk (KeepBut.trans q_K hk (.inl rfl)); have n2_ := Aside0.mk (hb); have n3_ := Aside0.mk (hi); revert n0_ n1_ n2_ n3_; clear HO375 HK HB HI0; intro HO375 HK HB HI0; (try clear hb); (try clear hb2); (try clear hk); (try clear hi)) | ((with_reducible refine gate_callee (f := 76) rfl ?_); refine goesLq (some 22) rfl rfl Try.func76 (by kernel_rfl) rfl #[.pointer (some ⟨g, 0, none⟩), .int .i64 3] rfl ?_; (with_reducible refine (spec_l1Next.calls g s0_0 t382 3 t383 t384 w0 _ ?side1 ?side2 A14.out).mono ?_); (case side1 => repeat (first | (with_reducible first | exact HI0.out | apply IsS83.alloc | apply IsS83.drewN | apply IsS83.drew | apply IsS83.set_1) | exact HI0.out)); (case side2 => repeat (first | (with_reducible first | exact HB.out | apply below_alloc | apply pw_below_drewN | apply below_drew1 | refine below_set ?_ (IsS83.ge HI0.out)) | exact HB.out)); rintro e w55 ⟨rfl, hi, hb, hk⟩; refine ⟨_, rfl, ?_⟩; have n0_ := Aside0.mk (Kd.R_mono (Kd.R_keep (IsS83.apart (show IsS83 w0 _ g s0_0 t382 from q_I83_0_1) (q_r (HO375.out)) (by decide)) hk (fun _ h => h.2)) (fun _ h => h.1)); have n1_ := Aside0.mk (KeepBut.trans q_K hk (.inl rfl)); have n2_ := Aside0.mk (hb); have n3_ := Aside0.mk (hi); revert n0_ n1_ n2_ n3_; clear HO375 HK HB HI0; intro HO375 HK HB HI0; (try clear hb); (try clear hb2); (try clear hk); (try clear hi)))
      go_ret
      exact ⟨_, q_e, q_r (HO375.out), q_I83_0_1, q_B83_0, q_K⟩
 ·rw [if_neg c3] at H
  exact absurd H (by simp)

end Go.Proofs.Ytcdpiejcdeedoaa.PFnAppends
