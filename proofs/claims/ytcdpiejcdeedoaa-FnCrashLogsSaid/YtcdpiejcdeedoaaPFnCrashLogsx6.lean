/- The functions that a law reaches, each as a plain Lean function with the proof that the machine comes to its answer: written by program (the kit's print, turned by wip/gen). No conditions. -/
import Derived.Test.YtcdpiejcdeedoaaPFnCrashLogsx0
import Derived.Test.YtcdpiejcdeedoaaPFnCrashLogsx1
import Derived.Test.YtcdpiejcdeedoaaPFnCrashLogsx4
import Derived.Test.YtcdpiejcdeedoaaPFnCrashLogsx5
namespace Go.Proofs.Ytcdpiejcdeedoaa.PFnCrashLogs
open Go.RowKit Go.Proofs.YtcdpiejcdeedoaaW.PrintWords Go.Proofs.YtcdpiejcdeedoaaW.PrintLast Go.Proofs.YtcdpiejcdeedoaaW.PrintMore
attribute [local go_sem] max2_int min2_int max_two min_two max_three min_three max_four min_four   -- for this text's walks alone
set_option linter.unusedVariables false
set_option linter.unusedSimpArgs false

/-! ### spec_l4Copy: function 83 -/
def spec_l4Copy.f (l0_0 : List Int) (l0_1 : List Int) : Option (List Int × List Int) := (some (([] : List Int) : List Int)).bind fun y258 => (if y258.length + l0_0.length < 140737488355328 then ((some (([] : List Int) : List Int)).bind fun y264 => (if y264.length + l0_1.length < 140737488355328 then (some ((y258 ++ l0_0), (y264 ++ l0_1))) else (none))) else (none))
def spec_l4Copy.T1 : Bool × List (List Nat × List Nat) := (true, [([], []), ([], []), ([1], [1]), ([0, 2], [0, 2]), ([], []), ([], []), ([5], [5]), ([4, 6, 3], [4, 6]), ([3, 7], [3, 7]), ([8, 7, 0, 1, 2, 3, 4, 5, 6, 7, 8], [8])])
def spec_l4Copy.B1 : List Nat := [0, 0, 2, 7, 0, 0, 32, 127, 255, 511]
theorem spec_l4Copy.tab1 : rtab .any (opsOf Try.f83 1) = spec_l4Copy.T1 := by kernel_rfl
theorem spec_l4Copy.bits1 : waitsOk spec_l4Copy.T1.2 spec_l4Copy.B1 = true := by kernel_rfl
set_option maxHeartbeats 8000000 in
set_option maxRecDepth 100000 in
theorem spec_l4Copy.calls (A0_0 : Option Addr) (c0_0 : Nat) (l0_0 : List Int) (A0_1 : Option Addr) (c0_1 : Nat) (l0_1 : List Int) (r1 : List Int) (r2 : List Int) (w : World) (hr0_0 : Kd.C (Kd.int .u8) w A0_0 l0_0.length l0_0) (hc0_0 : l0_0.length ≤ c0_0) (hr0_1 : Kd.C (Kd.int .u8) w A0_1 l0_1.length l0_1) (hc0_1 : l0_1.length ≤ c0_1) (h : spec_l4Copy.f l0_0 l0_1 = some (r1, r2)) :
  Calls Try.prog 83 #[.agg #[.slice A0_0 l0_0.length c0_0, .slice A0_1 l0_1.length c0_1]] w fun e w' => ∃ v0_ v1_ : Value, e = .returned (.agg #[v0_, v1_]) ∧ Kd.R (Kd.int .u8) 5 w' w.heap.size (fun k_ => some k_ ≠ (v1_ : Value).ownBlock) v0_ r1 ∧ Kd.R (Kd.int .u8) 5 w' w.heap.size (fun k_ => some k_ ≠ (v0_ : Value).ownBlock) v1_ r2 ∧ Below w.heap.size w w' := by
 have hu27 := Try.underlying27
 have HR0_0 := Aside0.mk hr0_0
 have HC0_0 := Aside0.mk hc0_0
 clear hr0_0 hc0_0
 have HR0_1 := Aside0.mk hr0_1
 have HC0_1 := Aside0.mk hc0_1
 clear hr0_1 hc0_1
 have HB := Aside0.mk (Below.refl w.heap.size w)
 have H : ((some (([] : List Int) : List Int)).bind fun y258 => (if y258.length + l0_0.length < 140737488355328 then ((some (([] : List Int) : List Int)).bind fun y264 => (if y264.length + l0_1.length < 140737488355328 then (some ((y258 ++ l0_0), (y264 ++ l0_1))) else (none))) else (none))) = some (r1, r2) := h
 clear h
 obtain ⟨y258, hy258⟩ : ∃ y_ : List Int, y_ = (([] : List Int)) := ⟨_, rfl⟩
 replace H : (if y258.length + l0_0.length < 140737488355328 then ((some (([] : List Int) : List Int)).bind fun y264 => (if y264.length + l0_1.length < 140737488355328 then (some ((y258 ++ l0_0), (y264 ++ l0_1))) else (none))) else (none)) = some (r1, r2) := q_h hy258 H
 have Ny258 := Aside0.mk hy258
 clear hy258
 by_cases c2 : y258.length + l0_0.length < 140737488355328
 ·rw [if_pos c2] at H
  have LMc2 := Aside0.mk c2
  clear c2
  obtain ⟨y261, hy261⟩ : ∃ y_ : List Int, y_ = (y258 ++ l0_0) := ⟨_, rfl⟩
  replace H : ((some (([] : List Int) : List Int)).bind fun y264 => (if y264.length + l0_1.length < 140737488355328 then (some (y261, (y264 ++ l0_1))) else (none))) = some (r1, r2) := q_h hy261 H
  have Ny261 := Aside0.mk hy261
  clear hy261
  obtain ⟨y264, hy264⟩ : ∃ y_ : List Int, y_ = (([] : List Int)) := ⟨_, rfl⟩
  replace H : (if y264.length + l0_1.length < 140737488355328 then (some (y261, (y264 ++ l0_1))) else (none)) = some (r1, r2) := q_h hy264 H
  have Ny264 := Aside0.mk hy264
  clear hy264
  by_cases c3 : y264.length + l0_1.length < 140737488355328
  ·rw [if_pos c3] at H
   have LMc3 := Aside0.mk c3
   clear c3
   obtain ⟨y267, hy267⟩ : ∃ y_ : List Int, y_ = (y264 ++ l0_1) := ⟨_, rfl⟩
   replace H : (some (y261, y267)) = some (r1, r2) := q_h hy267 H
   have Ny267 := Aside0.mk hy267
   clear hy267
   simp only [Option.some.injEq, Prod.mk.injEq] at H
   obtain ⟨rfl, rfl⟩ := H
   go_enter Try.func83, Try.ntmps83
   try go_wp2_with (first | ((with_reducible refine gate_dst (N := 1) rfl ?_); refine q_box (N := 1) (cs := #[.slice A0_0 l0_0.length c0_0, .slice A0_1 l0_1.length c0_1]) (t := 27) ?_; intro gb256 hg w4 hbox hb; have n0_ := Aside0.mk (below_step bq hb); have n1_ := Aside0.mk (hbox); have n2_ := Aside0.mk ((q_g hg bq : w.heap.size ≤ gb256)); have n3_ := Aside0.mk ((q_g hg bq : w.heap.size ≤ gb256)); revert n0_ n1_ n2_ n3_; clear HB; intro HB BK256 GW256 GE256; clear hb hbox hg) | ((with_reducible refine gate_dst (N := 2) rfl ?_); refine q_box (N := 2) (cs := #[.slice none 0 0, .slice none 0 0]) (t := 27) ?_; intro gb257 hg w5 hbox hb; have n0_ := Aside0.mk (blk_below (q_b BK256.out) hb); have n1_ := Aside0.mk (below_step bq hb); have n2_ := Aside0.mk (hbox); have n3_ := Aside0.mk ((q_g hg bq : w.heap.size ≤ gb257)); have n4_ := Aside0.mk ((q_g hg bq : w.heap.size ≤ gb257)); have n5_ := Aside0.mk ((q_n hg (q_b BK256.out) : gb256 ≠ gb257)); have n6_ := Aside0.mk ((q_m hg (q_b BK256.out) : gb257 ≠ gb256)); revert n0_ n1_ n2_ n3_ n4_ n5_ n6_; clear BK256 HB; intro BK256 HB BK257 GW257 GE257 NB256_257 NB257_256; clear hb hbox hg))
   have n0_ := Aside0.mk (blk_drew BK256.out)
   have n1_ := Aside0.mk (blk_drew BK257.out)
   have n2_ := Aside0.mk (below_drew1 HB.out)
   clear BK256
   clear BK257
   clear HB
   have BK256 := n0_
   have BK257 := n1_
   have HB := n2_
   clear n0_ n1_ n2_
   refine start_ (n := 10) (S := fun w' => w'.cell? ⟨gb256, 0, none⟩ = some (.slice A0_0 l0_0.length c0_0) ∧ w'.cell? ⟨gb256, 1, none⟩ = some (.slice A0_1 l0_1.length c0_1)) (ds := []) #[false, false, false, false, false, false, false, false, false, false] (by kernel_rfl) rfl rfl ⟨q_z BK256.out 0, q_z BK256.out 1⟩ (fun hHeld => ?_); refine with_tabW spec_l4Copy.tab1 spec_l4Copy.bits1 (fun HT_ HW_ => ?_)
   generalize w5.drew = w6 at BK256 BK257 HB hHeld ⊢
   refine q_p 1 (some 4) #[false, true, false, false, false, false, false, false, false, false] HT_.out ?_
   refine q_p 5 (some 8) #[false, true, false, false, false, true, false, false, false, false] HT_.out ?_
   refine q_t 2 (some 5) #[false, true, true, false, false, true, false, false, false, false] HT_.out HW_.out hHeld ?_
   refine q_t 6 (some 9) #[false, true, true, false, false, true, true, false, false, false] HT_.out HW_.out hHeld ?_
   refine join_ (σ := Value × Value × Value) 3 #[true, true, true, true, true, true, true, false, false, false] (fun s_ => [(3, s_.1), (6, s_.2.1), (7, s_.2.2)]) (fun s_ w' => (w'.cell? ⟨gb256, 0, none⟩ = some (.slice A0_0 l0_0.length c0_0) ∧ w'.cell? ⟨gb256, 1, none⟩ = some (.slice A0_1 l0_1.length c0_1)) ∧ (Kd.R (Kd.int .u8) 5 w' w.heap.size (fun k_ => some k_ ≠ (s_.2.2 : Value).ownBlock) s_.2.1 y261) ∧ (Kd.R (Kd.int .u8) 5 w' w.heap.size (fun k_ => some k_ ≠ (s_.2.1 : Value).ownBlock) s_.2.2 y264) ∧ (w'.heap[gb256]? = some (.cells #[.slice A0_0 l0_0.length c0_0, .slice A0_1 l0_1.length c0_1] 27 (0, 0))) ∧ (w'.heap[gb257]? = some (.cells #[.slice none 0 0, .slice none 0 0] 27 (0, 0))) ∧ (Below w.heap.size w w')) ?_ ?_
   rotate_left
   ·intro hCont
    refine two_ (i := 0) (j := 4) (Ni := some 3) (Nj := some 7) #[true, true, true, false, false, true, true, false, false, false] #[false, true, true, false, true, true, true, false, false, false] rfl rfl rfl rfl (two_of HT_.out (by kernel_rfl)) (by decide) (by decide) (fun K hK => ?_) (fun K hK => ?_)
    ·skip
     refine Kd.R_lit_step (Kd.int .u8) _ 5 ?hg (N := 3) ?hd (xs := ([] : List Int)) (inner := []) (ok := fun _ => True) (okp := fun _ => True) ?hr ?hp (fun _ hk => hk) trivial (Below.refl _ _) (Nat.le_refl _) (by simp) ?_; (case hd => rfl); (case hg => rfl); (case hr => first | (go_simp; done) | (go_simp; rfl)); (case hp => exact (Reps.none _ _))
     intro v259 w7 ho8 hb hg_ hnew_
     clear hg_ hnew_
     (first | rw [← Ny258.out] at ho8 | (simp only [Int.reduceToNat] at ho8; rw [← Ny258.out] at ho8))
     have n0_ := Aside0.mk (Kd.R_lower ho8 (below_size bq))
     have n1_ := Aside0.mk (blk_below (q_b BK256.out) hb)
     have n2_ := Aside0.mk (blk_below (q_b BK257.out) hb)
     have n3_ := Aside0.mk (below_step bq hb)
     clear BK256
     clear BK257
     clear HB
     have HO260 := n0_
     have BK256 := n1_
     have BK257 := n2_
     have HB := n3_
     clear n0_ n1_ n2_ n3_
     clear hb ho8
     refine hK.out _ _ ⟨q_z BK256.out 0, q_z BK256.out 1⟩ (fun hHeld => ?_)
     clear hK K
     refine norm_ (a' := ?_) ?_ ?_
     rotate_left
     ·show Act.put _ (some 3) _ = _
      simp only [Act.put, List.setIfInBounds_toArray, List.set_cons_zero, List.set_cons_succ, i64_w, i32_w]
      rfl
     refine two_ (i := 3) (j := 4) (Ni := some 6) (Nj := some 7) #[true, true, true, true, false, true, true, false, false, false] #[true, true, true, false, true, true, true, false, false, false] rfl rfl rfl rfl (two_of HT_.out (by kernel_rfl)) (by decide) (by decide) (fun K hK => ?_) (fun K hK => ?_)
     ·skip
      refine Kd.R_append_rows_step (Kd.int .u8) (w0 := w) w.heap.size (by rfl) (.tmp 3) (.tmp 5) 22 5 (.int .u8 0) 1 rfl Try.underlying22 info5 rfl (by decide) (by omega) v259 y258 l0_0 _ _ _ (fun _ => True) (fun _ => False) rfl rfl ?aO ?aR (fun _ _ h => h) (fun _ h => h.elim) ?aF ?aB ?aS ?aL ?_
      (case aR => repeat (first | exact (Kd.C_below HR0_0.out HB.out) | (with_reducible refine Kd.C_alloc ?_ _) | (with_reducible refine Kd.C_drewN ?_ _) | (with_reducible refine Kd.C_drew ?_)))
      (case aB => exact bq)
      (case aF => exact (fun _ _ => trivial))
      (case aO => exact (q_r (HO260.out)))
      (case aS => exact (below_size bq))
      (case aL => have := LMc2.out; omega)
      intro v262 w9 ho hb hg hat
      rw [← Ny261.out] at ho
      have n0_ := Aside0.mk (blk_grown (q_b BK256.out) hg (Kd.R_ne HO260.out BK256.out (by decide)))
      have n1_ := Aside0.mk (blk_grown (q_b BK257.out) hg (Kd.R_ne HO260.out BK257.out (by decide)))
      have n2_ := Aside0.mk (hb)
      have n3_ := Aside0.mk (ho)
      clear BK256
      clear BK257
      clear HB
      clear HO260
      have BK256 := n0_
      have BK257 := n1_
      have HB := n2_
      have HO263 := n3_
      clear n0_ n1_ n2_ n3_
      clear ho hb hg hat
      refine hK.out _ _ ⟨q_z BK256.out 0, q_z BK256.out 1⟩ (fun hHeld => ?_)
      clear hK K
      refine norm_ (a' := ?_) ?_ ?_
      rotate_left
      ·show Act.put _ (some 6) _ = _
       simp only [Act.put, List.setIfInBounds_toArray, List.set_cons_zero, List.set_cons_succ, i64_w, i32_w]
       rfl
      refine one_ (i := 4) (N := some 7) #[true, true, true, true, true, true, true, false, false, false] rfl rfl (one_of HT_.out (by kernel_rfl)) (by decide) (fun K hK => ?_)
      refine Kd.R_lit_step (Kd.int .u8) _ 5 ?hg (N := 7) ?hd (xs := ([] : List Int)) (inner := []) (ok := fun _ => True) (okp := fun _ => True) ?hr ?hp (fun _ hk => hk) trivial (Below.refl _ _) (Nat.le_refl _) (by simp) ?_; (case hd => rfl); (case hg => rfl); (case hr => first | (go_simp; done) | (go_simp; rfl)); (case hp => exact (Reps.none _ _))
      intro v265 w10 ho11 hb hg_ hnew_
      clear hg_ hnew_
      (first | rw [← Ny264.out] at ho11 | (simp only [Int.reduceToNat] at ho11; rw [← Ny264.out] at ho11))
      have n0_ := Aside0.mk (Kd.R_elder' (q_r (HO263.out)) (Kd.R_base ho11) hb)
      have n1_ := Aside0.mk (Kd.R_lower (Kd.R_new' ho11 (Kd.R_lt (q_r (HO263.out)))) (below_size bq))
      have n2_ := Aside0.mk (blk_below (q_b BK256.out) hb)
      have n3_ := Aside0.mk (blk_below (q_b BK257.out) hb)
      have n4_ := Aside0.mk (below_step bq hb)
      clear HO263
      clear BK256
      clear BK257
      clear HB
      have HO263 := n0_
      have HO266 := n1_
      have BK256 := n2_
      have BK257 := n3_
      have HB := n4_
      clear n0_ n1_ n2_ n3_ n4_
      clear hb ho11
      refine hK.out _ _ ⟨q_z BK256.out 0, q_z BK256.out 1⟩ (fun hHeld => ?_)
      clear hK K
      refine norm_ (a' := ?_) ?_ ?_
      rotate_left
      ·show Act.put _ (some 7) _ = _
       simp only [Act.put, List.setIfInBounds_toArray, List.set_cons_zero, List.set_cons_succ, i64_w, i32_w]
       rfl
      exact norm_ (by simp only [putAll, Act.put, List.setIfInBounds_toArray, List.set_cons_zero, List.set_cons_succ]) (hCont (v259, v262, v265) _ ⟨hHeld, (q_r (Kd.R_mono HO263.out (fun _ hk => hk.2))), (q_r (Kd.R_mono HO266.out (fun _ hk => hk.2))), kq, kq, bq⟩)
     ·skip
      refine Kd.R_lit_step (Kd.int .u8) _ 5 ?hg (N := 7) ?hd (xs := ([] : List Int)) (inner := []) (ok := fun _ => True) (okp := fun _ => True) ?hr ?hp (fun _ hk => hk) trivial (Below.refl _ _) (Nat.le_refl _) (by simp) ?_; (case hd => rfl); (case hg => rfl); (case hr => first | (go_simp; done) | (go_simp; rfl)); (case hp => exact (Reps.none _ _))
      intro v265 w9 ho10 hb hg_ hnew_
      clear hg_ hnew_
      (first | rw [← Ny264.out] at ho10 | (simp only [Int.reduceToNat] at ho10; rw [← Ny264.out] at ho10))
      have n0_ := Aside0.mk (Kd.R_elder' (q_r (HO260.out)) (Kd.R_base ho10) hb)
      have n1_ := Aside0.mk (Kd.R_lower (Kd.R_new' ho10 (Kd.R_lt (q_r (HO260.out)))) (below_size bq))
      have n2_ := Aside0.mk (blk_below (q_b BK256.out) hb)
      have n3_ := Aside0.mk (blk_below (q_b BK257.out) hb)
      have n4_ := Aside0.mk (below_step bq hb)
      clear HO260
      clear BK256
      clear BK257
      clear HB
      have HO260 := n0_
      have HO266 := n1_
      have BK256 := n2_
      have BK257 := n3_
      have HB := n4_
      clear n0_ n1_ n2_ n3_ n4_
      clear hb ho10
      refine hK.out _ _ ⟨q_z BK256.out 0, q_z BK256.out 1⟩ (fun hHeld => ?_)
      clear hK K
      refine norm_ (a' := ?_) ?_ ?_
      rotate_left
      ·show Act.put _ (some 7) _ = _
       simp only [Act.put, List.setIfInBounds_toArray, List.set_cons_zero, List.set_cons_succ, i64_w, i32_w]
       rfl
      refine one_ (i := 3) (N := some 6) #[true, true, true, true, true, true, true, false, false, false] rfl rfl (one_of HT_.out (by kernel_rfl)) (by decide) (fun K hK => ?_)
      refine Kd.R_append_rows_step (Kd.int .u8) (w0 := w) w.heap.size (by rfl) (.tmp 3) (.tmp 5) 22 5 (.int .u8 0) 1 rfl Try.underlying22 info5 rfl (by decide) (by omega) v259 y258 l0_0 _ _ _ (fun k_ => some k_ ≠ (v265 : Value).ownBlock) (fun _ => False) rfl rfl ?aO ?aR (fun _ _ h => h) (fun _ h => h.elim) ?aF ?aB ?aS ?aL ?_
      (case aR => repeat (first | exact (Kd.C_below HR0_0.out HB.out) | (with_reducible refine Kd.C_alloc ?_ _) | (with_reducible refine Kd.C_drewN ?_ _) | (with_reducible refine Kd.C_drew ?_)))
      (case aB => exact bq)
      (case aF => exact (fun k_ hk => Kd.fresh' (Kd.R_lt (q_r (HO266.out))) k_ hk))
      (case aO => exact (q_r (Kd.R_mono HO260.out (fun _ hk => hk.2))))
      (case aS => exact (below_size bq))
      (case aL => have := LMc2.out; omega)
      intro v262 w11 ho hb hg hat
      rw [← Ny261.out] at ho
      have n0_ := Aside0.mk (blk_grown (q_b BK256.out) hg (Kd.R_ne HO260.out BK256.out (by decide)))
      have n1_ := Aside0.mk (blk_grown (q_b BK257.out) hg (Kd.R_ne HO260.out BK257.out (by decide)))
      have n2_ := Aside0.mk (Kd.R_after (ok := (fun _ => True)) (q_r (HO266.out)) hg hat)
      have n3_ := Aside0.mk (hb)
      have n4_ := Aside0.mk (ho)
      clear BK256
      clear BK257
      clear HO266
      clear HB
      clear HO260
      have BK256 := n0_
      have BK257 := n1_
      have HO266 := n2_
      have HB := n3_
      have HO263 := n4_
      clear n0_ n1_ n2_ n3_ n4_
      clear ho hb hg hat
      refine hK.out _ _ ⟨q_z BK256.out 0, q_z BK256.out 1⟩ (fun hHeld => ?_)
      clear hK K
      refine norm_ (a' := ?_) ?_ ?_
      rotate_left
      ·show Act.put _ (some 6) _ = _
       simp only [Act.put, List.setIfInBounds_toArray, List.set_cons_zero, List.set_cons_succ, i64_w, i32_w]
       rfl
      exact norm_ (by simp only [putAll, Act.put, List.setIfInBounds_toArray, List.set_cons_zero, List.set_cons_succ]) (hCont (v259, v262, v265) _ ⟨hHeld, (q_r (HO263.out)), (q_r (Kd.R_mono HO266.out (fun _ hk => hk.2))), kq, kq, bq⟩)
    ·skip
     refine Kd.R_lit_step (Kd.int .u8) _ 5 ?hg (N := 7) ?hd (xs := ([] : List Int)) (inner := []) (ok := fun _ => True) (okp := fun _ => True) ?hr ?hp (fun _ hk => hk) trivial (Below.refl _ _) (Nat.le_refl _) (by simp) ?_; (case hd => rfl); (case hg => rfl); (case hr => first | (go_simp; done) | (go_simp; rfl)); (case hp => exact (Reps.none _ _))
     intro v265 w7 ho8 hb hg_ hnew_
     clear hg_ hnew_
     (first | rw [← Ny264.out] at ho8 | (simp only [Int.reduceToNat] at ho8; rw [← Ny264.out] at ho8))
     have n0_ := Aside0.mk (Kd.R_lower ho8 (below_size bq))
     have n1_ := Aside0.mk (blk_below (q_b BK256.out) hb)
     have n2_ := Aside0.mk (blk_below (q_b BK257.out) hb)
     have n3_ := Aside0.mk (below_step bq hb)
     clear BK256
     clear BK257
     clear HB
     have HO266 := n0_
     have BK256 := n1_
     have BK257 := n2_
     have HB := n3_
     clear n0_ n1_ n2_ n3_
     clear hb ho8
     refine hK.out _ _ ⟨q_z BK256.out 0, q_z BK256.out 1⟩ (fun hHeld => ?_)
     clear hK K
     refine norm_ (a' := ?_) ?_ ?_
     rotate_left
     ·show Act.put _ (some 7) _ = _
      simp only [Act.put, List.setIfInBounds_toArray, List.set_cons_zero, List.set_cons_succ, i64_w, i32_w]
      rfl
     refine one_ (i := 0) (N := some 3) #[true, true, true, false, true, true, true, false, false, false] rfl rfl (one_of HT_.out (by kernel_rfl)) (by decide) (fun K hK => ?_)
     refine Kd.R_lit_step (Kd.int .u8) _ 5 ?hg (N := 3) ?hd (xs := ([] : List Int)) (inner := []) (ok := fun _ => True) (okp := fun _ => True) ?hr ?hp (fun _ hk => hk) trivial (Below.refl _ _) (Nat.le_refl _) (by simp) ?_; (case hd => rfl); (case hg => rfl); (case hr => first | (go_simp; done) | (go_simp; rfl)); (case hp => exact (Reps.none _ _))
     intro v259 w9 ho10 hb hg_ hnew_
     clear hg_ hnew_
     (first | rw [← Ny258.out] at ho10 | (simp only [Int.reduceToNat] at ho10; rw [← Ny258.out] at ho10))
     have n0_ := Aside0.mk (Kd.R_elder' (q_r (HO266.out)) (Kd.R_base ho10) hb)
     have n1_ := Aside0.mk (Kd.R_lower (Kd.R_new' ho10 (Kd.R_lt (q_r (HO266.out)))) (below_size bq))
     have n2_ := Aside0.mk (blk_below (q_b BK256.out) hb)
     have n3_ := Aside0.mk (blk_below (q_b BK257.out) hb)
     have n4_ := Aside0.mk (below_step bq hb)
     clear HO266
     clear BK256
     clear BK257
     clear HB
     have HO266 := n0_
     have HO260 := n1_
     have BK256 := n2_
     have BK257 := n3_
     have HB := n4_
     clear n0_ n1_ n2_ n3_ n4_
     clear hb ho10
     refine hK.out _ _ ⟨q_z BK256.out 0, q_z BK256.out 1⟩ (fun hHeld => ?_)
     clear hK K
     refine norm_ (a' := ?_) ?_ ?_
     rotate_left
     ·show Act.put _ (some 3) _ = _
      simp only [Act.put, List.setIfInBounds_toArray, List.set_cons_zero, List.set_cons_succ, i64_w, i32_w]
      rfl
     refine one_ (i := 3) (N := some 6) #[true, true, true, true, true, true, true, false, false, false] rfl rfl (one_of HT_.out (by kernel_rfl)) (by decide) (fun K hK => ?_)
     refine Kd.R_append_rows_step (Kd.int .u8) (w0 := w) w.heap.size (by rfl) (.tmp 3) (.tmp 5) 22 5 (.int .u8 0) 1 rfl Try.underlying22 info5 rfl (by decide) (by omega) v259 y258 l0_0 _ _ _ (fun k_ => some k_ ≠ (v265 : Value).ownBlock) (fun _ => False) rfl rfl ?aO ?aR (fun _ _ h => h) (fun _ h => h.elim) ?aF ?aB ?aS ?aL ?_
     (case aR => repeat (first | exact (Kd.C_below HR0_0.out HB.out) | (with_reducible refine Kd.C_alloc ?_ _) | (with_reducible refine Kd.C_drewN ?_ _) | (with_reducible refine Kd.C_drew ?_)))
     (case aB => exact bq)
     (case aF => exact (fun k_ hk => Kd.fresh' (Kd.R_lt (q_r (HO266.out))) k_ hk))
     (case aO => exact (q_r (Kd.R_mono HO260.out (fun _ hk => hk.2))))
     (case aS => exact (below_size bq))
     (case aL => have := LMc2.out; omega)
     intro v262 w11 ho hb hg hat
     rw [← Ny261.out] at ho
     have n0_ := Aside0.mk (blk_grown (q_b BK256.out) hg (Kd.R_ne HO260.out BK256.out (by decide)))
     have n1_ := Aside0.mk (blk_grown (q_b BK257.out) hg (Kd.R_ne HO260.out BK257.out (by decide)))
     have n2_ := Aside0.mk (Kd.R_after (ok := (fun _ => True)) (q_r (HO266.out)) hg hat)
     have n3_ := Aside0.mk (hb)
     have n4_ := Aside0.mk (ho)
     clear BK256
     clear BK257
     clear HO266
     clear HB
     clear HO260
     have BK256 := n0_
     have BK257 := n1_
     have HO266 := n2_
     have HB := n3_
     have HO263 := n4_
     clear n0_ n1_ n2_ n3_ n4_
     clear ho hb hg hat
     refine hK.out _ _ ⟨q_z BK256.out 0, q_z BK256.out 1⟩ (fun hHeld => ?_)
     clear hK K
     refine norm_ (a' := ?_) ?_ ?_
     rotate_left
     ·show Act.put _ (some 6) _ = _
      simp only [Act.put, List.setIfInBounds_toArray, List.set_cons_zero, List.set_cons_succ, i64_w, i32_w]
      rfl
     exact norm_ (by simp only [putAll, Act.put, List.setIfInBounds_toArray, List.set_cons_zero, List.set_cons_succ]) (hCont (v259, v262, v265) _ ⟨hHeld, (q_r (HO263.out)), (q_r (Kd.R_mono HO266.out (fun _ hk => hk.2))), kq, kq, bq⟩)
   rintro ⟨v259, v262, v265⟩ w12 ⟨hS_, h0_, h1_, h2_, h3_, h4_⟩
   have n0_ : Aside0 (Kd.R (Kd.int .u8) 5 w12 w.heap.size (fun k_ => some k_ ≠ (v265 : Value).ownBlock) v262 y261) := ⟨h0_⟩
   have n1_ : Aside0 (Kd.R (Kd.int .u8) 5 w12 w.heap.size (fun k_ => some k_ ≠ (v262 : Value).ownBlock) v265 y264) := ⟨h1_⟩
   have n2_ : Aside0 (w12.heap[gb256]? = some (.cells #[.slice A0_0 l0_0.length c0_0, .slice A0_1 l0_1.length c0_1] 27 (0, 0))) := ⟨h2_⟩
   have n3_ : Aside0 (w12.heap[gb257]? = some (.cells #[.slice none 0 0, .slice none 0 0] 27 (0, 0))) := ⟨h3_⟩
   have n4_ : Aside0 (Below w.heap.size w w12) := ⟨h4_⟩
   clear BK256
   clear BK257
   clear HB
   clear h0_ h1_ h2_ h3_ h4_
   have HO263 := n0_
   have HO266 := n1_
   have BK256 := n2_
   have BK257 := n3_
   have HB := n4_
   clear n0_ n1_ n2_ n3_ n4_
   have hHeld : w12.cell? ⟨gb256, 0, none⟩ = some (.slice A0_0 l0_0.length c0_0) ∧ w12.cell? ⟨gb256, 1, none⟩ = some (.slice A0_1 l0_1.length c0_1) := hS_
   refine norm_ (a' := ?_) ?_ ?_
   rotate_left
   ·simp only [putAll, Act.put, List.setIfInBounds_toArray, List.set_cons_zero, List.set_cons_succ]
    rfl
   refine one_ (i := 7) (N := some 10) #[true, true, true, true, true, true, true, true, false, false] rfl rfl (one_of HT_.out (by kernel_rfl)) (by decide) (fun K hK => ?_)
   refine Kd.R_append_rows_step (Kd.int .u8) (w0 := w) w.heap.size (by rfl) (.tmp 7) (.tmp 9) 22 5 (.int .u8 0) 1 rfl Try.underlying22 info5 rfl (by decide) (by omega) v265 y264 l0_1 _ _ _ (fun k_ => some k_ ≠ (v262 : Value).ownBlock) (fun _ => False) rfl rfl ?aO ?aR (fun _ _ h => h) (fun _ h => h.elim) ?aF ?aB ?aS ?aL ?_
   (case aR => repeat (first | exact (Kd.C_below HR0_1.out HB.out) | (with_reducible refine Kd.C_alloc ?_ _) | (with_reducible refine Kd.C_drewN ?_ _) | (with_reducible refine Kd.C_drew ?_)))
   (case aB => exact bq)
   (case aF => exact (fun k_ hk => Kd.fresh' (Kd.R_lt (q_r (HO263.out))) k_ hk))
   (case aO => exact (q_r (HO266.out)))
   (case aS => exact (below_size bq))
   (case aL => have := LMc3.out; omega)
   intro v268 w13 ho hb hg hat
   rw [← Ny267.out] at ho
   have n0_ := Aside0.mk (blk_grown (q_b BK256.out) hg (Kd.R_ne HO266.out BK256.out (by decide)))
   have n1_ := Aside0.mk (blk_grown (q_b BK257.out) hg (Kd.R_ne HO266.out BK257.out (by decide)))
   have n2_ := Aside0.mk (Kd.R_after (ok := (fun _ => True)) (by (with_reducible repeat (first | apply Kd.R_alloc | apply Kd.R_drewN | apply Kd.R_drew)); exact Kd.R_mono HO263.out (fun _ hk => ⟨trivial, hk⟩)) hg hat)
   have n3_ := Aside0.mk (hb)
   have n4_ := Aside0.mk (ho)
   clear BK256
   clear BK257
   clear HO263
   clear HB
   clear HO266
   have BK256 := n0_
   have BK257 := n1_
   have HO263 := n2_
   have HB := n3_
   have HO269 := n4_
   clear n0_ n1_ n2_ n3_ n4_
   clear ho hb hg hat
   obtain ⟨Ao14, co14, eo14⟩ := Kd.R_slice HO269.out
   (first | subst eo14 | (injection eo14 with f1_ f2_ f3_; have f4_ := f1_.symm; have f5_ := f3_.symm; clear f1_ f2_ f3_; subst f4_; subst f5_))
   obtain ⟨Ao15, co15, eo15⟩ := Kd.R_slice HO263.out
   (first | subst eo15 | (injection eo15 with f1_ f2_ f3_; have f4_ := f1_.symm; have f5_ := f3_.symm; clear f1_ f2_ f3_; subst f4_; subst f5_))
   refine hK.out _ _ ⟨q_z BK256.out 0, q_z BK256.out 1⟩ (fun hHeld => ?_)
   clear hK K
   refine norm_ (a' := ?_) ?_ ?_
   rotate_left
   ·show Act.put _ (some 10) _ = _
    simp only [Act.put, List.setIfInBounds_toArray, List.set_cons_zero, List.set_cons_succ, i64_w, i32_w]
    rfl
   refine q_p 8 (some 11) #[true, true, true, true, true, true, true, true, true, false] HT_.out ?_
   refine one_ (i := 9) (N := none) #[true, true, true, true, true, true, true, true, true, true] rfl rfl (one_of HT_.out (by kernel_rfl)) (by decide) (fun K hK => ?_)
   have hs16 : w13.cell? ⟨gb257, 0, none⟩ = some (.slice none 0 0) := (blk_cell BK257.out 0).trans rfl
   have hfs16 := blk_frozen BK257.out 0
   have hns16_0 := NB256_257.out
   have hms16_0 := NB257_256.out
   have hs17 : w13.cell? ⟨gb257, 1, none⟩ = some (.slice none 0 0) := (blk_cell BK257.out 1).trans rfl
   have hfs17 := blk_frozen BK257.out 1
   have hns17_0 := NB256_257.out
   have hms17_0 := NB257_256.out
   refine skip_ (w1 := ?_) (by rfl) rfl ?_ ?_
   rotate_left
   ·go_simp
    rfl
   refine hK.out _ _ ⟨((cell_far (p := ⟨gb257, _, none⟩) NB256_257.out _).trans (((cell_far (p := ⟨gb257, _, none⟩) NB256_257.out _).trans (hHeld.1)))), ((cell_far (p := ⟨gb257, _, none⟩) NB256_257.out _).trans (((cell_far (p := ⟨gb257, _, none⟩) NB256_257.out _).trans (hHeld.2))))⟩ (fun hHeld => ?_)
   clear hK K
   refine done_ (done_of HT_.out (by kernel_rfl)) ?_
   try go_wp2
   refine bodyPost_ret (results_cell_row rfl _ _ gb257 27 #[.slice Ao15 y261.length co15, .slice Ao14 y267.length co14] (0, 0) _ rfl (by (with_reducible repeat (first | refine blk_drewN ?_ _ | refine blk_drew ?_ | refine blk_alloc ?_ _)); refine blk_put (cs := #[.slice Ao15 y261.length co15, .slice none 0 0]) ?_ 1 _ rfl; (with_reducible repeat (first | refine blk_drewN ?_ _ | refine blk_drew ?_ | refine blk_alloc ?_ _)); refine blk_put (cs := #[.slice none 0 0, .slice none 0 0]) ?_ 0 _ rfl; (with_reducible repeat (first | refine blk_drewN ?_ _ | refine blk_drew ?_ | refine blk_alloc ?_ _)); exact BK257.out) Try.underlying27 rfl (by kernel_rfl)) rfl ?_
   exact ⟨_, _, q_e, by (with_reducible repeat (first | apply Kd.R_alloc | apply Kd.R_drewN | apply Kd.R_drew)); exact Kd.R_mono (Kd.R_far (p := ⟨gb257, 1, none⟩) (Kd.R_far (p := ⟨gb257, 0, none⟩) (Kd.R_types HO263.out BK257.out (by decide)) (fun _ hk => hk.2) (.slice Ao15 y261.length co15)) (fun _ hk => hk.2) (.slice Ao14 y267.length co14)) (fun _ hk => hk.1.2), by (with_reducible repeat (first | apply Kd.R_alloc | apply Kd.R_drewN | apply Kd.R_drew)); exact Kd.R_mono (Kd.R_far (p := ⟨gb257, 1, none⟩) (Kd.R_far (p := ⟨gb257, 0, none⟩) (Kd.R_types HO269.out BK257.out (by decide)) (fun _ hk => hk.2) (.slice Ao15 y261.length co15)) (fun _ hk => hk.2) (.slice Ao14 y267.length co14)) (fun _ hk => hk.1), bq⟩
  ·rw [if_neg c3] at H
   exact absurd H (by simp)
 ·rw [if_neg c2] at H
  exact absurd H (by simp)

/-! ### spec_l4Append: function 71 -/
def spec_l4Append.f (k : Nat) (l0_0 : List Int) (l0_1 : List Int) (l1 : List Int) : Option (List Int × List Int × Int) := (spec_l4Copy.f l0_0 l0_1).bind fun bt272 => ((spec_l3Frame.f k l1).bind fun t279 => (if bt272.2.length + t279.length < 140737488355328 then ((some (bt272.2 ++ t279 : List Int)).bind fun y282 => ((spec_LogFault.f bt272.1 y282).bind fun t285 => (some (bt272.1, y282, t285)))) else (none)))
set_option maxHeartbeats 8000000 in
set_option maxRecDepth 100000 in
theorem spec_l4Append.calls (k : Nat) (A0_0 : Option Addr) (c0_0 : Nat) (l0_0 : List Int) (A0_1 : Option Addr) (c0_1 : Nat) (l0_1 : List Int) (A1 : Option Addr) (c1 : Nat) (l1 : List Int) (r1 : List Int) (r2 : List Int) (r3 : Int) (w : World) (hr0_0 : Kd.C (Kd.int .u8) w A0_0 l0_0.length l0_0) (hc0_0 : l0_0.length ≤ c0_0) (hr0_1 : Kd.C (Kd.int .u8) w A0_1 l0_1.length l0_1) (hc0_1 : l0_1.length ≤ c0_1) (hr1 : Kd.C (Kd.int .u8) w A1 l1.length l1) (hc1 : l1.length ≤ c1) (h : spec_l4Append.f k l0_0 l0_1 l1 = some (r1, r2, r3)) :
  Calls Try.prog 71 #[.agg #[.slice A0_0 l0_0.length c0_0, .slice A0_1 l0_1.length c0_1], .slice A1 l1.length c1] w fun e w' => ∃ v0_ v1_ : Value, e = .returned (.tuple #[.agg #[v0_, v1_], .int .i64 r3]) ∧ Kd.R (Kd.int .u8) 5 w' w.heap.size (fun k_ => some k_ ≠ (v1_ : Value).ownBlock) v0_ r1 ∧ Kd.R (Kd.int .u8) 5 w' w.heap.size (fun k_ => some k_ ≠ (v0_ : Value).ownBlock) v1_ r2 ∧ Below w.heap.size w w' := by
 have hu27 := Try.underlying27
 have HR0_0 := Aside0.mk hr0_0
 have HC0_0 := Aside0.mk hc0_0
 clear hr0_0 hc0_0
 have HR0_1 := Aside0.mk hr0_1
 have HC0_1 := Aside0.mk hc0_1
 clear hr0_1 hc0_1
 have HR1 := Aside0.mk hr1
 have HC1 := Aside0.mk hc1
 clear hr1 hc1
 have HB := Aside0.mk (Below.refl w.heap.size w)
 have H : ((spec_l4Copy.f l0_0 l0_1).bind fun bt272 => ((spec_l3Frame.f k l1).bind fun t279 => (if bt272.2.length + t279.length < 140737488355328 then ((some (bt272.2 ++ t279 : List Int)).bind fun y282 => ((spec_LogFault.f bt272.1 y282).bind fun t285 => (some (bt272.1, y282, t285)))) else (none)))) = some (r1, r2, r3) := h
 clear h
 replace H := Option.bind_eq_some_iff.mp H
 obtain ⟨⟨t272, t275⟩, A30, H⟩ := H
 replace H : ((spec_l3Frame.f k l1).bind fun t279 => (if t275.length + t279.length < 140737488355328 then ((some (t275 ++ t279 : List Int)).bind fun y282 => ((spec_LogFault.f t272 y282).bind fun t285 => (some (t272, y282, t285)))) else (none))) = some (r1, r2, r3) := H
 have A3 := Aside0.mk A30
 clear A30
 replace H := Option.bind_eq_some_iff.mp H
 obtain ⟨t279, A40, H⟩ := H
 replace H : (if t275.length + t279.length < 140737488355328 then ((some (t275 ++ t279 : List Int)).bind fun y282 => ((spec_LogFault.f t272 y282).bind fun t285 => (some (t272, y282, t285)))) else (none)) = some (r1, r2, r3) := H
 have A4 := Aside0.mk A40
 clear A40
 by_cases c5 : t275.length + t279.length < 140737488355328
 ·rw [if_pos c5] at H
  have LMc5 := Aside0.mk c5
  clear c5
  obtain ⟨y282, hy282⟩ : ∃ y_ : List Int, y_ = (t275 ++ t279) := ⟨_, rfl⟩
  replace H : ((spec_LogFault.f t272 y282).bind fun t285 => (some (t272, y282, t285))) = some (r1, r2, r3) := q_h hy282 H
  have Ny282 := Aside0.mk hy282
  clear hy282
  replace H := Option.bind_eq_some_iff.mp H
  obtain ⟨t285, A60, H⟩ := H
  replace H : (some (t272, y282, t285)) = some (r1, r2, r3) := H
  have A6 := Aside0.mk A60
  clear A60
  simp only [Option.some.injEq, Prod.mk.injEq] at H
  obtain ⟨rfl, rfl, rfl⟩ := H
  go_enter Try.func71, Try.ntmps71
  try go_wp2_with (first | ((with_reducible refine gate_dst (N := 2) rfl ?_); refine q_box (N := 2) (cs := #[.slice A0_0 l0_0.length c0_0, .slice A0_1 l0_1.length c0_1]) (t := 27) ?_; intro gb270 hg w7 hbox hb; have n0_ := Aside0.mk (below_step bq hb); have n1_ := Aside0.mk (hbox); have n2_ := Aside0.mk ((q_g hg bq : w.heap.size ≤ gb270)); have n3_ := Aside0.mk ((q_g hg bq : w.heap.size ≤ gb270)); revert n0_ n1_ n2_ n3_; clear HB; intro HB BK270 GW270 GE270; clear hb hbox hg) | ((with_reducible refine gate_dst (N := 4) rfl ?_); refine q_box (N := 4) (cs := #[.slice none 0 0, .slice none 0 0]) (t := 27) ?_; intro gb271 hg w8 hbox hb; have n0_ := Aside0.mk (blk_below (q_b BK270.out) hb); have n1_ := Aside0.mk (below_step bq hb); have n2_ := Aside0.mk (hbox); have n3_ := Aside0.mk ((q_g hg bq : w.heap.size ≤ gb271)); have n4_ := Aside0.mk ((q_g hg bq : w.heap.size ≤ gb271)); have n5_ := Aside0.mk ((q_n hg (q_b BK270.out) : gb270 ≠ gb271)); have n6_ := Aside0.mk ((q_m hg (q_b BK270.out) : gb271 ≠ gb270)); revert n0_ n1_ n2_ n3_ n4_ n5_ n6_; clear BK270 HB; intro BK270 HB BK271 GW271 GE271 NB270_271 NB271_270; clear hb hbox hg; have hnb9 := NB270_271.out; have hnc9 := NB271_270.out; obtain ⟨hcz10_0, hcz10_1, hfz10_0, hfz10_1⟩ := q_2 BK270.out) | ((with_reducible refine gate_callee (f := 83) rfl ?_); refine goesLq (some 8) rfl rfl Try.func83 (by kernel_rfl) rfl #[.agg #[.slice A0_0 l0_0.length c0_0, .slice A0_1 l0_1.length c0_1]] rfl ?_; (with_reducible refine (spec_l4Copy.calls _ _ l0_0 _ _ l0_1 t272 t275 _ ?side1 ?side2 ?side3 ?side4 A3.out).mono ?_); (case side1 => exact q_c ((Kd.C_below HR0_0.out HB.out))); (case side2 => exact HC0_0.out); (case side3 => exact q_c ((Kd.C_below HR0_1.out HB.out))); (case side4 => exact HC0_1.out); rintro e w11 ⟨v273, v276, rfl, ho0, ho1, hb⟩; refine ⟨_, rfl, ?_⟩; have n0_ := Aside0.mk (Kd.R_lower ho0 (below_size bq)); have n1_ := Aside0.mk (Kd.R_lower ho1 (below_size bq)); have n2_ := Aside0.mk (blk_below (q_b BK270.out) hb); have n3_ := Aside0.mk (blk_below (q_b BK271.out) hb); have n4_ := Aside0.mk (below_step bq hb); revert n0_ n1_ n2_ n3_ n4_; clear BK270 BK271 HB; intro HO274 HO277 BK270 BK271 HB; (try clear hb); (try clear hb2); (try clear hk); (try clear hi); (try clear ho0); (try clear ho1)) | ((with_reducible refine gate_dst (N := 6) rfl ?_); refine q_box (N := 6) (cs := #[.slice none 0 0, .slice none 0 0]) (t := 27) ?_; intro gb278 hg w12 hbox hb; have n0_ := Aside0.mk (Kd.R_below (q_r (HO274.out)) hb); have n1_ := Aside0.mk (Kd.R_below (q_r (HO277.out)) hb); have n2_ := Aside0.mk (blk_below (q_b BK270.out) hb); have n3_ := Aside0.mk (blk_below (q_b BK271.out) hb); have n4_ := Aside0.mk (below_step bq hb); have n5_ := Aside0.mk (hbox); have n6_ := Aside0.mk ((q_g hg bq : w.heap.size ≤ gb278)); have n7_ := Aside0.mk ((q_g hg bq : w.heap.size ≤ gb278)); have n8_ := Aside0.mk ((q_n hg (q_b BK270.out) : gb270 ≠ gb278)); have n9_ := Aside0.mk ((q_m hg (q_b BK270.out) : gb278 ≠ gb270)); have n10_ := Aside0.mk ((q_n hg (q_b BK271.out) : gb271 ≠ gb278)); have n11_ := Aside0.mk ((q_m hg (q_b BK271.out) : gb278 ≠ gb271)); revert n0_ n1_ n2_ n3_ n4_ n5_ n6_ n7_ n8_ n9_ n10_ n11_; clear HO274 HO277 BK270 BK271 HB; intro HO274 HO277 BK270 BK271 HB BK278 GW278 GE278 NB270_278 NB278_270 NB271_278 NB278_271; clear hb hbox hg; obtain ⟨Ao13, co13, eo13⟩ := Kd.R_slice HO274.out; subst eo13; have hnb14 := NB278_270.out; have hnc14 := NB270_278.out; have hnb15 := NB278_271.out; have hnc15 := NB271_278.out; obtain ⟨hcz16_0, hcz16_1, hfz16_0, hfz16_1⟩ := q_2 BK278.out; obtain ⟨Ao17, co17, eo17⟩ := Kd.R_slice HO277.out; subst eo17))
  have n0_ : Aside0 (Kd.R (Kd.int .u8) 5 ((w12.setCell ⟨gb278, 0, none⟩ (.slice Ao13 t272.length co13)).setCell ⟨gb278, 1, none⟩ (.slice Ao17 t275.length co17)) w.heap.size (fun k_ => some k_ ≠ (.slice Ao17 t275.length co17 : Value).ownBlock) (.slice Ao13 t272.length co13) t272) := ⟨by (with_reducible repeat (first | apply Kd.R_alloc | apply Kd.R_drewN | apply Kd.R_drew)); exact Kd.R_mono (Kd.R_far (p := ⟨gb278, 1, none⟩) (Kd.R_far (p := ⟨gb278, 0, none⟩) (Kd.R_types HO274.out BK278.out (by decide)) (fun _ hk => hk.2) (.slice Ao13 t272.length co13)) (fun _ hk => hk.2) (.slice Ao17 t275.length co17)) (fun _ hk => hk.1)⟩
  have n1_ : Aside0 (Kd.R (Kd.int .u8) 5 ((w12.setCell ⟨gb278, 0, none⟩ (.slice Ao13 t272.length co13)).setCell ⟨gb278, 1, none⟩ (.slice Ao17 t275.length co17)) w.heap.size (fun k_ => some k_ ≠ (.slice Ao13 t272.length co13 : Value).ownBlock) (.slice Ao17 t275.length co17) t275) := ⟨by (with_reducible repeat (first | apply Kd.R_alloc | apply Kd.R_drewN | apply Kd.R_drew)); exact Kd.R_mono (Kd.R_far (p := ⟨gb278, 1, none⟩) (Kd.R_far (p := ⟨gb278, 0, none⟩) (Kd.R_types HO277.out BK278.out (by decide)) (fun _ hk => hk.2) (.slice Ao13 t272.length co13)) (fun _ hk => hk.2) (.slice Ao17 t275.length co17)) (fun _ hk => hk.1)⟩
  have n2_ : Aside0 (((w12.setCell ⟨gb278, 0, none⟩ (.slice Ao13 t272.length co13)).setCell ⟨gb278, 1, none⟩ (.slice Ao17 t275.length co17)).heap[gb270]? = some (.cells #[.slice A0_0 l0_0.length c0_0, .slice A0_1 l0_1.length c0_1] 27 (0, 0))) := ⟨by (with_reducible repeat (first | refine blk_drewN ?_ _ | refine blk_drew ?_ | refine blk_alloc ?_ _)); refine blk_far ?_ NB270_278.out _; (with_reducible repeat (first | refine blk_drewN ?_ _ | refine blk_drew ?_ | refine blk_alloc ?_ _)); refine blk_far ?_ NB270_278.out _; (with_reducible repeat (first | refine blk_drewN ?_ _ | refine blk_drew ?_ | refine blk_alloc ?_ _)); exact BK270.out⟩
  have n3_ : Aside0 (((w12.setCell ⟨gb278, 0, none⟩ (.slice Ao13 t272.length co13)).setCell ⟨gb278, 1, none⟩ (.slice Ao17 t275.length co17)).heap[gb271]? = some (.cells #[.slice none 0 0, .slice none 0 0] 27 (0, 0))) := ⟨by (with_reducible repeat (first | refine blk_drewN ?_ _ | refine blk_drew ?_ | refine blk_alloc ?_ _)); refine blk_far ?_ NB271_278.out _; (with_reducible repeat (first | refine blk_drewN ?_ _ | refine blk_drew ?_ | refine blk_alloc ?_ _)); refine blk_far ?_ NB271_278.out _; (with_reducible repeat (first | refine blk_drewN ?_ _ | refine blk_drew ?_ | refine blk_alloc ?_ _)); exact BK271.out⟩
  have n4_ : Aside0 (((w12.setCell ⟨gb278, 0, none⟩ (.slice Ao13 t272.length co13)).setCell ⟨gb278, 1, none⟩ (.slice Ao17 t275.length co17)).heap[gb278]? = some (.cells #[.slice Ao13 t272.length co13, .slice Ao17 t275.length co17] 27 (0, 0))) := ⟨by (with_reducible repeat (first | refine blk_drewN ?_ _ | refine blk_drew ?_ | refine blk_alloc ?_ _)); refine blk_put (cs := #[.slice Ao13 t272.length co13, .slice none 0 0]) ?_ 1 _ rfl; (with_reducible repeat (first | refine blk_drewN ?_ _ | refine blk_drew ?_ | refine blk_alloc ?_ _)); refine blk_put (cs := #[.slice none 0 0, .slice none 0 0]) ?_ 0 _ rfl; (with_reducible repeat (first | refine blk_drewN ?_ _ | refine blk_drew ?_ | refine blk_alloc ?_ _)); exact BK278.out⟩
  have n5_ : Aside0 (Below w.heap.size w ((w12.setCell ⟨gb278, 0, none⟩ (.slice Ao13 t272.length co13)).setCell ⟨gb278, 1, none⟩ (.slice Ao17 t275.length co17))) := ⟨bq⟩
  (try clear HO274)
  (try clear HO277)
  (try clear BK270)
  (try clear BK271)
  (try clear BK278)
  (try clear HB)
  generalize ((w12.setCell ⟨gb278, 0, none⟩ (.slice Ao13 t272.length co13)).setCell ⟨gb278, 1, none⟩ (.slice Ao17 t275.length co17)) = w18 at n0_ n1_ n2_ n3_ n4_ n5_ ⊢
  have HO274 := n0_
  have HO277 := n1_
  have BK270 := n2_
  have BK271 := n3_
  have BK278 := n4_
  have HB := n5_
  clear n0_ n1_ n2_ n3_ n4_ n5_
  have n0_ := Aside0.mk (Kd.R_drew HO274.out)
  have n1_ := Aside0.mk (Kd.R_drew HO277.out)
  have n2_ := Aside0.mk (blk_drew BK270.out)
  have n3_ := Aside0.mk (blk_drew BK271.out)
  have n4_ := Aside0.mk (blk_drew BK278.out)
  have n5_ := Aside0.mk (below_drew1 HB.out)
  clear HO274
  clear HO277
  clear BK270
  clear BK271
  clear BK278
  clear HB
  have HO274 := n0_
  have HO277 := n1_
  have BK270 := n2_
  have BK271 := n3_
  have BK278 := n4_
  have HB := n5_
  clear n0_ n1_ n2_ n3_ n4_ n5_
  refine start_ (n := 7) (S := fun w' => w'.cell? ⟨gb278, 0, none⟩ = some (.slice Ao13 t272.length co13) ∧ w'.cell? ⟨gb278, 1, none⟩ = some (.slice Ao17 t275.length co17)) (ds := [6]) #[false, false, false, false, false, false, false] (by kernel_rfl) rfl rfl ⟨q_z BK278.out 0, q_z BK278.out 1⟩ (fun hHeld => ?_)
  generalize w18.drew = w19 at HO274 HO277 BK270 BK271 BK278 HB hHeld ⊢
  refine pure_ (i := 0) (N := some 9) (v := ?_) (a' := ?_) #[true, false, false, false, false, false, false] rfl rfl (by kernel_rfl) (fun _ _ _ h => h) (Or.inl ⟨by rfl, ?_⟩) ?_ ?_
  rotate_left
  ·intro w'
   go_simp
   with_reducible rfl
  rotate_left
  ·simp only [Act.put, List.setIfInBounds_toArray, List.set_cons_zero, List.set_cons_succ, i64_w, i32_w]
   rfl
  refine pure_ (i := 2) (N := some 11) (v := ?_) (a' := ?_) #[true, false, true, false, false, false, false] rfl rfl (by kernel_rfl) (fun _ _ _ h => h) (Or.inl ⟨by rfl, ?_⟩) ?_ ?_
  rotate_left
  ·intro w'
   go_simp
   with_reducible rfl
  rotate_left
  ·simp only [Act.put, List.setIfInBounds_toArray, List.set_cons_zero, List.set_cons_succ, i64_w, i32_w]
   rfl
  refine take_ (i := 1) (N := some 10) (v := ?_) (a' := ?_) #[true, true, true, false, false, false, false] rfl rfl (by kernel_rfl) (fun _ _ _ h => h) (Or.inl ⟨by rfl, ?_⟩) hHeld ?_ ?_
  rotate_left
  ·rintro w' ⟨s0, s1⟩
   go_simp
   with_reducible rfl
  rotate_left
  ·simp only [Act.put, List.setIfInBounds_toArray, List.set_cons_zero, List.set_cons_succ, i64_w, i32_w]
   rfl
  refine one_ (i := 3) (N := some 12) #[true, true, true, true, false, false, false] rfl rfl (by kernel_rfl) (by decide) (fun K hK => ?_)
  refine goes_ Try.func52 (by kernel_rfl) rfl #[.slice A1 l1.length c1] (by rfl) rfl rfl (by (try simp only [List.map_toArray, List.map_cons, List.map_nil]); first | done | rfl | (simp only [List.length_drop, List.length_take]; rfl)) ?_
  with_reducible refine (spec_l3Frame.calls k _ _ l1 t279 _ ?side1 ?side2 A4.out).mono ?_
  (case side1 => exact q_c ((Kd.C_below HR1.out HB.out)))
  (case side2 => exact HC1.out)
  rintro e w20 ⟨v280, rfl, ho0, hb⟩
  refine ⟨_, rfl, ?_⟩
  have n0_ := Aside0.mk (Kd.R_elder' (q_r (HO274.out)) (Kd.R_base ho0) hb)
  have n1_ := Aside0.mk (Kd.R_elder' (q_r (HO277.out)) (Kd.R_base ho0) hb)
  have n2_ := Aside0.mk (Kd.R_lower (Kd.R_new' (Kd.R_new' ho0 (Kd.R_lt (q_r (HO274.out)))) (Kd.R_lt (q_r (HO277.out)))) (below_size bq))
  have n3_ := Aside0.mk (blk_below (q_b BK270.out) hb)
  have n4_ := Aside0.mk (blk_below (q_b BK271.out) hb)
  have n5_ := Aside0.mk (blk_below (q_b BK278.out) hb)
  have n6_ := Aside0.mk (below_step bq hb)
  clear HO274
  clear HO277
  clear BK270
  clear BK271
  clear BK278
  clear HB
  have HO274 := n0_
  have HO277 := n1_
  have HO281 := n2_
  have BK270 := n3_
  have BK271 := n4_
  have BK278 := n5_
  have HB := n6_
  clear n0_ n1_ n2_ n3_ n4_ n5_ n6_
  (try clear hb)
  (try clear hb2)
  (try clear hk)
  (try clear hi)
  (try clear ho0)
  obtain ⟨Ao22, co22, eo22⟩ := Kd.R_slice HO281.out
  (first | subst eo22 | (injection eo22 with f1_ f2_ f3_; have f4_ := f1_.symm; have f5_ := f3_.symm; clear f1_ f2_ f3_; subst f4_; subst f5_))
  refine hK.out _ _ ⟨q_z BK278.out 0, q_z BK278.out 1⟩ (fun hHeld => ?_)
  clear hK K
  refine norm_ (a' := ?_) ?_ ?_
  rotate_left
  ·show Act.put _ (some 12) _ = _
   simp only [Act.put, List.setIfInBounds_toArray, List.set_cons_zero, List.set_cons_succ, i64_w, i32_w]
   rfl
  refine one_ (i := 4) (N := some 13) #[true, true, true, true, true, false, false] rfl rfl (by kernel_rfl) (by decide) (fun K hK => ?_)
  refine Kd.R_append_rows_step (Kd.int .u8) (w0 := w) w.heap.size (by rfl) (.tmp 10) (.tmp 12) 22 5 (.int .u8 0) 1 rfl Try.underlying22 info5 rfl (by decide) (by omega) (.slice Ao17 t275.length co17) t275 t279 _ _ _ (fun k_ => some k_ ≠ (.slice Ao13 t272.length co13 : Value).ownBlock ∧ some k_ ≠ (.slice Ao22 t279.length co22 : Value).ownBlock) (fun _ => False) rfl rfl ?aO ?aR (fun _ _ h => h) (fun _ h => h.elim) ?aF ?aB ?aS ?aL ?_
  (case aR => repeat (first | exact (Kd.R_reads' HO281.out).2.2 | (with_reducible refine Kd.C_alloc ?_ _) | (with_reducible refine Kd.C_drewN ?_ _) | (with_reducible refine Kd.C_drew ?_)))
  (case aB => exact bq)
  (case aF => exact (fun k_ hk => ⟨Kd.fresh' (Kd.R_lt (q_r (HO274.out))) k_ hk, Kd.fresh' (Kd.R_lt (q_r (HO281.out))) k_ hk⟩))
  (case aO => exact (q_r (HO277.out)))
  (case aS => exact (below_size bq))
  (case aL => have := LMc5.out; omega)
  intro v283 w21 ho hb hg hat
  rw [← Ny282.out] at ho
  have n0_ := Aside0.mk (blk_grown (q_b BK270.out) hg (Kd.R_ne HO277.out BK270.out (by decide)))
  have n1_ := Aside0.mk (blk_grown (q_b BK271.out) hg (Kd.R_ne HO277.out BK271.out (by decide)))
  have n2_ := Aside0.mk (Kd.R_after (ok := (fun k_ => some k_ ≠ (.slice Ao22 t279.length co22 : Value).ownBlock)) (by (with_reducible repeat (first | apply Kd.R_alloc | apply Kd.R_drewN | apply Kd.R_drew)); exact Kd.R_mono HO274.out (fun _ hk => ⟨hk.2, hk.1⟩)) hg hat)
  have n3_ := Aside0.mk (blk_grown (q_b BK278.out) hg (Kd.R_ne HO277.out BK278.out (by decide)))
  have n4_ := Aside0.mk (Kd.R_after (ok := (fun k_ => some k_ ≠ (.slice Ao13 t272.length co13 : Value).ownBlock)) (by (with_reducible repeat (first | apply Kd.R_alloc | apply Kd.R_drewN | apply Kd.R_drew)); exact Kd.R_mono HO281.out (fun _ hk => ⟨hk.1.2, hk.2⟩)) hg hat)
  have n5_ := Aside0.mk (hb)
  have n6_ := Aside0.mk (ho)
  clear BK270
  clear BK271
  clear HO274
  clear BK278
  clear HO281
  clear HB
  clear HO277
  have BK270 := n0_
  have BK271 := n1_
  have HO274 := n2_
  have BK278 := n3_
  have HO281 := n4_
  have HB := n5_
  have HO284 := n6_
  clear n0_ n1_ n2_ n3_ n4_ n5_ n6_
  clear ho hb hg hat
  obtain ⟨Ao23, co23, eo23⟩ := Kd.R_slice HO284.out
  (first | subst eo23 | (injection eo23 with f1_ f2_ f3_; have f4_ := f1_.symm; have f5_ := f3_.symm; clear f1_ f2_ f3_; subst f4_; subst f5_))
  refine hK.out _ _ ⟨q_z BK278.out 0, q_z BK278.out 1⟩ (fun hHeld => ?_)
  clear hK K
  refine norm_ (a' := ?_) ?_ ?_
  rotate_left
  ·show Act.put _ (some 13) _ = _
   simp only [Act.put, List.setIfInBounds_toArray, List.set_cons_zero, List.set_cons_succ, i64_w, i32_w]
   rfl
  refine pure_ (i := 5) (N := some 14) (v := ?_) (a' := ?_) #[true, true, true, true, true, true, false] rfl rfl (by kernel_rfl) (fun _ _ _ h => h) (Or.inl ⟨by rfl, ?_⟩) ?_ ?_
  rotate_left
  ·intro w'
   go_simp
   with_reducible rfl
  rotate_left
  ·simp only [Act.put, List.setIfInBounds_toArray, List.set_cons_zero, List.set_cons_succ, i64_w, i32_w]
   rfl
  refine last_ (i := 6) (N := none) #[true, true, true, true, true, true, true] rfl rfl (by kernel_rfl) (by decide) (fun K hK => ?_)
  have hs24 : w21.cell? ⟨gb278, 1, none⟩ = some (.slice Ao17 t275.length co17) := (blk_cell BK278.out 1).trans rfl
  have hfs24 := blk_frozen BK278.out 1
  have hns24_0 := NB270_278.out
  have hns24_1 := NB271_278.out
  have hms24_0 := NB278_270.out
  have hms24_1 := NB278_271.out
  refine skip_ (w1 := ?_) (by rfl) rfl ?_ ?_
  rotate_left
  ·go_simp
   rfl
  refine hK.out _ _ ?_
  clear hK K
  refine done_ (by kernel_rfl) ?_
  try go_wp2
  have n0_ : Aside0 (Kd.R (Kd.int .u8) 5 (w21.setCell ⟨gb278, 1, none⟩ (.slice Ao23 y282.length co23)) w.heap.size (fun k_ => some k_ ≠ (.slice Ao22 t279.length co22 : Value).ownBlock ∧ some k_ ≠ (.slice Ao23 y282.length co23 : Value).ownBlock) (.slice Ao13 t272.length co13) t272) := ⟨by (with_reducible repeat (first | apply Kd.R_alloc | apply Kd.R_drewN | apply Kd.R_drew)); exact Kd.R_mono (Kd.R_far (p := ⟨gb278, 1, none⟩) (Kd.R_types HO274.out BK278.out (by decide)) (fun _ hk => hk.2) (.slice Ao23 y282.length co23)) (fun _ hk => ⟨hk.1.1, hk.1.2⟩)⟩
  have n1_ : Aside0 (Kd.R (Kd.int .u8) 5 (w21.setCell ⟨gb278, 1, none⟩ (.slice Ao23 y282.length co23)) w.heap.size (fun k_ => some k_ ≠ (.slice Ao13 t272.length co13 : Value).ownBlock ∧ some k_ ≠ (.slice Ao23 y282.length co23 : Value).ownBlock) (.slice Ao22 t279.length co22) t279) := ⟨by (with_reducible repeat (first | apply Kd.R_alloc | apply Kd.R_drewN | apply Kd.R_drew)); exact Kd.R_mono (Kd.R_far (p := ⟨gb278, 1, none⟩) (Kd.R_types HO281.out BK278.out (by decide)) (fun _ hk => hk.2) (.slice Ao23 y282.length co23)) (fun _ hk => ⟨hk.1.1, hk.1.2⟩)⟩
  have n2_ : Aside0 (Kd.R (Kd.int .u8) 5 (w21.setCell ⟨gb278, 1, none⟩ (.slice Ao23 y282.length co23)) w.heap.size (fun k_ => some k_ ≠ (.slice Ao13 t272.length co13 : Value).ownBlock ∧ some k_ ≠ (.slice Ao22 t279.length co22 : Value).ownBlock) (.slice Ao23 y282.length co23) y282) := ⟨by (with_reducible repeat (first | apply Kd.R_alloc | apply Kd.R_drewN | apply Kd.R_drew)); exact Kd.R_mono (Kd.R_far (p := ⟨gb278, 1, none⟩) (Kd.R_types HO284.out BK278.out (by decide)) (fun _ hk => hk.2) (.slice Ao23 y282.length co23)) (fun _ hk => ⟨hk.1.1, hk.1.2⟩)⟩
  have n3_ : Aside0 ((w21.setCell ⟨gb278, 1, none⟩ (.slice Ao23 y282.length co23)).heap[gb270]? = some (.cells #[.slice A0_0 l0_0.length c0_0, .slice A0_1 l0_1.length c0_1] 27 (0, 0))) := ⟨by (with_reducible repeat (first | refine blk_drewN ?_ _ | refine blk_drew ?_ | refine blk_alloc ?_ _)); refine blk_far ?_ NB270_278.out _; (with_reducible repeat (first | refine blk_drewN ?_ _ | refine blk_drew ?_ | refine blk_alloc ?_ _)); exact BK270.out⟩
  have n4_ : Aside0 ((w21.setCell ⟨gb278, 1, none⟩ (.slice Ao23 y282.length co23)).heap[gb271]? = some (.cells #[.slice none 0 0, .slice none 0 0] 27 (0, 0))) := ⟨by (with_reducible repeat (first | refine blk_drewN ?_ _ | refine blk_drew ?_ | refine blk_alloc ?_ _)); refine blk_far ?_ NB271_278.out _; (with_reducible repeat (first | refine blk_drewN ?_ _ | refine blk_drew ?_ | refine blk_alloc ?_ _)); exact BK271.out⟩
  have n5_ : Aside0 ((w21.setCell ⟨gb278, 1, none⟩ (.slice Ao23 y282.length co23)).heap[gb278]? = some (.cells #[.slice Ao13 t272.length co13, .slice Ao23 y282.length co23] 27 (0, 0))) := ⟨by (with_reducible repeat (first | refine blk_drewN ?_ _ | refine blk_drew ?_ | refine blk_alloc ?_ _)); refine blk_put (cs := #[.slice Ao13 t272.length co13, .slice Ao17 t275.length co17]) ?_ 1 _ rfl; (with_reducible repeat (first | refine blk_drewN ?_ _ | refine blk_drew ?_ | refine blk_alloc ?_ _)); exact BK278.out⟩
  have n6_ : Aside0 (Below w.heap.size w (w21.setCell ⟨gb278, 1, none⟩ (.slice Ao23 y282.length co23))) := ⟨bq⟩
  (try clear HO274)
  (try clear HO281)
  (try clear HO284)
  (try clear BK270)
  (try clear BK271)
  (try clear BK278)
  (try clear HB)
  generalize (w21.setCell ⟨gb278, 1, none⟩ (.slice Ao23 y282.length co23)) = w25 at n0_ n1_ n2_ n3_ n4_ n5_ n6_ ⊢
  have HO274 := n0_
  have HO281 := n1_
  have HO284 := n2_
  have BK270 := n3_
  have BK271 := n4_
  have BK278 := n5_
  have HB := n6_
  clear n0_ n1_ n2_ n3_ n4_ n5_ n6_
  have n0_ := Aside0.mk (Kd.R_drew HO274.out)
  have n1_ := Aside0.mk (Kd.R_drew HO281.out)
  have n2_ := Aside0.mk (Kd.R_drew HO284.out)
  have n3_ := Aside0.mk (blk_drew BK270.out)
  have n4_ := Aside0.mk (blk_drew BK271.out)
  have n5_ := Aside0.mk (blk_drew BK278.out)
  have n6_ := Aside0.mk (below_drew1 HB.out)
  clear HO274
  clear HO281
  clear HO284
  clear BK270
  clear BK271
  clear BK278
  clear HB
  have HO274 := n0_
  have HO281 := n1_
  have HO284 := n2_
  have BK270 := n3_
  have BK271 := n4_
  have BK278 := n5_
  have HB := n6_
  clear n0_ n1_ n2_ n3_ n4_ n5_ n6_
  refine start_ (n := 5) (S := fun w' => w'.cell? ⟨gb278, 0, none⟩ = some (.slice Ao13 t272.length co13) ∧ w'.cell? ⟨gb278, 1, none⟩ = some (.slice Ao23 y282.length co23)) (ds := []) #[false, false, false, false, false] (by kernel_rfl) rfl rfl ⟨q_z BK278.out 0, q_z BK278.out 1⟩ (fun hHeld => ?_)
  generalize w25.drew = w26 at HO274 HO281 HO284 BK270 BK271 BK278 HB hHeld ⊢
  refine take_ (i := 0) (N := some 15) (v := ?_) (a' := ?_) #[true, false, false, false, false] rfl rfl (by kernel_rfl) (fun _ _ _ h => h) (Or.inl ⟨by rfl, ?_⟩) hHeld ?_ ?_
  rotate_left
  ·rintro w' ⟨s0, s1⟩
   go_simp
   with_reducible rfl
  rotate_left
  ·simp only [Act.put, List.setIfInBounds_toArray, List.set_cons_zero, List.set_cons_succ, i64_w, i32_w]
   rfl
  refine take_ (i := 1) (N := some 16) (v := ?_) (a' := ?_) #[true, true, false, false, false] rfl rfl (by kernel_rfl) (fun _ _ _ h => h) (Or.inl ⟨by rfl, ?_⟩) hHeld ?_ ?_
  rotate_left
  ·rintro w' ⟨s0, s1⟩
   go_simp
   with_reducible rfl
  rotate_left
  ·simp only [Act.put, List.setIfInBounds_toArray, List.set_cons_zero, List.set_cons_succ, i64_w, i32_w]
   rfl
  refine one_ (i := 2) (N := some 17) #[true, true, true, false, false] rfl rfl (by kernel_rfl) (by decide) (fun K hK => ?_)
  refine goes_ Try.func15 (by kernel_rfl) rfl #[.agg #[.slice Ao13 t272.length co13, .slice Ao23 y282.length co23]] (by rfl) rfl rfl (by (try simp only [List.map_toArray, List.map_cons, List.map_nil]); first | done | rfl | (simp only [List.length_drop, List.length_take]; rfl)) ?_
  with_reducible refine (spec_LogFault.calls _ _ t272 _ _ y282 t285 _ ?side1 ?side2 ?side3 ?side4 A6.out).mono ?_
  (case side1 => exact q_c ((Kd.R_reads' HO274.out).2.2))
  (case side2 => exact (Kd.R_reads' HO274.out).2.1)
  (case side3 => exact q_c ((Kd.R_reads' HO284.out).2.2))
  (case side4 => exact (Kd.R_reads' HO284.out).2.1)
  rintro e w27 ⟨rfl, hb⟩
  refine ⟨_, rfl, ?_⟩
  have n0_ := Aside0.mk (Kd.R_below (q_r (HO274.out)) hb)
  have n1_ := Aside0.mk (Kd.R_below (q_r (HO281.out)) hb)
  have n2_ := Aside0.mk (Kd.R_below (q_r (HO284.out)) hb)
  have n3_ := Aside0.mk (blk_below (q_b BK270.out) hb)
  have n4_ := Aside0.mk (blk_below (q_b BK271.out) hb)
  have n5_ := Aside0.mk (blk_below (q_b BK278.out) hb)
  have n6_ := Aside0.mk (below_step bq hb)
  clear HO274
  clear HO281
  clear HO284
  clear BK270
  clear BK271
  clear BK278
  clear HB
  have HO274 := n0_
  have HO281 := n1_
  have HO284 := n2_
  have BK270 := n3_
  have BK271 := n4_
  have BK278 := n5_
  have HB := n6_
  clear n0_ n1_ n2_ n3_ n4_ n5_ n6_
  (try clear hb)
  (try clear hb2)
  (try clear hk)
  (try clear hi)
  refine hK.out _ _ ⟨q_z BK278.out 0, q_z BK278.out 1⟩ (fun hHeld => ?_)
  clear hK K
  refine norm_ (a' := ?_) ?_ ?_
  rotate_left
  ·show Act.put _ (some 17) _ = _
   simp only [Act.put, List.setIfInBounds_toArray, List.set_cons_zero, List.set_cons_succ, i64_w, i32_w]
   rfl
  refine one_ (i := 3) (N := none) #[true, true, true, true, false] rfl rfl (by kernel_rfl) (by decide) (fun K hK => ?_)
  have hs28 : w27.cell? ⟨gb271, 0, none⟩ = some (.slice none 0 0) := (blk_cell BK271.out 0).trans rfl
  have hfs28 := blk_frozen BK271.out 0
  have hns28_0 := NB270_271.out
  have hns28_2 := NB278_271.out
  have hms28_0 := NB271_270.out
  have hms28_2 := NB271_278.out
  have hs29 : w27.cell? ⟨gb271, 1, none⟩ = some (.slice none 0 0) := (blk_cell BK271.out 1).trans rfl
  have hfs29 := blk_frozen BK271.out 1
  have hns29_0 := NB270_271.out
  have hns29_2 := NB278_271.out
  have hms29_0 := NB271_270.out
  have hms29_2 := NB271_278.out
  refine skip_ (w1 := ?_) (by rfl) rfl ?_ ?_
  rotate_left
  ·go_simp
   rfl
  refine hK.out _ _ ⟨((cell_far (p := ⟨gb271, _, none⟩) NB278_271.out _).trans (((cell_far (p := ⟨gb271, _, none⟩) NB278_271.out _).trans (hHeld.1)))), ((cell_far (p := ⟨gb271, _, none⟩) NB278_271.out _).trans (((cell_far (p := ⟨gb271, _, none⟩) NB278_271.out _).trans (hHeld.2))))⟩ (fun hHeld => ?_)
  clear hK K
  refine pure_ (i := 4) (N := some 5) (v := ?_) (a' := ?_) #[true, true, true, true, true] rfl rfl (by kernel_rfl) (fun _ _ _ h => h) (Or.inl ⟨by rfl, ?_⟩) ?_ ?_
  rotate_left
  ·intro w'
   go_simp
   with_reducible rfl
  rotate_left
  ·simp only [Act.put, List.setIfInBounds_toArray, List.set_cons_zero, List.set_cons_succ, i64_w, i32_w]
   rfl
  refine done_ (by kernel_rfl) ?_
  try go_wp2
  refine bodyPost_ret (results_ct rfl _ _ gb271 27 #[.slice Ao13 t272.length co13, .slice Ao23 y282.length co23] (0, 0) _ rfl (by (with_reducible repeat (first | refine blk_drewN ?_ _ | refine blk_drew ?_ | refine blk_alloc ?_ _)); refine blk_put (cs := #[.slice Ao13 t272.length co13, .slice none 0 0]) ?_ 1 _ rfl; (with_reducible repeat (first | refine blk_drewN ?_ _ | refine blk_drew ?_ | refine blk_alloc ?_ _)); refine blk_put (cs := #[.slice none 0 0, .slice none 0 0]) ?_ 0 _ rfl; (with_reducible repeat (first | refine blk_drewN ?_ _ | refine blk_drew ?_ | refine blk_alloc ?_ _)); exact BK271.out) Try.underlying27 rfl (by kernel_rfl)) rfl ?_
  exact ⟨_, _, q_e, by (with_reducible repeat (first | apply Kd.R_alloc | apply Kd.R_drewN | apply Kd.R_drew)); exact Kd.R_mono (Kd.R_far (p := ⟨gb271, 1, none⟩) (Kd.R_far (p := ⟨gb271, 0, none⟩) (Kd.R_types HO274.out BK271.out (by decide)) (fun _ hk => hk.2) (.slice Ao13 t272.length co13)) (fun _ hk => hk.2) (.slice Ao23 y282.length co23)) (fun _ hk => hk.1.2), by (with_reducible repeat (first | apply Kd.R_alloc | apply Kd.R_drewN | apply Kd.R_drew)); exact Kd.R_mono (Kd.R_far (p := ⟨gb271, 1, none⟩) (Kd.R_far (p := ⟨gb271, 0, none⟩) (Kd.R_types HO284.out BK271.out (by decide)) (fun _ hk => hk.2) (.slice Ao13 t272.length co13)) (fun _ hk => hk.2) (.slice Ao23 y282.length co23)) (fun _ hk => hk.1.1), bq⟩
 ·rw [if_neg c5] at H
  exact absurd H (by simp)

/-! ### spec_l1Chance: function 84 -/
def spec_l1Chance.f (s0_0 : List Int) (s0_1 : Int) (a1 : Int) : Option (Bool × Int) := (spec_l1Next.f s0_0 s0_1 a1).bind fun bt286 => (some ((bt286.1 == 0), bt286.2))
set_option maxHeartbeats 8000000 in
set_option maxRecDepth 100000 in
theorem spec_l1Chance.calls (g : Nat) (s0_0 : List Int) (s0_1 : Int) (a1 : Int) (r1 : Bool) (r2 : Int) (w0 w : World) (hI : IsS83 w0 w g s0_0 s0_1) (hB : Below w0.heap.size w0 w) (h : spec_l1Chance.f s0_0 s0_1 a1 = some (r1, r2)) :
  Calls Try.prog 84 #[.pointer (some ⟨g, 0, none⟩), .int .i64 a1] w fun e w' => e = .returned (.bool r1) ∧ IsS83 w0 w' g s0_0 r2 ∧ Below w0.heap.size w0 w' ∧ KeepBut w w' g none := by
 have HI0 := Aside0.mk hI
 have HK := Aside0.mk (KeepBut.refl w g none)
 have HL := Aside0.mk hB.size
 clear hI
 have HW0 := Aside0.mk hB.size
 have HB := Aside0.mk hB
 clear hB
 have H : ((spec_l1Next.f s0_0 s0_1 a1).bind fun bt286 => (some ((bt286.1 == 0), bt286.2))) = some (r1, r2) := h
 clear h
 replace H := Option.bind_eq_some_iff.mp H
 obtain ⟨⟨t286, t287⟩, A30, H⟩ := H
 replace H : (some ((t286 == 0), t287)) = some (r1, r2) := H
 have A3 := Aside0.mk A30
 clear A30
 simp only [Option.some.injEq, Prod.mk.injEq] at H
 obtain ⟨rfl, rfl⟩ := H
 go_enter Try.func84, Try.ntmps84
 go_wp2_with (first | ((with_reducible refine gate_callee (f := 76) rfl ?_); refine goesLq (some 7) rfl rfl Try.func76 (by kernel_rfl) rfl #[.pointer (some ⟨g, 0, none⟩), .int .i64 a1] rfl ?_; (with_reducible refine (spec_l1Next.calls g s0_0 s0_1 a1 t286 t287 w0 _ ?side1 ?side2 A3.out).mono ?_); (case side1 => repeat (first | (with_reducible first | exact HI0.out | apply IsS83.alloc | apply IsS83.drewN | apply IsS83.drew | apply IsS83.set_1) | exact HI0.out)); (case side2 => repeat (first | (with_reducible first | exact HB.out | apply below_alloc | apply pw_below_drewN | apply below_drew1 | refine below_set ?_ (IsS83.ge HI0.out)) | exact HB.out)); rintro e w4 ⟨rfl, hi, hb, hk⟩; refine ⟨_, rfl, ?_⟩; have n0_ := Aside0.mk (KeepBut.trans q_K hk (.inl rfl)); have n1_ := Aside0.mk (hb); have n2_ := Aside0.mk (hi); revert n0_ n1_ n2_; clear HK HB HI0; intro HK HB HI0; (try clear hb); (try clear hb2); (try clear hk); (try clear hi)))
 go_ret
 exact ⟨q_e, q_I83_0_1, q_B83_0, q_K⟩

end Go.Proofs.Ytcdpiejcdeedoaa.PFnCrashLogs
