/- The functions that a law reaches, each as a plain Lean function with the proof that the machine comes to its answer: written by program (the kit's print, turned by wip/gen). No conditions. -/
import Derived.Test.YtcdpiejcdeedoaaPFnAppendsx0
import Derived.Test.YtcdpiejcdeedoaaPFnAppendsx1
namespace Go.Proofs.Ytcdpiejcdeedoaa.PFnAppends
open Go.RowKit Go.Proofs.YtcdpiejcdeedoaaW.PrintWords Go.Proofs.YtcdpiejcdeedoaaW.PrintLast Go.Proofs.YtcdpiejcdeedoaaW.PrintMore
attribute [local go_sem] max2_int min2_int max_two min_two max_three min_three max_four min_four   -- for this text's walks alone
set_option linter.unusedVariables false
set_option linter.unusedSimpArgs false

/-! ### spec_l4Copy: function 83 -/
def spec_l4Copy.f (l0_0 : List Int) (l0_1 : List Int) : Option (List Int × List Int) := (some (([] : List Int) : List Int)).bind fun y143 => (if y143.length + l0_0.length < 140737488355328 then ((some (([] : List Int) : List Int)).bind fun y149 => (if y149.length + l0_1.length < 140737488355328 then (some ((y143 ++ l0_0), (y149 ++ l0_1))) else (none))) else (none))
def spec_l4Copy.T1 : Bool × List (List Nat × List Nat) := (true, [([], []), ([], []), ([1], [1]), ([0, 2], [0, 2]), ([], []), ([], []), ([5], [5]), ([4, 6, 3], [4, 6]), ([3, 7], [3, 7]), ([8, 7, 0, 1, 2, 3, 4, 5, 6, 7, 8], [8])])
def spec_l4Copy.B1 : List Nat := [0, 0, 2, 7, 0, 0, 32, 127, 255, 511]
theorem spec_l4Copy.tab1 : rtab .any (opsOf Try.f83 1) = spec_l4Copy.T1 := by kernel_rfl
theorem spec_l4Copy.bits1 : waitsOk spec_l4Copy.T1.2 spec_l4Copy.B1 = true := by kernel_rfl
set_option maxHeartbeats 8000000 in
set_option maxRecDepth 100000 in
theorem spec_l4Copy.calls (A0_0 : Option Addr) (c0_0 : Nat) (l0_0 : List Int) (A0_1 : Option Addr) (c0_1 : Nat) (l0_1 : List Int) (r1 : List Int) (r2 : List Int) (w : World) (hr0_0 : Kd.C (Kd.int .u8) w A0_0 l0_0.length l0_0) (hc0_0 : l0_0.length ≤ c0_0) (hr0_1 : Kd.C (Kd.int .u8) w A0_1 l0_1.length l0_1) (hc0_1 : l0_1.length ≤ c0_1) (h : spec_l4Copy.f l0_0 l0_1 = some (r1, r2)) :
  Calls Try.prog 83 #[.agg #[.slice A0_0 l0_0.length c0_0, .slice A0_1 l0_1.length c0_1]] w fun e w' => ∃ v0_ v1_ : Value, e = .returned (.agg #[v0_, v1_]) ∧ Kd.R (Kd.int .u8) 5 w' w.heap.size (fun k_ => some k_ ≠ (v1_ : Value).ownBlock) v0_ r1 ∧ Kd.R (Kd.int .u8) 5 w' w.heap.size (fun k_ => some k_ ≠ (v0_ : Value).ownBlock) v1_ r2 ∧ Below w.heap.size w w' := by
 have hu27 := Try.underlying27
 have HR0_0 := Aside0.mk hr0_0
 have HC0_0 := Aside0.mk hc0_0
 clear hr0_0 hc0_0
 have HR0_1 := Aside0.mk hr0_1
 have HC0_1 := Aside0.mk hc0_1
 clear hr0_1 hc0_1
 have HB := Aside0.mk (Below.refl w.heap.size w)
 have H : ((some (([] : List Int) : List Int)).bind fun y143 => (if y143.length + l0_0.length < 140737488355328 then ((some (([] : List Int) : List Int)).bind fun y149 => (if y149.length + l0_1.length < 140737488355328 then (some ((y143 ++ l0_0), (y149 ++ l0_1))) else (none))) else (none))) = some (r1, r2) := h
 clear h
 obtain ⟨y143, hy143⟩ : ∃ y_ : List Int, y_ = (([] : List Int)) := ⟨_, rfl⟩
 replace H : (if y143.length + l0_0.length < 140737488355328 then ((some (([] : List Int) : List Int)).bind fun y149 => (if y149.length + l0_1.length < 140737488355328 then (some ((y143 ++ l0_0), (y149 ++ l0_1))) else (none))) else (none)) = some (r1, r2) := q_h hy143 H
 have Ny143 := Aside0.mk hy143
 clear hy143
 by_cases c2 : y143.length + l0_0.length < 140737488355328
 ·rw [if_pos c2] at H
  have LMc2 := Aside0.mk c2
  clear c2
  obtain ⟨y146, hy146⟩ : ∃ y_ : List Int, y_ = (y143 ++ l0_0) := ⟨_, rfl⟩
  replace H : ((some (([] : List Int) : List Int)).bind fun y149 => (if y149.length + l0_1.length < 140737488355328 then (some (y146, (y149 ++ l0_1))) else (none))) = some (r1, r2) := q_h hy146 H
  have Ny146 := Aside0.mk hy146
  clear hy146
  obtain ⟨y149, hy149⟩ : ∃ y_ : List Int, y_ = (([] : List Int)) := ⟨_, rfl⟩
  replace H : (if y149.length + l0_1.length < 140737488355328 then (some (y146, (y149 ++ l0_1))) else (none)) = some (r1, r2) := q_h hy149 H
  have Ny149 := Aside0.mk hy149
  clear hy149
  by_cases c3 : y149.length + l0_1.length < 140737488355328
  ·rw [if_pos c3] at H
   have LMc3 := Aside0.mk c3
   clear c3
   obtain ⟨y152, hy152⟩ : ∃ y_ : List Int, y_ = (y149 ++ l0_1) := ⟨_, rfl⟩
   replace H : (some (y146, y152)) = some (r1, r2) := q_h hy152 H
   have Ny152 := Aside0.mk hy152
   clear hy152
   simp only [Option.some.injEq, Prod.mk.injEq] at H
   obtain ⟨rfl, rfl⟩ := H
   go_enter Try.func83, Try.ntmps83
   try go_wp2_with (first | ((with_reducible refine gate_dst (N := 1) rfl ?_); refine q_box (N := 1) (cs := #[.slice A0_0 l0_0.length c0_0, .slice A0_1 l0_1.length c0_1]) (t := 27) ?_; intro gb141 hg w4 hbox hb; have n0_ := Aside0.mk (below_step bq hb); have n1_ := Aside0.mk (hbox); have n2_ := Aside0.mk ((q_g hg bq : w.heap.size ≤ gb141)); have n3_ := Aside0.mk ((q_g hg bq : w.heap.size ≤ gb141)); revert n0_ n1_ n2_ n3_; clear HB; intro HB BK141 GW141 GE141; clear hb hbox hg) | ((with_reducible refine gate_dst (N := 2) rfl ?_); refine q_box (N := 2) (cs := #[.slice none 0 0, .slice none 0 0]) (t := 27) ?_; intro gb142 hg w5 hbox hb; have n0_ := Aside0.mk (blk_below (q_b BK141.out) hb); have n1_ := Aside0.mk (below_step bq hb); have n2_ := Aside0.mk (hbox); have n3_ := Aside0.mk ((q_g hg bq : w.heap.size ≤ gb142)); have n4_ := Aside0.mk ((q_g hg bq : w.heap.size ≤ gb142)); have n5_ := Aside0.mk ((q_n hg (q_b BK141.out) : gb141 ≠ gb142)); have n6_ := Aside0.mk ((q_m hg (q_b BK141.out) : gb142 ≠ gb141)); revert n0_ n1_ n2_ n3_ n4_ n5_ n6_; clear BK141 HB; intro BK141 HB BK142 GW142 GE142 NB141_142 NB142_141; clear hb hbox hg))
   have n0_ := Aside0.mk (blk_drew BK141.out)
   have n1_ := Aside0.mk (blk_drew BK142.out)
   have n2_ := Aside0.mk (below_drew1 HB.out)
   clear BK141
   clear BK142
   clear HB
   have BK141 := n0_
   have BK142 := n1_
   have HB := n2_
   clear n0_ n1_ n2_
   refine start_ (n := 10) (S := fun w' => w'.cell? ⟨gb141, 0, none⟩ = some (.slice A0_0 l0_0.length c0_0) ∧ w'.cell? ⟨gb141, 1, none⟩ = some (.slice A0_1 l0_1.length c0_1)) (ds := []) #[false, false, false, false, false, false, false, false, false, false] (by kernel_rfl) rfl rfl ⟨q_z BK141.out 0, q_z BK141.out 1⟩ (fun hHeld => ?_); refine with_tabW spec_l4Copy.tab1 spec_l4Copy.bits1 (fun HT_ HW_ => ?_)
   generalize w5.drew = w6 at BK141 BK142 HB hHeld ⊢
   refine q_p 1 (some 4) #[false, true, false, false, false, false, false, false, false, false] HT_.out ?_
   refine q_p 5 (some 8) #[false, true, false, false, false, true, false, false, false, false] HT_.out ?_
   refine q_t 2 (some 5) #[false, true, true, false, false, true, false, false, false, false] HT_.out HW_.out hHeld ?_
   refine q_t 6 (some 9) #[false, true, true, false, false, true, true, false, false, false] HT_.out HW_.out hHeld ?_
   refine join_ (σ := Value × Value × Value) 3 #[true, true, true, true, true, true, true, false, false, false] (fun s_ => [(3, s_.1), (6, s_.2.1), (7, s_.2.2)]) (fun s_ w' => (w'.cell? ⟨gb141, 0, none⟩ = some (.slice A0_0 l0_0.length c0_0) ∧ w'.cell? ⟨gb141, 1, none⟩ = some (.slice A0_1 l0_1.length c0_1)) ∧ (Kd.R (Kd.int .u8) 5 w' w.heap.size (fun k_ => some k_ ≠ (s_.2.2 : Value).ownBlock) s_.2.1 y146) ∧ (Kd.R (Kd.int .u8) 5 w' w.heap.size (fun k_ => some k_ ≠ (s_.2.1 : Value).ownBlock) s_.2.2 y149) ∧ (w'.heap[gb141]? = some (.cells #[.slice A0_0 l0_0.length c0_0, .slice A0_1 l0_1.length c0_1] 27 (0, 0))) ∧ (w'.heap[gb142]? = some (.cells #[.slice none 0 0, .slice none 0 0] 27 (0, 0))) ∧ (Below w.heap.size w w')) ?_ ?_
   rotate_left
   ·intro hCont
    refine two_ (i := 0) (j := 4) (Ni := some 3) (Nj := some 7) #[true, true, true, false, false, true, true, false, false, false] #[false, true, true, false, true, true, true, false, false, false] rfl rfl rfl rfl (two_of HT_.out (by kernel_rfl)) (by decide) (by decide) (fun K hK => ?_) (fun K hK => ?_)
    ·skip
     refine Kd.R_lit_step (Kd.int .u8) _ 5 ?hg (N := 3) ?hd (xs := ([] : List Int)) (inner := []) (ok := fun _ => True) (okp := fun _ => True) ?hr ?hp (fun _ hk => hk) trivial (Below.refl _ _) (Nat.le_refl _) (by simp) ?_; (case hd => rfl); (case hg => rfl); (case hr => first | (go_simp; done) | (go_simp; rfl)); (case hp => exact (Reps.none _ _))
     intro v144 w7 ho8 hb hg_ hnew_
     clear hg_ hnew_
     (first | rw [← Ny143.out] at ho8 | (simp only [Int.reduceToNat] at ho8; rw [← Ny143.out] at ho8))
     have n0_ := Aside0.mk (Kd.R_lower ho8 (below_size bq))
     have n1_ := Aside0.mk (blk_below (q_b BK141.out) hb)
     have n2_ := Aside0.mk (blk_below (q_b BK142.out) hb)
     have n3_ := Aside0.mk (below_step bq hb)
     clear BK141
     clear BK142
     clear HB
     have HO145 := n0_
     have BK141 := n1_
     have BK142 := n2_
     have HB := n3_
     clear n0_ n1_ n2_ n3_
     clear hb ho8
     refine hK.out _ _ ⟨q_z BK141.out 0, q_z BK141.out 1⟩ (fun hHeld => ?_)
     clear hK K
     refine norm_ (a' := ?_) ?_ ?_
     rotate_left
     ·show Act.put _ (some 3) _ = _
      simp only [Act.put, List.setIfInBounds_toArray, List.set_cons_zero, List.set_cons_succ, i64_w, i32_w]
      rfl
     refine two_ (i := 3) (j := 4) (Ni := some 6) (Nj := some 7) #[true, true, true, true, false, true, true, false, false, false] #[true, true, true, false, true, true, true, false, false, false] rfl rfl rfl rfl (two_of HT_.out (by kernel_rfl)) (by decide) (by decide) (fun K hK => ?_) (fun K hK => ?_)
     ·skip
      refine Kd.R_append_rows_step (Kd.int .u8) (w0 := w) w.heap.size (by rfl) (.tmp 3) (.tmp 5) 22 5 (.int .u8 0) 1 rfl Try.underlying22 info5 rfl (by decide) (by omega) v144 y143 l0_0 _ _ _ (fun _ => True) (fun _ => False) rfl rfl ?aO ?aR (fun _ _ h => h) (fun _ h => h.elim) ?aF ?aB ?aS ?aL ?_
      (case aR => repeat (first | exact (Kd.C_below HR0_0.out HB.out) | (with_reducible refine Kd.C_alloc ?_ _) | (with_reducible refine Kd.C_drewN ?_ _) | (with_reducible refine Kd.C_drew ?_)))
      (case aB => exact bq)
      (case aF => exact (fun _ _ => trivial))
      (case aO => exact (q_r (HO145.out)))
      (case aS => exact (below_size bq))
      (case aL => have := LMc2.out; omega)
      intro v147 w9 ho hb hg hat
      rw [← Ny146.out] at ho
      have n0_ := Aside0.mk (blk_grown (q_b BK141.out) hg (Kd.R_ne HO145.out BK141.out (by decide)))
      have n1_ := Aside0.mk (blk_grown (q_b BK142.out) hg (Kd.R_ne HO145.out BK142.out (by decide)))
      have n2_ := Aside0.mk (hb)
      have n3_ := Aside0.mk (ho)
      clear BK141
      clear BK142
      clear HB
      clear HO145
      have BK141 := n0_
      have BK142 := n1_
      have HB := n2_
      have HO148 := n3_
      clear n0_ n1_ n2_ n3_
      clear ho hb hg hat
      refine hK.out _ _ ⟨q_z BK141.out 0, q_z BK141.out 1⟩ (fun hHeld => ?_)
      clear hK K
      refine norm_ (a' := ?_) ?_ ?_
      rotate_left
      ·show Act.put _ (some 6) _ = _
       simp only [Act.put, List.setIfInBounds_toArray, List.set_cons_zero, List.set_cons_succ, i64_w, i32_w]
       rfl
      refine one_ (i := 4) (N := some 7) #[true, true, true, true, true, true, true, false, false, false] rfl rfl (one_of HT_.out (by kernel_rfl)) (by decide) (fun K hK => ?_)
      refine Kd.R_lit_step (Kd.int .u8) _ 5 ?hg (N := 7) ?hd (xs := ([] : List Int)) (inner := []) (ok := fun _ => True) (okp := fun _ => True) ?hr ?hp (fun _ hk => hk) trivial (Below.refl _ _) (Nat.le_refl _) (by simp) ?_; (case hd => rfl); (case hg => rfl); (case hr => first | (go_simp; done) | (go_simp; rfl)); (case hp => exact (Reps.none _ _))
      intro v150 w10 ho11 hb hg_ hnew_
      clear hg_ hnew_
      (first | rw [← Ny149.out] at ho11 | (simp only [Int.reduceToNat] at ho11; rw [← Ny149.out] at ho11))
      have n0_ := Aside0.mk (Kd.R_elder' (q_r (HO148.out)) (Kd.R_base ho11) hb)
      have n1_ := Aside0.mk (Kd.R_lower (Kd.R_new' ho11 (Kd.R_lt (q_r (HO148.out)))) (below_size bq))
      have n2_ := Aside0.mk (blk_below (q_b BK141.out) hb)
      have n3_ := Aside0.mk (blk_below (q_b BK142.out) hb)
      have n4_ := Aside0.mk (below_step bq hb)
      clear HO148
      clear BK141
      clear BK142
      clear HB
      have HO148 := n0_
      have HO151 := n1_
      have BK141 := n2_
      have BK142 := n3_
      have HB := n4_
      clear n0_ n1_ n2_ n3_ n4_
      clear hb ho11
      refine hK.out _ _ ⟨q_z BK141.out 0, q_z BK141.out 1⟩ (fun hHeld => ?_)
      clear hK K
      refine norm_ (a' := ?_) ?_ ?_
      rotate_left
      ·show Act.put _ (some 7) _ = _
       simp only [Act.put, List.setIfInBounds_toArray, List.set_cons_zero, List.set_cons_succ, i64_w, i32_w]
       rfl
      exact norm_ (by simp only [putAll, Act.put, List.setIfInBounds_toArray, List.set_cons_zero, List.set_cons_succ]) (hCont (v144, v147, v150) _ ⟨hHeld, (q_r (Kd.R_mono HO148.out (fun _ hk => hk.2))), (q_r (Kd.R_mono HO151.out (fun _ hk => hk.2))), kq, kq, bq⟩)
     ·skip
      refine Kd.R_lit_step (Kd.int .u8) _ 5 ?hg (N := 7) ?hd (xs := ([] : List Int)) (inner := []) (ok := fun _ => True) (okp := fun _ => True) ?hr ?hp (fun _ hk => hk) trivial (Below.refl _ _) (Nat.le_refl _) (by simp) ?_; (case hd => rfl); (case hg => rfl); (case hr => first | (go_simp; done) | (go_simp; rfl)); (case hp => exact (Reps.none _ _))
      intro v150 w9 ho10 hb hg_ hnew_
      clear hg_ hnew_
      (first | rw [← Ny149.out] at ho10 | (simp only [Int.reduceToNat] at ho10; rw [← Ny149.out] at ho10))
      have n0_ := Aside0.mk (Kd.R_elder' (q_r (HO145.out)) (Kd.R_base ho10) hb)
      have n1_ := Aside0.mk (Kd.R_lower (Kd.R_new' ho10 (Kd.R_lt (q_r (HO145.out)))) (below_size bq))
      have n2_ := Aside0.mk (blk_below (q_b BK141.out) hb)
      have n3_ := Aside0.mk (blk_below (q_b BK142.out) hb)
      have n4_ := Aside0.mk (below_step bq hb)
      clear HO145
      clear BK141
      clear BK142
      clear HB
      have HO145 := n0_
      have HO151 := n1_
      have BK141 := n2_
      have BK142 := n3_
      have HB := n4_
      clear n0_ n1_ n2_ n3_ n4_
      clear hb ho10
      refine hK.out _ _ ⟨q_z BK141.out 0, q_z BK141.out 1⟩ (fun hHeld => ?_)
      clear hK K
      refine norm_ (a' := ?_) ?_ ?_
      rotate_left
      ·show Act.put _ (some 7) _ = _
       simp only [Act.put, List.setIfInBounds_toArray, List.set_cons_zero, List.set_cons_succ, i64_w, i32_w]
       rfl
      refine one_ (i := 3) (N := some 6) #[true, true, true, true, true, true, true, false, false, false] rfl rfl (one_of HT_.out (by kernel_rfl)) (by decide) (fun K hK => ?_)
      refine Kd.R_append_rows_step (Kd.int .u8) (w0 := w) w.heap.size (by rfl) (.tmp 3) (.tmp 5) 22 5 (.int .u8 0) 1 rfl Try.underlying22 info5 rfl (by decide) (by omega) v144 y143 l0_0 _ _ _ (fun k_ => some k_ ≠ (v150 : Value).ownBlock) (fun _ => False) rfl rfl ?aO ?aR (fun _ _ h => h) (fun _ h => h.elim) ?aF ?aB ?aS ?aL ?_
      (case aR => repeat (first | exact (Kd.C_below HR0_0.out HB.out) | (with_reducible refine Kd.C_alloc ?_ _) | (with_reducible refine Kd.C_drewN ?_ _) | (with_reducible refine Kd.C_drew ?_)))
      (case aB => exact bq)
      (case aF => exact (fun k_ hk => Kd.fresh' (Kd.R_lt (q_r (HO151.out))) k_ hk))
      (case aO => exact (q_r (Kd.R_mono HO145.out (fun _ hk => hk.2))))
      (case aS => exact (below_size bq))
      (case aL => have := LMc2.out; omega)
      intro v147 w11 ho hb hg hat
      rw [← Ny146.out] at ho
      have n0_ := Aside0.mk (blk_grown (q_b BK141.out) hg (Kd.R_ne HO145.out BK141.out (by decide)))
      have n1_ := Aside0.mk (blk_grown (q_b BK142.out) hg (Kd.R_ne HO145.out BK142.out (by decide)))
      have n2_ := Aside0.mk (Kd.R_after (ok := (fun _ => True)) (q_r (HO151.out)) hg hat)
      have n3_ := Aside0.mk (hb)
      have n4_ := Aside0.mk (ho)
      clear BK141
      clear BK142
      clear HO151
      clear HB
      clear HO145
      have BK141 := n0_
      have BK142 := n1_
      have HO151 := n2_
      have HB := n3_
      have HO148 := n4_
      clear n0_ n1_ n2_ n3_ n4_
      clear ho hb hg hat
      refine hK.out _ _ ⟨q_z BK141.out 0, q_z BK141.out 1⟩ (fun hHeld => ?_)
      clear hK K
      refine norm_ (a' := ?_) ?_ ?_
      rotate_left
      ·show Act.put _ (some 6) _ = _
       simp only [Act.put, List.setIfInBounds_toArray, List.set_cons_zero, List.set_cons_succ, i64_w, i32_w]
       rfl
      exact norm_ (by simp only [putAll, Act.put, List.setIfInBounds_toArray, List.set_cons_zero, List.set_cons_succ]) (hCont (v144, v147, v150) _ ⟨hHeld, (q_r (HO148.out)), (q_r (Kd.R_mono HO151.out (fun _ hk => hk.2))), kq, kq, bq⟩)
    ·skip
     refine Kd.R_lit_step (Kd.int .u8) _ 5 ?hg (N := 7) ?hd (xs := ([] : List Int)) (inner := []) (ok := fun _ => True) (okp := fun _ => True) ?hr ?hp (fun _ hk => hk) trivial (Below.refl _ _) (Nat.le_refl _) (by simp) ?_; (case hd => rfl); (case hg => rfl); (case hr => first | (go_simp; done) | (go_simp; rfl)); (case hp => exact (Reps.none _ _))
     intro v150 w7 ho8 hb hg_ hnew_
     clear hg_ hnew_
     (first | rw [← Ny149.out] at ho8 | (simp only [Int.reduceToNat] at ho8; rw [← Ny149.out] at ho8))
     have n0_ := Aside0.mk (Kd.R_lower ho8 (below_size bq))
     have n1_ := Aside0.mk (blk_below (q_b BK141.out) hb)
     have n2_ := Aside0.mk (blk_below (q_b BK142.out) hb)
     have n3_ := Aside0.mk (below_step bq hb)
     clear BK141
     clear BK142
     clear HB
     have HO151 := n0_
     have BK141 := n1_
     have BK142 := n2_
     have HB := n3_
     clear n0_ n1_ n2_ n3_
     clear hb ho8
     refine hK.out _ _ ⟨q_z BK141.out 0, q_z BK141.out 1⟩ (fun hHeld => ?_)
     clear hK K
     refine norm_ (a' := ?_) ?_ ?_
     rotate_left
     ·show Act.put _ (some 7) _ = _
      simp only [Act.put, List.setIfInBounds_toArray, List.set_cons_zero, List.set_cons_succ, i64_w, i32_w]
      rfl
     refine one_ (i := 0) (N := some 3) #[true, true, true, false, true, true, true, false, false, false] rfl rfl (one_of HT_.out (by kernel_rfl)) (by decide) (fun K hK => ?_)
     refine Kd.R_lit_step (Kd.int .u8) _ 5 ?hg (N := 3) ?hd (xs := ([] : List Int)) (inner := []) (ok := fun _ => True) (okp := fun _ => True) ?hr ?hp (fun _ hk => hk) trivial (Below.refl _ _) (Nat.le_refl _) (by simp) ?_; (case hd => rfl); (case hg => rfl); (case hr => first | (go_simp; done) | (go_simp; rfl)); (case hp => exact (Reps.none _ _))
     intro v144 w9 ho10 hb hg_ hnew_
     clear hg_ hnew_
     (first | rw [← Ny143.out] at ho10 | (simp only [Int.reduceToNat] at ho10; rw [← Ny143.out] at ho10))
     have n0_ := Aside0.mk (Kd.R_elder' (q_r (HO151.out)) (Kd.R_base ho10) hb)
     have n1_ := Aside0.mk (Kd.R_lower (Kd.R_new' ho10 (Kd.R_lt (q_r (HO151.out)))) (below_size bq))
     have n2_ := Aside0.mk (blk_below (q_b BK141.out) hb)
     have n3_ := Aside0.mk (blk_below (q_b BK142.out) hb)
     have n4_ := Aside0.mk (below_step bq hb)
     clear HO151
     clear BK141
     clear BK142
     clear HB
     have HO151 := n0_
     have HO145 := n1_
     have BK141 := n2_
     have BK142 := n3_
     have HB := n4_
     clear n0_ n1_ n2_ n3_ n4_
     clear hb ho10
     refine hK.out _ _ ⟨q_z BK141.out 0, q_z BK141.out 1⟩ (fun hHeld => ?_)
     clear hK K
     refine norm_ (a' := ?_) ?_ ?_
     rotate_left
     ·show Act.put _ (some 3) _ = _
      simp only [Act.put, List.setIfInBounds_toArray, List.set_cons_zero, List.set_cons_succ, i64_w, i32_w]
      rfl
     refine one_ (i := 3) (N := some 6) #[true, true, true, true, true, true, true, false, false, false] rfl rfl (one_of HT_.out (by kernel_rfl)) (by decide) (fun K hK => ?_)
     refine Kd.R_append_rows_step (Kd.int .u8) (w0 := w) w.heap.size (by rfl) (.tmp 3) (.tmp 5) 22 5 (.int .u8 0) 1 rfl Try.underlying22 info5 rfl (by decide) (by omega) v144 y143 l0_0 _ _ _ (fun k_ => some k_ ≠ (v150 : Value).ownBlock) (fun _ => False) rfl rfl ?aO ?aR (fun _ _ h => h) (fun _ h => h.elim) ?aF ?aB ?aS ?aL ?_
     (case aR => repeat (first | exact (Kd.C_below HR0_0.out HB.out) | (with_reducible refine Kd.C_alloc ?_ _) | (with_reducible refine Kd.C_drewN ?_ _) | (with_reducible refine Kd.C_drew ?_)))
     (case aB => exact bq)
     (case aF => exact (fun k_ hk => Kd.fresh' (Kd.R_lt (q_r (HO151.out))) k_ hk))
     (case aO => exact (q_r (Kd.R_mono HO145.out (fun _ hk => hk.2))))
     (case aS => exact (below_size bq))
     (case aL => have := LMc2.out; omega)
     intro v147 w11 ho hb hg hat
     rw [← Ny146.out] at ho
     have n0_ := Aside0.mk (blk_grown (q_b BK141.out) hg (Kd.R_ne HO145.out BK141.out (by decide)))
     have n1_ := Aside0.mk (blk_grown (q_b BK142.out) hg (Kd.R_ne HO145.out BK142.out (by decide)))
     have n2_ := Aside0.mk (Kd.R_after (ok := (fun _ => True)) (q_r (HO151.out)) hg hat)
     have n3_ := Aside0.mk (hb)
     have n4_ := Aside0.mk (ho)
     clear BK141
     clear BK142
     clear HO151
     clear HB
     clear HO145
     have BK141 := n0_
     have BK142 := n1_
     have HO151 := n2_
     have HB := n3_
     have HO148 := n4_
     clear n0_ n1_ n2_ n3_ n4_
     clear ho hb hg hat
     refine hK.out _ _ ⟨q_z BK141.out 0, q_z BK141.out 1⟩ (fun hHeld => ?_)
     clear hK K
     refine norm_ (a' := ?_) ?_ ?_
     rotate_left
     ·show Act.put _ (some 6) _ = _
      simp only [Act.put, List.setIfInBounds_toArray, List.set_cons_zero, List.set_cons_succ, i64_w, i32_w]
      rfl
     exact norm_ (by simp only [putAll, Act.put, List.setIfInBounds_toArray, List.set_cons_zero, List.set_cons_succ]) (hCont (v144, v147, v150) _ ⟨hHeld, (q_r (HO148.out)), (q_r (Kd.R_mono HO151.out (fun _ hk => hk.2))), kq, kq, bq⟩)
   rintro ⟨v144, v147, v150⟩ w12 ⟨hS_, h0_, h1_, h2_, h3_, h4_⟩
   have n0_ : Aside0 (Kd.R (Kd.int .u8) 5 w12 w.heap.size (fun k_ => some k_ ≠ (v150 : Value).ownBlock) v147 y146) := ⟨h0_⟩
   have n1_ : Aside0 (Kd.R (Kd.int .u8) 5 w12 w.heap.size (fun k_ => some k_ ≠ (v147 : Value).ownBlock) v150 y149) := ⟨h1_⟩
   have n2_ : Aside0 (w12.heap[gb141]? = some (.cells #[.slice A0_0 l0_0.length c0_0, .slice A0_1 l0_1.length c0_1] 27 (0, 0))) := ⟨h2_⟩
   have n3_ : Aside0 (w12.heap[gb142]? = some (.cells #[.slice none 0 0, .slice none 0 0] 27 (0, 0))) := ⟨h3_⟩
   have n4_ : Aside0 (Below w.heap.size w w12) := ⟨h4_⟩
   clear BK141
   clear BK142
   clear HB
   clear h0_ h1_ h2_ h3_ h4_
   have HO148 := n0_
   have HO151 := n1_
   have BK141 := n2_
   have BK142 := n3_
   have HB := n4_
   clear n0_ n1_ n2_ n3_ n4_
   have hHeld : w12.cell? ⟨gb141, 0, none⟩ = some (.slice A0_0 l0_0.length c0_0) ∧ w12.cell? ⟨gb141, 1, none⟩ = some (.slice A0_1 l0_1.length c0_1) := hS_
   refine norm_ (a' := ?_) ?_ ?_
   rotate_left
   ·simp only [putAll, Act.put, List.setIfInBounds_toArray, List.set_cons_zero, List.set_cons_succ]
    rfl
   refine one_ (i := 7) (N := some 10) #[true, true, true, true, true, true, true, true, false, false] rfl rfl (one_of HT_.out (by kernel_rfl)) (by decide) (fun K hK => ?_)
   refine Kd.R_append_rows_step (Kd.int .u8) (w0 := w) w.heap.size (by rfl) (.tmp 7) (.tmp 9) 22 5 (.int .u8 0) 1 rfl Try.underlying22 info5 rfl (by decide) (by omega) v150 y149 l0_1 _ _ _ (fun k_ => some k_ ≠ (v147 : Value).ownBlock) (fun _ => False) rfl rfl ?aO ?aR (fun _ _ h => h) (fun _ h => h.elim) ?aF ?aB ?aS ?aL ?_
   (case aR => repeat (first | exact (Kd.C_below HR0_1.out HB.out) | (with_reducible refine Kd.C_alloc ?_ _) | (with_reducible refine Kd.C_drewN ?_ _) | (with_reducible refine Kd.C_drew ?_)))
   (case aB => exact bq)
   (case aF => exact (fun k_ hk => Kd.fresh' (Kd.R_lt (q_r (HO148.out))) k_ hk))
   (case aO => exact (q_r (HO151.out)))
   (case aS => exact (below_size bq))
   (case aL => have := LMc3.out; omega)
   intro v153 w13 ho hb hg hat
   rw [← Ny152.out] at ho
   have n0_ := Aside0.mk (blk_grown (q_b BK141.out) hg (Kd.R_ne HO151.out BK141.out (by decide)))
   have n1_ := Aside0.mk (blk_grown (q_b BK142.out) hg (Kd.R_ne HO151.out BK142.out (by decide)))
   have n2_ := Aside0.mk (Kd.R_after (ok := (fun _ => True)) (by (with_reducible repeat (first | apply Kd.R_alloc | apply Kd.R_drewN | apply Kd.R_drew)); exact Kd.R_mono HO148.out (fun _ hk => ⟨trivial, hk⟩)) hg hat)
   have n3_ := Aside0.mk (hb)
   have n4_ := Aside0.mk (ho)
   clear BK141
   clear BK142
   clear HO148
   clear HB
   clear HO151
   have BK141 := n0_
   have BK142 := n1_
   have HO148 := n2_
   have HB := n3_
   have HO154 := n4_
   clear n0_ n1_ n2_ n3_ n4_
   clear ho hb hg hat
   obtain ⟨Ao14, co14, eo14⟩ := Kd.R_slice HO154.out
   (first | subst eo14 | (injection eo14 with f1_ f2_ f3_; have f4_ := f1_.symm; have f5_ := f3_.symm; clear f1_ f2_ f3_; subst f4_; subst f5_))
   obtain ⟨Ao15, co15, eo15⟩ := Kd.R_slice HO148.out
   (first | subst eo15 | (injection eo15 with f1_ f2_ f3_; have f4_ := f1_.symm; have f5_ := f3_.symm; clear f1_ f2_ f3_; subst f4_; subst f5_))
   refine hK.out _ _ ⟨q_z BK141.out 0, q_z BK141.out 1⟩ (fun hHeld => ?_)
   clear hK K
   refine norm_ (a' := ?_) ?_ ?_
   rotate_left
   ·show Act.put _ (some 10) _ = _
    simp only [Act.put, List.setIfInBounds_toArray, List.set_cons_zero, List.set_cons_succ, i64_w, i32_w]
    rfl
   refine q_p 8 (some 11) #[true, true, true, true, true, true, true, true, true, false] HT_.out ?_
   refine one_ (i := 9) (N := none) #[true, true, true, true, true, true, true, true, true, true] rfl rfl (one_of HT_.out (by kernel_rfl)) (by decide) (fun K hK => ?_)
   have hs16 : w13.cell? ⟨gb142, 0, none⟩ = some (.slice none 0 0) := (blk_cell BK142.out 0).trans rfl
   have hfs16 := blk_frozen BK142.out 0
   have hns16_0 := NB141_142.out
   have hms16_0 := NB142_141.out
   have hs17 : w13.cell? ⟨gb142, 1, none⟩ = some (.slice none 0 0) := (blk_cell BK142.out 1).trans rfl
   have hfs17 := blk_frozen BK142.out 1
   have hns17_0 := NB141_142.out
   have hms17_0 := NB142_141.out
   refine skip_ (w1 := ?_) (by rfl) rfl ?_ ?_
   rotate_left
   ·go_simp
    rfl
   refine hK.out _ _ ⟨((cell_far (p := ⟨gb142, _, none⟩) NB141_142.out _).trans (((cell_far (p := ⟨gb142, _, none⟩) NB141_142.out _).trans (hHeld.1)))), ((cell_far (p := ⟨gb142, _, none⟩) NB141_142.out _).trans (((cell_far (p := ⟨gb142, _, none⟩) NB141_142.out _).trans (hHeld.2))))⟩ (fun hHeld => ?_)
   clear hK K
   refine done_ (done_of HT_.out (by kernel_rfl)) ?_
   try go_wp2
   refine bodyPost_ret (results_cell_row rfl _ _ gb142 27 #[.slice Ao15 y146.length co15, .slice Ao14 y152.length co14] (0, 0) _ rfl (by (with_reducible repeat (first | refine blk_drewN ?_ _ | refine blk_drew ?_ | refine blk_alloc ?_ _)); refine blk_put (cs := #[.slice Ao15 y146.length co15, .slice none 0 0]) ?_ 1 _ rfl; (with_reducible repeat (first | refine blk_drewN ?_ _ | refine blk_drew ?_ | refine blk_alloc ?_ _)); refine blk_put (cs := #[.slice none 0 0, .slice none 0 0]) ?_ 0 _ rfl; (with_reducible repeat (first | refine blk_drewN ?_ _ | refine blk_drew ?_ | refine blk_alloc ?_ _)); exact BK142.out) Try.underlying27 rfl (by kernel_rfl)) rfl ?_
   exact ⟨_, _, q_e, by (with_reducible repeat (first | apply Kd.R_alloc | apply Kd.R_drewN | apply Kd.R_drew)); exact Kd.R_mono (Kd.R_far (p := ⟨gb142, 1, none⟩) (Kd.R_far (p := ⟨gb142, 0, none⟩) (Kd.R_types HO148.out BK142.out (by decide)) (fun _ hk => hk.2) (.slice Ao15 y146.length co15)) (fun _ hk => hk.2) (.slice Ao14 y152.length co14)) (fun _ hk => hk.1.2), by (with_reducible repeat (first | apply Kd.R_alloc | apply Kd.R_drewN | apply Kd.R_drew)); exact Kd.R_mono (Kd.R_far (p := ⟨gb142, 1, none⟩) (Kd.R_far (p := ⟨gb142, 0, none⟩) (Kd.R_types HO154.out BK142.out (by decide)) (fun _ hk => hk.2) (.slice Ao15 y146.length co15)) (fun _ hk => hk.2) (.slice Ao14 y152.length co14)) (fun _ hk => hk.1), bq⟩
  ·rw [if_neg c3] at H
   exact absurd H (by simp)
 ·rw [if_neg c2] at H
  exact absurd H (by simp)

/-! ### spec_l4Append: function 71 -/
def spec_l4Append.f (k : Nat) (l0_0 : List Int) (l0_1 : List Int) (l1 : List Int) : Option (List Int × List Int × Int) := (spec_l4Copy.f l0_0 l0_1).bind fun bt157 => ((spec_l3Frame.f k l1).bind fun t164 => (if bt157.2.length + t164.length < 140737488355328 then ((some (bt157.2 ++ t164 : List Int)).bind fun y167 => ((spec_LogFault.f bt157.1 y167).bind fun t170 => (some (bt157.1, y167, t170)))) else (none)))
set_option maxHeartbeats 8000000 in
set_option maxRecDepth 100000 in
theorem spec_l4Append.calls (k : Nat) (A0_0 : Option Addr) (c0_0 : Nat) (l0_0 : List Int) (A0_1 : Option Addr) (c0_1 : Nat) (l0_1 : List Int) (A1 : Option Addr) (c1 : Nat) (l1 : List Int) (r1 : List Int) (r2 : List Int) (r3 : Int) (w : World) (hr0_0 : Kd.C (Kd.int .u8) w A0_0 l0_0.length l0_0) (hc0_0 : l0_0.length ≤ c0_0) (hr0_1 : Kd.C (Kd.int .u8) w A0_1 l0_1.length l0_1) (hc0_1 : l0_1.length ≤ c0_1) (hr1 : Kd.C (Kd.int .u8) w A1 l1.length l1) (hc1 : l1.length ≤ c1) (h : spec_l4Append.f k l0_0 l0_1 l1 = some (r1, r2, r3)) :
  Calls Try.prog 71 #[.agg #[.slice A0_0 l0_0.length c0_0, .slice A0_1 l0_1.length c0_1], .slice A1 l1.length c1] w fun e w' => ∃ v0_ v1_ : Value, e = .returned (.tuple #[.agg #[v0_, v1_], .int .i64 r3]) ∧ Kd.R (Kd.int .u8) 5 w' w.heap.size (fun k_ => some k_ ≠ (v1_ : Value).ownBlock) v0_ r1 ∧ Kd.R (Kd.int .u8) 5 w' w.heap.size (fun k_ => some k_ ≠ (v0_ : Value).ownBlock) v1_ r2 ∧ Below w.heap.size w w' := by
 have hu27 := Try.underlying27
 have HR0_0 := Aside0.mk hr0_0
 have HC0_0 := Aside0.mk hc0_0
 clear hr0_0 hc0_0
 have HR0_1 := Aside0.mk hr0_1
 have HC0_1 := Aside0.mk hc0_1
 clear hr0_1 hc0_1
 have HR1 := Aside0.mk hr1
 have HC1 := Aside0.mk hc1
 clear hr1 hc1
 have HB := Aside0.mk (Below.refl w.heap.size w)
 have H : ((spec_l4Copy.f l0_0 l0_1).bind fun bt157 => ((spec_l3Frame.f k l1).bind fun t164 => (if bt157.2.length + t164.length < 140737488355328 then ((some (bt157.2 ++ t164 : List Int)).bind fun y167 => ((spec_LogFault.f bt157.1 y167).bind fun t170 => (some (bt157.1, y167, t170)))) else (none)))) = some (r1, r2, r3) := h
 clear h
 replace H := Option.bind_eq_some_iff.mp H
 obtain ⟨⟨t157, t160⟩, A30, H⟩ := H
 replace H : ((spec_l3Frame.f k l1).bind fun t164 => (if t160.length + t164.length < 140737488355328 then ((some (t160 ++ t164 : List Int)).bind fun y167 => ((spec_LogFault.f t157 y167).bind fun t170 => (some (t157, y167, t170)))) else (none))) = some (r1, r2, r3) := H
 have A3 := Aside0.mk A30
 clear A30
 replace H := Option.bind_eq_some_iff.mp H
 obtain ⟨t164, A40, H⟩ := H
 replace H : (if t160.length + t164.length < 140737488355328 then ((some (t160 ++ t164 : List Int)).bind fun y167 => ((spec_LogFault.f t157 y167).bind fun t170 => (some (t157, y167, t170)))) else (none)) = some (r1, r2, r3) := H
 have A4 := Aside0.mk A40
 clear A40
 by_cases c5 : t160.length + t164.length < 140737488355328
 ·rw [if_pos c5] at H
  have LMc5 := Aside0.mk c5
  clear c5
  obtain ⟨y167, hy167⟩ : ∃ y_ : List Int, y_ = (t160 ++ t164) := ⟨_, rfl⟩
  replace H : ((spec_LogFault.f t157 y167).bind fun t170 => (some (t157, y167, t170))) = some (r1, r2, r3) := q_h hy167 H
  have Ny167 := Aside0.mk hy167
  clear hy167
  replace H := Option.bind_eq_some_iff.mp H
  obtain ⟨t170, A60, H⟩ := H
  replace H : (some (t157, y167, t170)) = some (r1, r2, r3) := H
  have A6 := Aside0.mk A60
  clear A60
  simp only [Option.some.injEq, Prod.mk.injEq] at H
  obtain ⟨rfl, rfl, rfl⟩ := H
  go_enter Try.func71, Try.ntmps71
  try go_wp2_with (first | ((with_reducible refine gate_dst (N := 2) rfl ?_); refine q_box (N := 2) (cs := #[.slice A0_0 l0_0.length c0_0, .slice A0_1 l0_1.length c0_1]) (t := 27) ?_; intro gb155 hg w7 hbox hb; have n0_ := Aside0.mk (below_step bq hb); have n1_ := Aside0.mk (hbox); have n2_ := Aside0.mk ((q_g hg bq : w.heap.size ≤ gb155)); have n3_ := Aside0.mk ((q_g hg bq : w.heap.size ≤ gb155)); revert n0_ n1_ n2_ n3_; clear HB; intro HB BK155 GW155 GE155; clear hb hbox hg) | ((with_reducible refine gate_dst (N := 4) rfl ?_); refine q_box (N := 4) (cs := #[.slice none 0 0, .slice none 0 0]) (t := 27) ?_; intro gb156 hg w8 hbox hb; have n0_ := Aside0.mk (blk_below (q_b BK155.out) hb); have n1_ := Aside0.mk (below_step bq hb); have n2_ := Aside0.mk (hbox); have n3_ := Aside0.mk ((q_g hg bq : w.heap.size ≤ gb156)); have n4_ := Aside0.mk ((q_g hg bq : w.heap.size ≤ gb156)); have n5_ := Aside0.mk ((q_n hg (q_b BK155.out) : gb155 ≠ gb156)); have n6_ := Aside0.mk ((q_m hg (q_b BK155.out) : gb156 ≠ gb155)); revert n0_ n1_ n2_ n3_ n4_ n5_ n6_; clear BK155 HB; intro BK155 HB BK156 GW156 GE156 NB155_156 NB156_155; clear hb hbox hg; have hnb9 := NB155_156.out; have hnc9 := NB156_155.out; obtain ⟨hcz10_0, hcz10_1, hfz10_0, hfz10_1⟩ := q_2 BK155.out) | ((with_reducible refine gate_callee (f := 83) rfl ?_); refine goesLq (some 8) rfl rfl Try.func83 (by kernel_rfl) rfl #[.agg #[.slice A0_0 l0_0.length c0_0, .slice A0_1 l0_1.length c0_1]] rfl ?_; (with_reducible refine (spec_l4Copy.calls _ _ l0_0 _ _ l0_1 t157 t160 _ ?side1 ?side2 ?side3 ?side4 A3.out).mono ?_); (case side1 => exact q_c ((Kd.C_below HR0_0.out HB.out))); (case side2 => exact HC0_0.out); (case side3 => exact q_c ((Kd.C_below HR0_1.out HB.out))); (case side4 => exact HC0_1.out); rintro e w11 ⟨v158, v161, rfl, ho0, ho1, hb⟩; refine ⟨_, rfl, ?_⟩; have n0_ := Aside0.mk (Kd.R_lower ho0 (below_size bq)); have n1_ := Aside0.mk (Kd.R_lower ho1 (below_size bq)); have n2_ := Aside0.mk (blk_below (q_b BK155.out) hb); have n3_ := Aside0.mk (blk_below (q_b BK156.out) hb); have n4_ := Aside0.mk (below_step bq hb); revert n0_ n1_ n2_ n3_ n4_; clear BK155 BK156 HB; intro HO159 HO162 BK155 BK156 HB; (try clear hb); (try clear hb2); (try clear hk); (try clear hi); (try clear ho0); (try clear ho1)) | ((with_reducible refine gate_dst (N := 6) rfl ?_); refine q_box (N := 6) (cs := #[.slice none 0 0, .slice none 0 0]) (t := 27) ?_; intro gb163 hg w12 hbox hb; have n0_ := Aside0.mk (Kd.R_below (q_r (HO159.out)) hb); have n1_ := Aside0.mk (Kd.R_below (q_r (HO162.out)) hb); have n2_ := Aside0.mk (blk_below (q_b BK155.out) hb); have n3_ := Aside0.mk (blk_below (q_b BK156.out) hb); have n4_ := Aside0.mk (below_step bq hb); have n5_ := Aside0.mk (hbox); have n6_ := Aside0.mk ((q_g hg bq : w.heap.size ≤ gb163)); have n7_ := Aside0.mk ((q_g hg bq : w.heap.size ≤ gb163)); have n8_ := Aside0.mk ((q_n hg (q_b BK155.out) : gb155 ≠ gb163)); have n9_ := Aside0.mk ((q_m hg (q_b BK155.out) : gb163 ≠ gb155)); have n10_ := Aside0.mk ((q_n hg (q_b BK156.out) : gb156 ≠ gb163)); have n11_ := Aside0.mk ((q_m hg (q_b BK156.out) : gb163 ≠ gb156)); revert n0_ n1_ n2_ n3_ n4_ n5_ n6_ n7_ n8_ n9_ n10_ n11_; clear HO159 HO162 BK155 BK156 HB; intro HO159 HO162 BK155 BK156 HB BK163 GW163 GE163 NB155_163 NB163_155 NB156_163 NB163_156; clear hb hbox hg; obtain ⟨Ao13, co13, eo13⟩ := Kd.R_slice HO159.out; subst eo13; have hnb14 := NB163_155.out; have hnc14 := NB155_163.out; have hnb15 := NB163_156.out; have hnc15 := NB156_163.out; obtain ⟨hcz16_0, hcz16_1, hfz16_0, hfz16_1⟩ := q_2 BK163.out; obtain ⟨Ao17, co17, eo17⟩ := Kd.R_slice HO162.out; subst eo17))
  have n0_ : Aside0 (Kd.R (Kd.int .u8) 5 ((w12.setCell ⟨gb163, 0, none⟩ (.slice Ao13 t157.length co13)).setCell ⟨gb163, 1, none⟩ (.slice Ao17 t160.length co17)) w.heap.size (fun k_ => some k_ ≠ (.slice Ao17 t160.length co17 : Value).ownBlock) (.slice Ao13 t157.length co13) t157) := ⟨by (with_reducible repeat (first | apply Kd.R_alloc | apply Kd.R_drewN | apply Kd.R_drew)); exact Kd.R_mono (Kd.R_far (p := ⟨gb163, 1, none⟩) (Kd.R_far (p := ⟨gb163, 0, none⟩) (Kd.R_types HO159.out BK163.out (by decide)) (fun _ hk => hk.2) (.slice Ao13 t157.length co13)) (fun _ hk => hk.2) (.slice Ao17 t160.length co17)) (fun _ hk => hk.1)⟩
  have n1_ : Aside0 (Kd.R (Kd.int .u8) 5 ((w12.setCell ⟨gb163, 0, none⟩ (.slice Ao13 t157.length co13)).setCell ⟨gb163, 1, none⟩ (.slice Ao17 t160.length co17)) w.heap.size (fun k_ => some k_ ≠ (.slice Ao13 t157.length co13 : Value).ownBlock) (.slice Ao17 t160.length co17) t160) := ⟨by (with_reducible repeat (first | apply Kd.R_alloc | apply Kd.R_drewN | apply Kd.R_drew)); exact Kd.R_mono (Kd.R_far (p := ⟨gb163, 1, none⟩) (Kd.R_far (p := ⟨gb163, 0, none⟩) (Kd.R_types HO162.out BK163.out (by decide)) (fun _ hk => hk.2) (.slice Ao13 t157.length co13)) (fun _ hk => hk.2) (.slice Ao17 t160.length co17)) (fun _ hk => hk.1)⟩
  have n2_ : Aside0 (((w12.setCell ⟨gb163, 0, none⟩ (.slice Ao13 t157.length co13)).setCell ⟨gb163, 1, none⟩ (.slice Ao17 t160.length co17)).heap[gb155]? = some (.cells #[.slice A0_0 l0_0.length c0_0, .slice A0_1 l0_1.length c0_1] 27 (0, 0))) := ⟨by (with_reducible repeat (first | refine blk_drewN ?_ _ | refine blk_drew ?_ | refine blk_alloc ?_ _)); refine blk_far ?_ NB155_163.out _; (with_reducible repeat (first | refine blk_drewN ?_ _ | refine blk_drew ?_ | refine blk_alloc ?_ _)); refine blk_far ?_ NB155_163.out _; (with_reducible repeat (first | refine blk_drewN ?_ _ | refine blk_drew ?_ | refine blk_alloc ?_ _)); exact BK155.out⟩
  have n3_ : Aside0 (((w12.setCell ⟨gb163, 0, none⟩ (.slice Ao13 t157.length co13)).setCell ⟨gb163, 1, none⟩ (.slice Ao17 t160.length co17)).heap[gb156]? = some (.cells #[.slice none 0 0, .slice none 0 0] 27 (0, 0))) := ⟨by (with_reducible repeat (first | refine blk_drewN ?_ _ | refine blk_drew ?_ | refine blk_alloc ?_ _)); refine blk_far ?_ NB156_163.out _; (with_reducible repeat (first | refine blk_drewN ?_ _ | refine blk_drew ?_ | refine blk_alloc ?_ _)); refine blk_far ?_ NB156_163.out _; (with_reducible repeat (first | refine blk_drewN ?_ _ | refine blk_drew ?_ | refine blk_alloc ?_ _)); exact BK156.out⟩
  have n4_ : Aside0 (((w12.setCell ⟨gb163, 0, none⟩ (.slice Ao13 t157.length co13)).setCell ⟨gb163, 1, none⟩ (.slice Ao17 t160.length co17)).heap[gb163]? = some (.cells #[.slice Ao13 t157.length co13, .slice Ao17 t160.length co17] 27 (0, 0))) := ⟨by (with_reducible repeat (first | refine blk_drewN ?_ _ | refine blk_drew ?_ | refine blk_alloc ?_ _)); refine blk_put (cs := #[.slice Ao13 t157.length co13, .slice none 0 0]) ?_ 1 _ rfl; (with_reducible repeat (first | refine blk_drewN ?_ _ | refine blk_drew ?_ | refine blk_alloc ?_ _)); refine blk_put (cs := #[.slice none 0 0, .slice none 0 0]) ?_ 0 _ rfl; (with_reducible repeat (first | refine blk_drewN ?_ _ | refine blk_drew ?_ | refine blk_alloc ?_ _)); exact BK163.out⟩
  have n5_ : Aside0 (Below w.heap.size w ((w12.setCell ⟨gb163, 0, none⟩ (.slice Ao13 t157.length co13)).setCell ⟨gb163, 1, none⟩ (.slice Ao17 t160.length co17))) := ⟨bq⟩
  (try clear HO159)
  (try clear HO162)
  (try clear BK155)
  (try clear BK156)
  (try clear BK163)
  (try clear HB)
  generalize ((w12.setCell ⟨gb163, 0, none⟩ (.slice Ao13 t157.length co13)).setCell ⟨gb163, 1, none⟩ (.slice Ao17 t160.length co17)) = w18 at n0_ n1_ n2_ n3_ n4_ n5_ ⊢
  have HO159 := n0_
  have HO162 := n1_
  have BK155 := n2_
  have BK156 := n3_
  have BK163 := n4_
  have HB := n5_
  clear n0_ n1_ n2_ n3_ n4_ n5_
  have n0_ := Aside0.mk (Kd.R_drew HO159.out)
  have n1_ := Aside0.mk (Kd.R_drew HO162.out)
  have n2_ := Aside0.mk (blk_drew BK155.out)
  have n3_ := Aside0.mk (blk_drew BK156.out)
  have n4_ := Aside0.mk (blk_drew BK163.out)
  have n5_ := Aside0.mk (below_drew1 HB.out)
  clear HO159
  clear HO162
  clear BK155
  clear BK156
  clear BK163
  clear HB
  have HO159 := n0_
  have HO162 := n1_
  have BK155 := n2_
  have BK156 := n3_
  have BK163 := n4_
  have HB := n5_
  clear n0_ n1_ n2_ n3_ n4_ n5_
  refine start_ (n := 7) (S := fun w' => w'.cell? ⟨gb163, 0, none⟩ = some (.slice Ao13 t157.length co13) ∧ w'.cell? ⟨gb163, 1, none⟩ = some (.slice Ao17 t160.length co17)) (ds := [6]) #[false, false, false, false, false, false, false] (by kernel_rfl) rfl rfl ⟨q_z BK163.out 0, q_z BK163.out 1⟩ (fun hHeld => ?_)
  generalize w18.drew = w19 at HO159 HO162 BK155 BK156 BK163 HB hHeld ⊢
  refine pure_ (i := 0) (N := some 9) (v := ?_) (a' := ?_) #[true, false, false, false, false, false, false] rfl rfl (by kernel_rfl) (fun _ _ _ h => h) (Or.inl ⟨by rfl, ?_⟩) ?_ ?_
  rotate_left
  ·intro w'
   go_simp
   with_reducible rfl
  rotate_left
  ·simp only [Act.put, List.setIfInBounds_toArray, List.set_cons_zero, List.set_cons_succ, i64_w, i32_w]
   rfl
  refine pure_ (i := 2) (N := some 11) (v := ?_) (a' := ?_) #[true, false, true, false, false, false, false] rfl rfl (by kernel_rfl) (fun _ _ _ h => h) (Or.inl ⟨by rfl, ?_⟩) ?_ ?_
  rotate_left
  ·intro w'
   go_simp
   with_reducible rfl
  rotate_left
  ·simp only [Act.put, List.setIfInBounds_toArray, List.set_cons_zero, List.set_cons_succ, i64_w, i32_w]
   rfl
  refine take_ (i := 1) (N := some 10) (v := ?_) (a' := ?_) #[true, true, true, false, false, false, false] rfl rfl (by kernel_rfl) (fun _ _ _ h => h) (Or.inl ⟨by rfl, ?_⟩) hHeld ?_ ?_
  rotate_left
  ·rintro w' ⟨s0, s1⟩
   go_simp
   with_reducible rfl
  rotate_left
  ·simp only [Act.put, List.setIfInBounds_toArray, List.set_cons_zero, List.set_cons_succ, i64_w, i32_w]
   rfl
  refine one_ (i := 3) (N := some 12) #[true, true, true, true, false, false, false] rfl rfl (by kernel_rfl) (by decide) (fun K hK => ?_)
  refine goes_ Try.func52 (by kernel_rfl) rfl #[.slice A1 l1.length c1] (by rfl) rfl rfl (by (try simp only [List.map_toArray, List.map_cons, List.map_nil]); first | done | rfl | (simp only [List.length_drop, List.length_take]; rfl)) ?_
  with_reducible refine (spec_l3Frame.calls k _ _ l1 t164 _ ?side1 ?side2 A4.out).mono ?_
  (case side1 => exact q_c ((Kd.C_below HR1.out HB.out)))
  (case side2 => exact HC1.out)
  rintro e w20 ⟨v165, rfl, ho0, hb⟩
  refine ⟨_, rfl, ?_⟩
  have n0_ := Aside0.mk (Kd.R_elder' (q_r (HO159.out)) (Kd.R_base ho0) hb)
  have n1_ := Aside0.mk (Kd.R_elder' (q_r (HO162.out)) (Kd.R_base ho0) hb)
  have n2_ := Aside0.mk (Kd.R_lower (Kd.R_new' (Kd.R_new' ho0 (Kd.R_lt (q_r (HO159.out)))) (Kd.R_lt (q_r (HO162.out)))) (below_size bq))
  have n3_ := Aside0.mk (blk_below (q_b BK155.out) hb)
  have n4_ := Aside0.mk (blk_below (q_b BK156.out) hb)
  have n5_ := Aside0.mk (blk_below (q_b BK163.out) hb)
  have n6_ := Aside0.mk (below_step bq hb)
  clear HO159
  clear HO162
  clear BK155
  clear BK156
  clear BK163
  clear HB
  have HO159 := n0_
  have HO162 := n1_
  have HO166 := n2_
  have BK155 := n3_
  have BK156 := n4_
  have BK163 := n5_
  have HB := n6_
  clear n0_ n1_ n2_ n3_ n4_ n5_ n6_
  (try clear hb)
  (try clear hb2)
  (try clear hk)
  (try clear hi)
  (try clear ho0)
  obtain ⟨Ao22, co22, eo22⟩ := Kd.R_slice HO166.out
  (first | subst eo22 | (injection eo22 with f1_ f2_ f3_; have f4_ := f1_.symm; have f5_ := f3_.symm; clear f1_ f2_ f3_; subst f4_; subst f5_))
  refine hK.out _ _ ⟨q_z BK163.out 0, q_z BK163.out 1⟩ (fun hHeld => ?_)
  clear hK K
  refine norm_ (a' := ?_) ?_ ?_
  rotate_left
  ·show Act.put _ (some 12) _ = _
   simp only [Act.put, List.setIfInBounds_toArray, List.set_cons_zero, List.set_cons_succ, i64_w, i32_w]
   rfl
  refine one_ (i := 4) (N := some 13) #[true, true, true, true, true, false, false] rfl rfl (by kernel_rfl) (by decide) (fun K hK => ?_)
  refine Kd.R_append_rows_step (Kd.int .u8) (w0 := w) w.heap.size (by rfl) (.tmp 10) (.tmp 12) 22 5 (.int .u8 0) 1 rfl Try.underlying22 info5 rfl (by decide) (by omega) (.slice Ao17 t160.length co17) t160 t164 _ _ _ (fun k_ => some k_ ≠ (.slice Ao13 t157.length co13 : Value).ownBlock ∧ some k_ ≠ (.slice Ao22 t164.length co22 : Value).ownBlock) (fun _ => False) rfl rfl ?aO ?aR (fun _ _ h => h) (fun _ h => h.elim) ?aF ?aB ?aS ?aL ?_
  (case aR => repeat (first | exact (Kd.R_reads' HO166.out).2.2 | (with_reducible refine Kd.C_alloc ?_ _) | (with_reducible refine Kd.C_drewN ?_ _) | (with_reducible refine Kd.C_drew ?_)))
  (case aB => exact bq)
  (case aF => exact (fun k_ hk => ⟨Kd.fresh' (Kd.R_lt (q_r (HO159.out))) k_ hk, Kd.fresh' (Kd.R_lt (q_r (HO166.out))) k_ hk⟩))
  (case aO => exact (q_r (HO162.out)))
  (case aS => exact (below_size bq))
  (case aL => have := LMc5.out; omega)
  intro v168 w21 ho hb hg hat
  rw [← Ny167.out] at ho
  have n0_ := Aside0.mk (blk_grown (q_b BK155.out) hg (Kd.R_ne HO162.out BK155.out (by decide)))
  have n1_ := Aside0.mk (blk_grown (q_b BK156.out) hg (Kd.R_ne HO162.out BK156.out (by decide)))
  have n2_ := Aside0.mk (Kd.R_after (ok := (fun k_ => some k_ ≠ (.slice Ao22 t164.length co22 : Value).ownBlock)) (by (with_reducible repeat (first | apply Kd.R_alloc | apply Kd.R_drewN | apply Kd.R_drew)); exact Kd.R_mono HO159.out (fun _ hk => ⟨hk.2, hk.1⟩)) hg hat)
  have n3_ := Aside0.mk (blk_grown (q_b BK163.out) hg (Kd.R_ne HO162.out BK163.out (by decide)))
  have n4_ := Aside0.mk (Kd.R_after (ok := (fun k_ => some k_ ≠ (.slice Ao13 t157.length co13 : Value).ownBlock)) (by (with_reducible repeat (first | apply Kd.R_alloc | apply Kd.R_drewN | apply Kd.R_drew)); exact Kd.R_mono HO166.out (fun _ hk => ⟨hk.1.2, hk.2⟩)) hg hat)
  have n5_ := Aside0.mk (hb)
  have n6_ := Aside0.mk (ho)
  clear BK155
  clear BK156
  clear HO159
  clear BK163
  clear HO166
  clear HB
  clear HO162
  have BK155 := n0_
  have BK156 := n1_
  have HO159 := n2_
  have BK163 := n3_
  have HO166 := n4_
  have HB := n5_
  have HO169 := n6_
  clear n0_ n1_ n2_ n3_ n4_ n5_ n6_
  clear ho hb hg hat
  obtain ⟨Ao23, co23, eo23⟩ := Kd.R_slice HO169.out
  (first | subst eo23 | (injection eo23 with f1_ f2_ f3_; have f4_ := f1_.symm; have f5_ := f3_.symm; clear f1_ f2_ f3_; subst f4_; subst f5_))
  refine hK.out _ _ ⟨q_z BK163.out 0, q_z BK163.out 1⟩ (fun hHeld => ?_)
  clear hK K
  refine norm_ (a' := ?_) ?_ ?_
  rotate_left
  ·show Act.put _ (some 13) _ = _
   simp only [Act.put, List.setIfInBounds_toArray, List.set_cons_zero, List.set_cons_succ, i64_w, i32_w]
   rfl
  refine pure_ (i := 5) (N := some 14) (v := ?_) (a' := ?_) #[true, true, true, true, true, true, false] rfl rfl (by kernel_rfl) (fun _ _ _ h => h) (Or.inl ⟨by rfl, ?_⟩) ?_ ?_
  rotate_left
  ·intro w'
   go_simp
   with_reducible rfl
  rotate_left
  ·simp only [Act.put, List.setIfInBounds_toArray, List.set_cons_zero, List.set_cons_succ, i64_w, i32_w]
   rfl
  refine last_ (i := 6) (N := none) #[true, true, true, true, true, true, true] rfl rfl (by kernel_rfl) (by decide) (fun K hK => ?_)
  have hs24 : w21.cell? ⟨gb163, 1, none⟩ = some (.slice Ao17 t160.length co17) := (blk_cell BK163.out 1).trans rfl
  have hfs24 := blk_frozen BK163.out 1
  have hns24_0 := NB155_163.out
  have hns24_1 := NB156_163.out
  have hms24_0 := NB163_155.out
  have hms24_1 := NB163_156.out
  refine skip_ (w1 := ?_) (by rfl) rfl ?_ ?_
  rotate_left
  ·go_simp
   rfl
  refine hK.out _ _ ?_
  clear hK K
  refine done_ (by kernel_rfl) ?_
  try go_wp2
  have n0_ : Aside0 (Kd.R (Kd.int .u8) 5 (w21.setCell ⟨gb163, 1, none⟩ (.slice Ao23 y167.length co23)) w.heap.size (fun k_ => some k_ ≠ (.slice Ao22 t164.length co22 : Value).ownBlock ∧ some k_ ≠ (.slice Ao23 y167.length co23 : Value).ownBlock) (.slice Ao13 t157.length co13) t157) := ⟨by (with_reducible repeat (first | apply Kd.R_alloc | apply Kd.R_drewN | apply Kd.R_drew)); exact Kd.R_mono (Kd.R_far (p := ⟨gb163, 1, none⟩) (Kd.R_types HO159.out BK163.out (by decide)) (fun _ hk => hk.2) (.slice Ao23 y167.length co23)) (fun _ hk => ⟨hk.1.1, hk.1.2⟩)⟩
  have n1_ : Aside0 (Kd.R (Kd.int .u8) 5 (w21.setCell ⟨gb163, 1, none⟩ (.slice Ao23 y167.length co23)) w.heap.size (fun k_ => some k_ ≠ (.slice Ao13 t157.length co13 : Value).ownBlock ∧ some k_ ≠ (.slice Ao23 y167.length co23 : Value).ownBlock) (.slice Ao22 t164.length co22) t164) := ⟨by (with_reducible repeat (first | apply Kd.R_alloc | apply Kd.R_drewN | apply Kd.R_drew)); exact Kd.R_mono (Kd.R_far (p := ⟨gb163, 1, none⟩) (Kd.R_types HO166.out BK163.out (by decide)) (fun _ hk => hk.2) (.slice Ao23 y167.length co23)) (fun _ hk => ⟨hk.1.1, hk.1.2⟩)⟩
  have n2_ : Aside0 (Kd.R (Kd.int .u8) 5 (w21.setCell ⟨gb163, 1, none⟩ (.slice Ao23 y167.length co23)) w.heap.size (fun k_ => some k_ ≠ (.slice Ao13 t157.length co13 : Value).ownBlock ∧ some k_ ≠ (.slice Ao22 t164.length co22 : Value).ownBlock) (.slice Ao23 y167.length co23) y167) := ⟨by (with_reducible repeat (first | apply Kd.R_alloc | apply Kd.R_drewN | apply Kd.R_drew)); exact Kd.R_mono (Kd.R_far (p := ⟨gb163, 1, none⟩) (Kd.R_types HO169.out BK163.out (by decide)) (fun _ hk => hk.2) (.slice Ao23 y167.length co23)) (fun _ hk => ⟨hk.1.1, hk.1.2⟩)⟩
  have n3_ : Aside0 ((w21.setCell ⟨gb163, 1, none⟩ (.slice Ao23 y167.length co23)).heap[gb155]? = some (.cells #[.slice A0_0 l0_0.length c0_0, .slice A0_1 l0_1.length c0_1] 27 (0, 0))) := ⟨by (with_reducible repeat (first | refine blk_drewN ?_ _ | refine blk_drew ?_ | refine blk_alloc ?_ _)); refine blk_far ?_ NB155_163.out _; (with_reducible repeat (first | refine blk_drewN ?_ _ | refine blk_drew ?_ | refine blk_alloc ?_ _)); exact BK155.out⟩
  have n4_ : Aside0 ((w21.setCell ⟨gb163, 1, none⟩ (.slice Ao23 y167.length co23)).heap[gb156]? = some (.cells #[.slice none 0 0, .slice none 0 0] 27 (0, 0))) := ⟨by (with_reducible repeat (first | refine blk_drewN ?_ _ | refine blk_drew ?_ | refine blk_alloc ?_ _)); refine blk_far ?_ NB156_163.out _; (with_reducible repeat (first | refine blk_drewN ?_ _ | refine blk_drew ?_ | refine blk_alloc ?_ _)); exact BK156.out⟩
  have n5_ : Aside0 ((w21.setCell ⟨gb163, 1, none⟩ (.slice Ao23 y167.length co23)).heap[gb163]? = some (.cells #[.slice Ao13 t157.length co13, .slice Ao23 y167.length co23] 27 (0, 0))) := ⟨by (with_reducible repeat (first | refine blk_drewN ?_ _ | refine blk_drew ?_ | refine blk_alloc ?_ _)); refine blk_put (cs := #[.slice Ao13 t157.length co13, .slice Ao17 t160.length co17]) ?_ 1 _ rfl; (with_reducible repeat (first | refine blk_drewN ?_ _ | refine blk_drew ?_ | refine blk_alloc ?_ _)); exact BK163.out⟩
  have n6_ : Aside0 (Below w.heap.size w (w21.setCell ⟨gb163, 1, none⟩ (.slice Ao23 y167.length co23))) := ⟨bq⟩
  (try clear HO159)
  (try clear HO166)
  (try clear HO169)
  (try clear BK155)
  (try clear BK156)
  (try clear BK163)
  (try clear HB)
  generalize (w21.setCell ⟨gb163, 1, none⟩ (.slice Ao23 y167.length co23)) = w25 at n0_ n1_ n2_ n3_ n4_ n5_ n6_ ⊢
  have HO159 := n0_
  have HO166 := n1_
  have HO169 := n2_
  have BK155 := n3_
  have BK156 := n4_
  have BK163 := n5_
  have HB := n6_
  clear n0_ n1_ n2_ n3_ n4_ n5_ n6_
  have n0_ := Aside0.mk (Kd.R_drew HO159.out)
  have n1_ := Aside0.mk (Kd.R_drew HO166.out)
  have n2_ := Aside0.mk (Kd.R_drew HO169.out)
  have n3_ := Aside0.mk (blk_drew BK155.out)
  have n4_ := Aside0.mk (blk_drew BK156.out)
  have n5_ := Aside0.mk (blk_drew BK163.out)
  have n6_ := Aside0.mk (below_drew1 HB.out)
  clear HO159
  clear HO166
  clear HO169
  clear BK155
  clear BK156
  clear BK163
  clear HB
  have HO159 := n0_
  have HO166 := n1_
  have HO169 := n2_
  have BK155 := n3_
  have BK156 := n4_
  have BK163 := n5_
  have HB := n6_
  clear n0_ n1_ n2_ n3_ n4_ n5_ n6_
  refine start_ (n := 5) (S := fun w' => w'.cell? ⟨gb163, 0, none⟩ = some (.slice Ao13 t157.length co13) ∧ w'.cell? ⟨gb163, 1, none⟩ = some (.slice Ao23 y167.length co23)) (ds := []) #[false, false, false, false, false] (by kernel_rfl) rfl rfl ⟨q_z BK163.out 0, q_z BK163.out 1⟩ (fun hHeld => ?_)
  generalize w25.drew = w26 at HO159 HO166 HO169 BK155 BK156 BK163 HB hHeld ⊢
  refine take_ (i := 0) (N := some 15) (v := ?_) (a' := ?_) #[true, false, false, false, false] rfl rfl (by kernel_rfl) (fun _ _ _ h => h) (Or.inl ⟨by rfl, ?_⟩) hHeld ?_ ?_
  rotate_left
  ·rintro w' ⟨s0, s1⟩
   go_simp
   with_reducible rfl
  rotate_left
  ·simp only [Act.put, List.setIfInBounds_toArray, List.set_cons_zero, List.set_cons_succ, i64_w, i32_w]
   rfl
  refine take_ (i := 1) (N := some 16) (v := ?_) (a' := ?_) #[true, true, false, false, false] rfl rfl (by kernel_rfl) (fun _ _ _ h => h) (Or.inl ⟨by rfl, ?_⟩) hHeld ?_ ?_
  rotate_left
  ·rintro w' ⟨s0, s1⟩
   go_simp
   with_reducible rfl
  rotate_left
  ·simp only [Act.put, List.setIfInBounds_toArray, List.set_cons_zero, List.set_cons_succ, i64_w, i32_w]
   rfl
  refine one_ (i := 2) (N := some 17) #[true, true, true, false, false] rfl rfl (by kernel_rfl) (by decide) (fun K hK => ?_)
  refine goes_ Try.func15 (by kernel_rfl) rfl #[.agg #[.slice Ao13 t157.length co13, .slice Ao23 y167.length co23]] (by rfl) rfl rfl (by (try simp only [List.map_toArray, List.map_cons, List.map_nil]); first | done | rfl | (simp only [List.length_drop, List.length_take]; rfl)) ?_
  with_reducible refine (spec_LogFault.calls _ _ t157 _ _ y167 t170 _ ?side1 ?side2 ?side3 ?side4 A6.out).mono ?_
  (case side1 => exact q_c ((Kd.R_reads' HO159.out).2.2))
  (case side2 => exact (Kd.R_reads' HO159.out).2.1)
  (case side3 => exact q_c ((Kd.R_reads' HO169.out).2.2))
  (case side4 => exact (Kd.R_reads' HO169.out).2.1)
  rintro e w27 ⟨rfl, hb⟩
  refine ⟨_, rfl, ?_⟩
  have n0_ := Aside0.mk (Kd.R_below (q_r (HO159.out)) hb)
  have n1_ := Aside0.mk (Kd.R_below (q_r (HO166.out)) hb)
  have n2_ := Aside0.mk (Kd.R_below (q_r (HO169.out)) hb)
  have n3_ := Aside0.mk (blk_below (q_b BK155.out) hb)
  have n4_ := Aside0.mk (blk_below (q_b BK156.out) hb)
  have n5_ := Aside0.mk (blk_below (q_b BK163.out) hb)
  have n6_ := Aside0.mk (below_step bq hb)
  clear HO159
  clear HO166
  clear HO169
  clear BK155
  clear BK156
  clear BK163
  clear HB
  have HO159 := n0_
  have HO166 := n1_
  have HO169 := n2_
  have BK155 := n3_
  have BK156 := n4_
  have BK163 := n5_
  have HB := n6_
  clear n0_ n1_ n2_ n3_ n4_ n5_ n6_
  (try clear hb)
  (try clear hb2)
  (try clear hk)
  (try clear hi)
  refine hK.out _ _ ⟨q_z BK163.out 0, q_z BK163.out 1⟩ (fun hHeld => ?_)
  clear hK K
  refine norm_ (a' := ?_) ?_ ?_
  rotate_left
  ·show Act.put _ (some 17) _ = _
   simp only [Act.put, List.setIfInBounds_toArray, List.set_cons_zero, List.set_cons_succ, i64_w, i32_w]
   rfl
  refine one_ (i := 3) (N := none) #[true, true, true, true, false] rfl rfl (by kernel_rfl) (by decide) (fun K hK => ?_)
  have hs28 : w27.cell? ⟨gb156, 0, none⟩ = some (.slice none 0 0) := (blk_cell BK156.out 0).trans rfl
  have hfs28 := blk_frozen BK156.out 0
  have hns28_0 := NB155_156.out
  have hns28_2 := NB163_156.out
  have hms28_0 := NB156_155.out
  have hms28_2 := NB156_163.out
  have hs29 : w27.cell? ⟨gb156, 1, none⟩ = some (.slice none 0 0) := (blk_cell BK156.out 1).trans rfl
  have hfs29 := blk_frozen BK156.out 1
  have hns29_0 := NB155_156.out
  have hns29_2 := NB163_156.out
  have hms29_0 := NB156_155.out
  have hms29_2 := NB156_163.out
  refine skip_ (w1 := ?_) (by rfl) rfl ?_ ?_
  rotate_left
  ·go_simp
   rfl
  refine hK.out _ _ ⟨((cell_far (p := ⟨gb156, _, none⟩) NB163_156.out _).trans (((cell_far (p := ⟨gb156, _, none⟩) NB163_156.out _).trans (hHeld.1)))), ((cell_far (p := ⟨gb156, _, none⟩) NB163_156.out _).trans (((cell_far (p := ⟨gb156, _, none⟩) NB163_156.out _).trans (hHeld.2))))⟩ (fun hHeld => ?_)
  clear hK K
  refine pure_ (i := 4) (N := some 5) (v := ?_) (a' := ?_) #[true, true, true, true, true] rfl rfl (by kernel_rfl) (fun _ _ _ h => h) (Or.inl ⟨by rfl, ?_⟩) ?_ ?_
  rotate_left
  ·intro w'
   go_simp
   with_reducible rfl
  rotate_left
  ·simp only [Act.put, List.setIfInBounds_toArray, List.set_cons_zero, List.set_cons_succ, i64_w, i32_w]
   rfl
  refine done_ (by kernel_rfl) ?_
  try go_wp2
  refine bodyPost_ret (results_ct rfl _ _ gb156 27 #[.slice Ao13 t157.length co13, .slice Ao23 y167.length co23] (0, 0) _ rfl (by (with_reducible repeat (first | refine blk_drewN ?_ _ | refine blk_drew ?_ | refine blk_alloc ?_ _)); refine blk_put (cs := #[.slice Ao13 t157.length co13, .slice none 0 0]) ?_ 1 _ rfl; (with_reducible repeat (first | refine blk_drewN ?_ _ | refine blk_drew ?_ | refine blk_alloc ?_ _)); refine blk_put (cs := #[.slice none 0 0, .slice none 0 0]) ?_ 0 _ rfl; (with_reducible repeat (first | refine blk_drewN ?_ _ | refine blk_drew ?_ | refine blk_alloc ?_ _)); exact BK156.out) Try.underlying27 rfl (by kernel_rfl)) rfl ?_
  exact ⟨_, _, q_e, by (with_reducible repeat (first | apply Kd.R_alloc | apply Kd.R_drewN | apply Kd.R_drew)); exact Kd.R_mono (Kd.R_far (p := ⟨gb156, 1, none⟩) (Kd.R_far (p := ⟨gb156, 0, none⟩) (Kd.R_types HO159.out BK156.out (by decide)) (fun _ hk => hk.2) (.slice Ao13 t157.length co13)) (fun _ hk => hk.2) (.slice Ao23 y167.length co23)) (fun _ hk => hk.1.2), by (with_reducible repeat (first | apply Kd.R_alloc | apply Kd.R_drewN | apply Kd.R_drew)); exact Kd.R_mono (Kd.R_far (p := ⟨gb156, 1, none⟩) (Kd.R_far (p := ⟨gb156, 0, none⟩) (Kd.R_types HO169.out BK156.out (by decide)) (fun _ hk => hk.2) (.slice Ao13 t157.length co13)) (fun _ hk => hk.2) (.slice Ao23 y167.length co23)) (fun _ hk => hk.1.1), bq⟩
 ·rw [if_neg c5] at H
  exact absurd H (by simp)

/-! ### spec_AppendLog: function 45 -/
def spec_AppendLog.f (k : Nat) (l0_0 : List Int) (l0_1 : List Int) (l1 : List Int) : Option (Int × List Int × List Int) := (spec_LogFault.f l0_0 l0_1).bind fun t173 => (if t173 = 0 then ((spec_FrameRecord.f k l1).bind fun bt174 => (if bt174.1 = 0 then ((spec_l4Append.f k l0_0 l0_1 l1).bind fun bt179 => (if bt179.2.2 = 0 then (some (0, bt179.1, bt179.2.1)) else (some (bt179.2.2, ([] : List Int), ([] : List Int))))) else (some (bt174.1, ([] : List Int), ([] : List Int))))) else (some (t173, ([] : List Int), ([] : List Int))))
set_option maxHeartbeats 8000000 in
set_option maxRecDepth 100000 in
theorem spec_AppendLog.calls (k : Nat) (A0_0 : Option Addr) (c0_0 : Nat) (l0_0 : List Int) (A0_1 : Option Addr) (c0_1 : Nat) (l0_1 : List Int) (A1 : Option Addr) (c1 : Nat) (l1 : List Int) (r1 : Int) (r2 : List Int) (r3 : List Int) (w : World) (hr0_0 : Kd.C (Kd.int .u8) w A0_0 l0_0.length l0_0) (hc0_0 : l0_0.length ≤ c0_0) (hr0_1 : Kd.C (Kd.int .u8) w A0_1 l0_1.length l0_1) (hc0_1 : l0_1.length ≤ c0_1) (hr1 : Kd.C (Kd.int .u8) w A1 l1.length l1) (hc1 : l1.length ≤ c1) (h : spec_AppendLog.f k l0_0 l0_1 l1 = some (r1, r2, r3)) :
  Calls Try.prog 45 #[.agg #[.slice A0_0 l0_0.length c0_0, .slice A0_1 l0_1.length c0_1], .slice A1 l1.length c1] w fun e w' => ∃ v1_ v2_ : Value, e = .returned (.agg #[.int .i64 r1, v1_, v2_]) ∧ Kd.R (Kd.int .u8) 5 w' w.heap.size (fun k_ => some k_ ≠ (v2_ : Value).ownBlock) v1_ r2 ∧ Kd.R (Kd.int .u8) 5 w' w.heap.size (fun k_ => some k_ ≠ (v1_ : Value).ownBlock) v2_ r3 ∧ Below w.heap.size w w' := by
 have hu27 := Try.underlying27
 have hu46 := Try.underlying46
 have hu32 := Try.underlying32
 have HR0_0 := Aside0.mk hr0_0
 have HC0_0 := Aside0.mk hc0_0
 clear hr0_0 hc0_0
 have HR0_1 := Aside0.mk hr0_1
 have HC0_1 := Aside0.mk hc0_1
 clear hr0_1 hc0_1
 have HR1 := Aside0.mk hr1
 have HC1 := Aside0.mk hc1
 clear hr1 hc1
 have HB := Aside0.mk (Below.refl w.heap.size w)
 have H : ((spec_LogFault.f l0_0 l0_1).bind fun t173 => (if t173 = 0 then ((spec_FrameRecord.f k l1).bind fun bt174 => (if bt174.1 = 0 then ((spec_l4Append.f k l0_0 l0_1 l1).bind fun bt179 => (if bt179.2.2 = 0 then (some (0, bt179.1, bt179.2.1)) else (some (bt179.2.2, ([] : List Int), ([] : List Int))))) else (some (bt174.1, ([] : List Int), ([] : List Int))))) else (some (t173, ([] : List Int), ([] : List Int))))) = some (r1, r2, r3) := h
 clear h
 replace H := Option.bind_eq_some_iff.mp H
 obtain ⟨t173, A30, H⟩ := H
 replace H : (if t173 = 0 then ((spec_FrameRecord.f k l1).bind fun bt174 => (if bt174.1 = 0 then ((spec_l4Append.f k l0_0 l0_1 l1).bind fun bt179 => (if bt179.2.2 = 0 then (some (0, bt179.1, bt179.2.1)) else (some (bt179.2.2, ([] : List Int), ([] : List Int))))) else (some (bt174.1, ([] : List Int), ([] : List Int))))) else (some (t173, ([] : List Int), ([] : List Int)))) = some (r1, r2, r3) := H
 have A3 := Aside0.mk A30
 clear A30
 by_cases c4 : t173 = 0
 ·rw [if_pos c4] at H
  have c4b0 : (t173 == 0) = true := beq_iff_eq.mpr c4
  have c4b1 : (t173 != 0) = false := bne_eq_false_iff_eq.mpr c4
  clear c4
  replace H := Option.bind_eq_some_iff.mp H
  obtain ⟨⟨t174, t175⟩, A50, H⟩ := H
  replace H : (if t174 = 0 then ((spec_l4Append.f k l0_0 l0_1 l1).bind fun bt179 => (if bt179.2.2 = 0 then (some (0, bt179.1, bt179.2.1)) else (some (bt179.2.2, ([] : List Int), ([] : List Int))))) else (some (t174, ([] : List Int), ([] : List Int)))) = some (r1, r2, r3) := H
  have A5 := Aside0.mk A50
  clear A50
  by_cases c6 : t174 = 0
  ·rw [if_pos c6] at H
   have c6b0 : (t174 == 0) = true := beq_iff_eq.mpr c6
   have c6b1 : (t174 != 0) = false := bne_eq_false_iff_eq.mpr c6
   clear c6
   replace H := Option.bind_eq_some_iff.mp H
   obtain ⟨⟨t179, t182, t185⟩, A70, H⟩ := H
   replace H : (if t185 = 0 then (some (0, t179, t182)) else (some (t185, ([] : List Int), ([] : List Int)))) = some (r1, r2, r3) := H
   have A7 := Aside0.mk A70
   clear A70
   by_cases c8 : t185 = 0
   ·rw [if_pos c8] at H
    have c8b0 : (t185 == 0) = true := beq_iff_eq.mpr c8
    have c8b1 : (t185 != 0) = false := bne_eq_false_iff_eq.mpr c8
    clear c8
    simp only [Option.some.injEq, Prod.mk.injEq] at H
    obtain ⟨rfl, rfl, rfl⟩ := H
    go_enter Try.func45, Try.ntmps45
    go_wp2_with (first | ((with_reducible refine gate_dst (N := 2) rfl ?_); refine q_box (N := 2) (cs := #[.slice A0_0 l0_0.length c0_0, .slice A0_1 l0_1.length c0_1]) (t := 27) ?_; intro gb171 hg w9 hbox hb; have n0_ := Aside0.mk (below_step bq hb); have n1_ := Aside0.mk (hbox); have n2_ := Aside0.mk ((q_g hg bq : w.heap.size ≤ gb171)); have n3_ := Aside0.mk ((q_g hg bq : w.heap.size ≤ gb171)); revert n0_ n1_ n2_ n3_; clear HB; intro HB BK171 GW171 GE171; clear hb hbox hg) | ((with_reducible refine gate_dst (N := 4) rfl ?_); refine q_box (N := 4) (cs := #[.int .i64 0, .slice none 0 0, .slice none 0 0]) (t := 46) ?_; intro gb172 hg w10 hbox hb; have n0_ := Aside0.mk (blk_below (q_b BK171.out) hb); have n1_ := Aside0.mk (below_step bq hb); have n2_ := Aside0.mk (hbox); have n3_ := Aside0.mk ((q_g hg bq : w.heap.size ≤ gb172)); have n4_ := Aside0.mk ((q_g hg bq : w.heap.size ≤ gb172)); have n5_ := Aside0.mk ((q_n hg (q_b BK171.out) : gb171 ≠ gb172)); have n6_ := Aside0.mk ((q_m hg (q_b BK171.out) : gb172 ≠ gb171)); revert n0_ n1_ n2_ n3_ n4_ n5_ n6_; clear BK171 HB; intro BK171 HB BK172 GW172 GE172 NB171_172 NB172_171; clear hb hbox hg; have hnb11 := NB171_172.out; have hnc11 := NB172_171.out; obtain ⟨hcz12_0, hcz12_1, hfz12_0, hfz12_1⟩ := q_2 BK171.out) | ((with_reducible refine gate_callee (f := 15) rfl ?_); refine goesLq (some 10) rfl rfl Try.func15 (by kernel_rfl) rfl #[.agg #[.slice A0_0 l0_0.length c0_0, .slice A0_1 l0_1.length c0_1]] rfl ?_; (with_reducible refine (spec_LogFault.calls _ _ l0_0 _ _ l0_1 t173 _ ?side1 ?side2 ?side3 ?side4 A3.out).mono ?_); (case side1 => exact q_c ((Kd.C_below HR0_0.out HB.out))); (case side2 => exact HC0_0.out); (case side3 => exact q_c ((Kd.C_below HR0_1.out HB.out))); (case side4 => exact HC0_1.out); rintro e w13 ⟨rfl, hb⟩; refine ⟨_, rfl, ?_⟩; have n0_ := Aside0.mk (blk_below (q_b BK171.out) hb); have n1_ := Aside0.mk (blk_below (q_b BK172.out) hb); have n2_ := Aside0.mk (below_step bq hb); revert n0_ n1_ n2_; clear BK171 BK172 HB; intro BK171 BK172 HB; (try clear hb); (try clear hb2); (try clear hk); (try clear hi)) | ((with_reducible refine gate_callee (f := 19) rfl ?_); refine goesLq (some 16) rfl rfl Try.func19 (by kernel_rfl) rfl #[.slice A1 l1.length c1] rfl ?_; (with_reducible refine (spec_FrameRecord.calls k _ _ l1 t174 t175 _ ?side1 ?side2 A5.out).mono ?_); (case side1 => exact q_c ((Kd.C_below HR1.out HB.out))); (case side2 => exact HC1.out); rintro e w14 ⟨v176, rfl, ho0, hb⟩; refine ⟨_, rfl, ?_⟩; have n0_ := Aside0.mk (Kd.R_lower ho0 (below_size bq)); have n1_ := Aside0.mk (blk_below (q_b BK171.out) hb); have n2_ := Aside0.mk (blk_below (q_b BK172.out) hb); have n3_ := Aside0.mk (below_step bq hb); revert n0_ n1_ n2_ n3_; clear BK171 BK172 HB; intro HO177 BK171 BK172 HB; (try clear hb); (try clear hb2); (try clear hk); (try clear hi); (try clear ho0)) | ((with_reducible refine gate_dst (N := 6) rfl ?_); refine q_box (N := 6) (cs := #[.int .i64 0, .slice none 0 0]) (t := 32) ?_; intro gb178 hg w15 hbox hb; have n0_ := Aside0.mk (Kd.R_below (q_r (HO177.out)) hb); have n1_ := Aside0.mk (blk_below (q_b BK171.out) hb); have n2_ := Aside0.mk (blk_below (q_b BK172.out) hb); have n3_ := Aside0.mk (below_step bq hb); have n4_ := Aside0.mk (hbox); have n5_ := Aside0.mk ((q_g hg bq : w.heap.size ≤ gb178)); have n6_ := Aside0.mk ((q_g hg bq : w.heap.size ≤ gb178)); have n7_ := Aside0.mk ((q_n hg (q_b BK171.out) : gb171 ≠ gb178)); have n8_ := Aside0.mk ((q_m hg (q_b BK171.out) : gb178 ≠ gb171)); have n9_ := Aside0.mk ((q_n hg (q_b BK172.out) : gb172 ≠ gb178)); have n10_ := Aside0.mk ((q_m hg (q_b BK172.out) : gb178 ≠ gb172)); revert n0_ n1_ n2_ n3_ n4_ n5_ n6_ n7_ n8_ n9_ n10_; clear HO177 BK171 BK172 HB; intro HO177 BK171 BK172 HB BK178 GW178 GE178 NB171_178 NB178_171 NB172_178 NB178_172; clear hb hbox hg; have hnb16 := NB178_171.out; have hnc16 := NB171_178.out; have hnb17 := NB178_172.out; have hnc17 := NB172_178.out; obtain ⟨hcz18_0, hcz18_1, hfz18_0, hfz18_1⟩ := q_2 BK178.out; obtain ⟨Ao19, co19, eo19⟩ := Kd.R_slice HO177.out; subst eo19; obtain ⟨hcz20_0, hcz20_1, hfz20_0, hfz20_1⟩ := q_2 BK171.out) | ((with_reducible refine gate_callee (f := 71) rfl ?_); refine goesLq (some 26) rfl rfl Try.func71 (by kernel_rfl) rfl #[.agg #[.slice A0_0 l0_0.length c0_0, .slice A0_1 l0_1.length c0_1], .slice A1 l1.length c1] rfl ?_; (with_reducible refine (spec_l4Append.calls k _ _ l0_0 _ _ l0_1 _ _ l1 t179 t182 t185 _ ?side1 ?side2 ?side3 ?side4 ?side5 ?side6 A7.out).mono ?_); (case side1 => exact Kd.C_below HR0_0.out bq); (case side2 => exact HC0_0.out); (case side3 => exact Kd.C_below HR0_1.out bq); (case side4 => exact HC0_1.out); (case side5 => exact Kd.C_below HR1.out bq); (case side6 => exact HC1.out); rintro e w21 ⟨v180, v183, rfl, ho0, ho1, hb⟩; refine ⟨_, rfl, ?_⟩; have n0_ := Aside0.mk (Kd.R_mono (Kd.R_told (Kd.R_told (Kd.R_old (by (with_reducible repeat (first | apply Kd.R_alloc | apply Kd.R_drewN | apply Kd.R_drew)); exact (Kd.R_mono (Kd.R_far (p := ⟨gb178, 1, none⟩) (Kd.R_far (p := ⟨gb178, 0, none⟩) (Kd.R_types HO177.out BK178.out (by decide)) (fun _ hk => hk.2) (.int .i64 t174)) (fun _ hk => hk.2) (.slice Ao19 t175.length co19)) (fun _ h_ => h_.1))) hb) (Kd.R_base ho0)) (Kd.R_base ho1)) (fun _ h_ => h_.1)); have n1_ := Aside0.mk (Kd.R_lower (Kd.R_new' ho0 (Kd.R_lt (by (with_reducible repeat (first | apply Kd.R_alloc | apply Kd.R_drewN | apply Kd.R_drew)); exact (Kd.R_mono (Kd.R_far (p := ⟨gb178, 1, none⟩) (Kd.R_far (p := ⟨gb178, 0, none⟩) (Kd.R_types HO177.out BK178.out (by decide)) (fun _ hk => hk.2) (.int .i64 t174)) (fun _ hk => hk.2) (.slice Ao19 t175.length co19)) (fun _ h_ => h_.1))))) (below_size bq)); have n2_ := Aside0.mk (Kd.R_lower (Kd.R_new' ho1 (Kd.R_lt (by (with_reducible repeat (first | apply Kd.R_alloc | apply Kd.R_drewN | apply Kd.R_drew)); exact (Kd.R_mono (Kd.R_far (p := ⟨gb178, 1, none⟩) (Kd.R_far (p := ⟨gb178, 0, none⟩) (Kd.R_types HO177.out BK178.out (by decide)) (fun _ hk => hk.2) (.int .i64 t174)) (fun _ hk => hk.2) (.slice Ao19 t175.length co19)) (fun _ h_ => h_.1))))) (below_size bq)); have n3_ := Aside0.mk (blk_below (g := gb171) (o := .cells #[.slice A0_0 l0_0.length c0_0, .slice A0_1 l0_1.length c0_1] 27 (0, 0)) (by (with_reducible repeat (first | refine blk_drewN ?_ _ | refine blk_drew ?_ | refine blk_alloc ?_ _)); refine blk_far ?_ NB171_178.out _; (with_reducible repeat (first | refine blk_drewN ?_ _ | refine blk_drew ?_ | refine blk_alloc ?_ _)); refine blk_far ?_ NB171_178.out _; (with_reducible repeat (first | refine blk_drewN ?_ _ | refine blk_drew ?_ | refine blk_alloc ?_ _)); exact BK171.out) hb); have n4_ := Aside0.mk (blk_below (g := gb172) (o := .cells #[.int .i64 0, .slice none 0 0, .slice none 0 0] 46 (0, 0)) (by (with_reducible repeat (first | refine blk_drewN ?_ _ | refine blk_drew ?_ | refine blk_alloc ?_ _)); refine blk_far ?_ NB172_178.out _; (with_reducible repeat (first | refine blk_drewN ?_ _ | refine blk_drew ?_ | refine blk_alloc ?_ _)); refine blk_far ?_ NB172_178.out _; (with_reducible repeat (first | refine blk_drewN ?_ _ | refine blk_drew ?_ | refine blk_alloc ?_ _)); exact BK172.out) hb); have n5_ := Aside0.mk (blk_below (g := gb178) (o := .cells #[.int .i64 t174, .slice Ao19 t175.length co19] 32 (0, 0)) (by (with_reducible repeat (first | refine blk_drewN ?_ _ | refine blk_drew ?_ | refine blk_alloc ?_ _)); refine blk_put (cs := #[.int .i64 t174, .slice none 0 0]) ?_ 1 _ rfl; (with_reducible repeat (first | refine blk_drewN ?_ _ | refine blk_drew ?_ | refine blk_alloc ?_ _)); refine blk_put (cs := #[.int .i64 0, .slice none 0 0]) ?_ 0 _ rfl; (with_reducible repeat (first | refine blk_drewN ?_ _ | refine blk_drew ?_ | refine blk_alloc ?_ _)); exact BK178.out) hb); have n6_ := Aside0.mk (below_step bq hb); revert n0_ n1_ n2_ n3_ n4_ n5_ n6_; clear HO177 BK171 BK172 BK178 HB; intro HO177 HO181 HO184 BK171 BK172 BK178 HB; (try clear hb); (try clear hb2); (try clear hk); (try clear hi); (try clear ho0); (try clear ho1)) | ((with_reducible refine gate_dst (N := 7) rfl ?_); refine q_box (N := 7) (cs := #[.slice none 0 0, .slice none 0 0]) (t := 27) ?_; intro gb186 hg w22 hbox hb; have n0_ := Aside0.mk (Kd.R_below (q_r (HO177.out)) hb); have n1_ := Aside0.mk (Kd.R_below (q_r (HO181.out)) hb); have n2_ := Aside0.mk (Kd.R_below (q_r (HO184.out)) hb); have n3_ := Aside0.mk (blk_below (q_b BK171.out) hb); have n4_ := Aside0.mk (blk_below (q_b BK172.out) hb); have n5_ := Aside0.mk (blk_below (q_b BK178.out) hb); have n6_ := Aside0.mk (below_step bq hb); have n7_ := Aside0.mk (hbox); have n8_ := Aside0.mk ((q_g hg bq : w.heap.size ≤ gb186)); have n9_ := Aside0.mk ((q_g hg bq : w.heap.size ≤ gb186)); have n10_ := Aside0.mk ((q_n hg (q_b BK171.out) : gb171 ≠ gb186)); have n11_ := Aside0.mk ((q_m hg (q_b BK171.out) : gb186 ≠ gb171)); have n12_ := Aside0.mk ((q_n hg (q_b BK172.out) : gb172 ≠ gb186)); have n13_ := Aside0.mk ((q_m hg (q_b BK172.out) : gb186 ≠ gb172)); have n14_ := Aside0.mk ((q_n hg (q_b BK178.out) : gb178 ≠ gb186)); have n15_ := Aside0.mk ((q_m hg (q_b BK178.out) : gb186 ≠ gb178)); revert n0_ n1_ n2_ n3_ n4_ n5_ n6_ n7_ n8_ n9_ n10_ n11_ n12_ n13_ n14_ n15_; clear HO177 HO181 HO184 BK171 BK172 BK178 HB; intro HO177 HO181 HO184 BK171 BK172 BK178 HB BK186 GW186 GE186 NB171_186 NB186_171 NB172_186 NB186_172 NB178_186 NB186_178; clear hb hbox hg; obtain ⟨Ao23, co23, eo23⟩ := Kd.R_slice HO181.out; subst eo23; have hnb24 := NB186_171.out; have hnc24 := NB171_186.out; have hnb25 := NB186_172.out; have hnc25 := NB172_186.out; have hnb26 := NB186_178.out; have hnc26 := NB178_186.out; obtain ⟨hcz27_0, hcz27_1, hfz27_0, hfz27_1⟩ := q_2 BK186.out; obtain ⟨Ao28, co28, eo28⟩ := Kd.R_slice HO184.out; subst eo28; obtain ⟨hcz29_0, hcz29_1, hcz29_2, hfz29_0, hfz29_1, hfz29_2⟩ := q_3 BK172.out))
    refine bodyPost_ret (results_cell_row rfl _ _ gb172 46 #[.int .i64 0, .slice Ao23 t179.length co23, .slice Ao28 t182.length co28] (0, 0) _ rfl (by (with_reducible repeat (first | refine blk_drewN ?_ _ | refine blk_drew ?_ | refine blk_alloc ?_ _)); refine blk_put (cs := #[.int .i64 0, .slice Ao23 t179.length co23, .slice none 0 0]) ?_ 2 _ rfl; (with_reducible repeat (first | refine blk_drewN ?_ _ | refine blk_drew ?_ | refine blk_alloc ?_ _)); refine blk_put (cs := #[.int .i64 0, .slice none 0 0, .slice none 0 0]) ?_ 1 _ rfl; (with_reducible repeat (first | refine blk_drewN ?_ _ | refine blk_drew ?_ | refine blk_alloc ?_ _)); refine blk_put (cs := #[.int .i64 0, .slice none 0 0, .slice none 0 0]) ?_ 0 _ rfl; (with_reducible repeat (first | refine blk_drewN ?_ _ | refine blk_drew ?_ | refine blk_alloc ?_ _)); refine blk_far ?_ NB172_186.out _; (with_reducible repeat (first | refine blk_drewN ?_ _ | refine blk_drew ?_ | refine blk_alloc ?_ _)); refine blk_far ?_ NB172_186.out _; (with_reducible repeat (first | refine blk_drewN ?_ _ | refine blk_drew ?_ | refine blk_alloc ?_ _)); exact BK172.out) Try.underlying46 rfl (by kernel_rfl)) rfl ?_
    exact ⟨_, _, q_e, by (with_reducible repeat (first | apply Kd.R_alloc | apply Kd.R_drewN | apply Kd.R_drew)); exact Kd.R_mono (Kd.R_far (p := ⟨gb172, 2, none⟩) (Kd.R_far (p := ⟨gb172, 1, none⟩) (Kd.R_far (p := ⟨gb172, 0, none⟩) (Kd.R_far (p := ⟨gb186, 1, none⟩) (Kd.R_far (p := ⟨gb186, 0, none⟩) (Kd.R_types (Kd.R_types HO181.out BK186.out (by decide)) BK172.out (by decide)) (fun _ hk => hk.1.2) (.slice Ao23 t179.length co23)) (fun _ hk => hk.1.2) (.slice Ao28 t182.length co28)) (fun _ hk => hk.2) (.int .i64 0)) (fun _ hk => hk.2) (.slice Ao23 t179.length co23)) (fun _ hk => hk.2) (.slice Ao28 t182.length co28)) (fun _ hk => hk.1.1.1), by (with_reducible repeat (first | apply Kd.R_alloc | apply Kd.R_drewN | apply Kd.R_drew)); exact Kd.R_mono (Kd.R_far (p := ⟨gb172, 2, none⟩) (Kd.R_far (p := ⟨gb172, 1, none⟩) (Kd.R_far (p := ⟨gb172, 0, none⟩) (Kd.R_far (p := ⟨gb186, 1, none⟩) (Kd.R_far (p := ⟨gb186, 0, none⟩) (Kd.R_types (Kd.R_types HO184.out BK186.out (by decide)) BK172.out (by decide)) (fun _ hk => hk.1.2) (.slice Ao23 t179.length co23)) (fun _ hk => hk.1.2) (.slice Ao28 t182.length co28)) (fun _ hk => hk.2) (.int .i64 0)) (fun _ hk => hk.2) (.slice Ao23 t179.length co23)) (fun _ hk => hk.2) (.slice Ao28 t182.length co28)) (fun _ hk => hk.1.1.1), bq⟩
   ·rw [if_neg c8] at H
    have c8b0 : (t185 == 0) = false := beq_eq_false_iff_ne.mpr c8
    have c8b1 : (t185 != 0) = true := bne_iff_ne.mpr c8
    simp only [Option.some.injEq, Prod.mk.injEq] at H
    obtain ⟨rfl, rfl, rfl⟩ := H
    go_enter Try.func45, Try.ntmps45
    go_wp2_with (first | ((with_reducible refine gate_dst (N := 2) rfl ?_); refine q_box (N := 2) (cs := #[.slice A0_0 l0_0.length c0_0, .slice A0_1 l0_1.length c0_1]) (t := 27) ?_; intro gb171 hg w30 hbox hb; have n0_ := Aside0.mk (below_step bq hb); have n1_ := Aside0.mk (hbox); have n2_ := Aside0.mk ((q_g hg bq : w.heap.size ≤ gb171)); have n3_ := Aside0.mk ((q_g hg bq : w.heap.size ≤ gb171)); revert n0_ n1_ n2_ n3_; clear HB; intro HB BK171 GW171 GE171; clear hb hbox hg) | ((with_reducible refine gate_dst (N := 4) rfl ?_); refine q_box (N := 4) (cs := #[.int .i64 0, .slice none 0 0, .slice none 0 0]) (t := 46) ?_; intro gb172 hg w31 hbox hb; have n0_ := Aside0.mk (blk_below (q_b BK171.out) hb); have n1_ := Aside0.mk (below_step bq hb); have n2_ := Aside0.mk (hbox); have n3_ := Aside0.mk ((q_g hg bq : w.heap.size ≤ gb172)); have n4_ := Aside0.mk ((q_g hg bq : w.heap.size ≤ gb172)); have n5_ := Aside0.mk ((q_n hg (q_b BK171.out) : gb171 ≠ gb172)); have n6_ := Aside0.mk ((q_m hg (q_b BK171.out) : gb172 ≠ gb171)); revert n0_ n1_ n2_ n3_ n4_ n5_ n6_; clear BK171 HB; intro BK171 HB BK172 GW172 GE172 NB171_172 NB172_171; clear hb hbox hg; have hnb32 := NB171_172.out; have hnc32 := NB172_171.out; obtain ⟨hcz33_0, hcz33_1, hfz33_0, hfz33_1⟩ := q_2 BK171.out) | ((with_reducible refine gate_callee (f := 15) rfl ?_); refine goesLq (some 10) rfl rfl Try.func15 (by kernel_rfl) rfl #[.agg #[.slice A0_0 l0_0.length c0_0, .slice A0_1 l0_1.length c0_1]] rfl ?_; (with_reducible refine (spec_LogFault.calls _ _ l0_0 _ _ l0_1 t173 _ ?side1 ?side2 ?side3 ?side4 A3.out).mono ?_); (case side1 => exact q_c ((Kd.C_below HR0_0.out HB.out))); (case side2 => exact HC0_0.out); (case side3 => exact q_c ((Kd.C_below HR0_1.out HB.out))); (case side4 => exact HC0_1.out); rintro e w34 ⟨rfl, hb⟩; refine ⟨_, rfl, ?_⟩; have n0_ := Aside0.mk (blk_below (q_b BK171.out) hb); have n1_ := Aside0.mk (blk_below (q_b BK172.out) hb); have n2_ := Aside0.mk (below_step bq hb); revert n0_ n1_ n2_; clear BK171 BK172 HB; intro BK171 BK172 HB; (try clear hb); (try clear hb2); (try clear hk); (try clear hi)) | ((with_reducible refine gate_callee (f := 19) rfl ?_); refine goesLq (some 16) rfl rfl Try.func19 (by kernel_rfl) rfl #[.slice A1 l1.length c1] rfl ?_; (with_reducible refine (spec_FrameRecord.calls k _ _ l1 t174 t175 _ ?side1 ?side2 A5.out).mono ?_); (case side1 => exact q_c ((Kd.C_below HR1.out HB.out))); (case side2 => exact HC1.out); rintro e w35 ⟨v176, rfl, ho0, hb⟩; refine ⟨_, rfl, ?_⟩; have n0_ := Aside0.mk (Kd.R_lower ho0 (below_size bq)); have n1_ := Aside0.mk (blk_below (q_b BK171.out) hb); have n2_ := Aside0.mk (blk_below (q_b BK172.out) hb); have n3_ := Aside0.mk (below_step bq hb); revert n0_ n1_ n2_ n3_; clear BK171 BK172 HB; intro HO177 BK171 BK172 HB; (try clear hb); (try clear hb2); (try clear hk); (try clear hi); (try clear ho0)) | ((with_reducible refine gate_dst (N := 6) rfl ?_); refine q_box (N := 6) (cs := #[.int .i64 0, .slice none 0 0]) (t := 32) ?_; intro gb178 hg w36 hbox hb; have n0_ := Aside0.mk (Kd.R_below (q_r (HO177.out)) hb); have n1_ := Aside0.mk (blk_below (q_b BK171.out) hb); have n2_ := Aside0.mk (blk_below (q_b BK172.out) hb); have n3_ := Aside0.mk (below_step bq hb); have n4_ := Aside0.mk (hbox); have n5_ := Aside0.mk ((q_g hg bq : w.heap.size ≤ gb178)); have n6_ := Aside0.mk ((q_g hg bq : w.heap.size ≤ gb178)); have n7_ := Aside0.mk ((q_n hg (q_b BK171.out) : gb171 ≠ gb178)); have n8_ := Aside0.mk ((q_m hg (q_b BK171.out) : gb178 ≠ gb171)); have n9_ := Aside0.mk ((q_n hg (q_b BK172.out) : gb172 ≠ gb178)); have n10_ := Aside0.mk ((q_m hg (q_b BK172.out) : gb178 ≠ gb172)); revert n0_ n1_ n2_ n3_ n4_ n5_ n6_ n7_ n8_ n9_ n10_; clear HO177 BK171 BK172 HB; intro HO177 BK171 BK172 HB BK178 GW178 GE178 NB171_178 NB178_171 NB172_178 NB178_172; clear hb hbox hg; have hnb37 := NB178_171.out; have hnc37 := NB171_178.out; have hnb38 := NB178_172.out; have hnc38 := NB172_178.out; obtain ⟨hcz39_0, hcz39_1, hfz39_0, hfz39_1⟩ := q_2 BK178.out; obtain ⟨Ao40, co40, eo40⟩ := Kd.R_slice HO177.out; subst eo40; obtain ⟨hcz41_0, hcz41_1, hfz41_0, hfz41_1⟩ := q_2 BK171.out) | ((with_reducible refine gate_callee (f := 71) rfl ?_); refine goesLq (some 26) rfl rfl Try.func71 (by kernel_rfl) rfl #[.agg #[.slice A0_0 l0_0.length c0_0, .slice A0_1 l0_1.length c0_1], .slice A1 l1.length c1] rfl ?_; (with_reducible refine (spec_l4Append.calls k _ _ l0_0 _ _ l0_1 _ _ l1 t179 t182 t185 _ ?side1 ?side2 ?side3 ?side4 ?side5 ?side6 A7.out).mono ?_); (case side1 => exact Kd.C_below HR0_0.out bq); (case side2 => exact HC0_0.out); (case side3 => exact Kd.C_below HR0_1.out bq); (case side4 => exact HC0_1.out); (case side5 => exact Kd.C_below HR1.out bq); (case side6 => exact HC1.out); rintro e w42 ⟨v180, v183, rfl, ho0, ho1, hb⟩; refine ⟨_, rfl, ?_⟩; have n0_ := Aside0.mk (Kd.R_mono (Kd.R_told (Kd.R_told (Kd.R_old (by (with_reducible repeat (first | apply Kd.R_alloc | apply Kd.R_drewN | apply Kd.R_drew)); exact (Kd.R_mono (Kd.R_far (p := ⟨gb178, 1, none⟩) (Kd.R_far (p := ⟨gb178, 0, none⟩) (Kd.R_types HO177.out BK178.out (by decide)) (fun _ hk => hk.2) (.int .i64 t174)) (fun _ hk => hk.2) (.slice Ao40 t175.length co40)) (fun _ h_ => h_.1))) hb) (Kd.R_base ho0)) (Kd.R_base ho1)) (fun _ h_ => h_.1)); have n1_ := Aside0.mk (Kd.R_lower (Kd.R_new' ho0 (Kd.R_lt (by (with_reducible repeat (first | apply Kd.R_alloc | apply Kd.R_drewN | apply Kd.R_drew)); exact (Kd.R_mono (Kd.R_far (p := ⟨gb178, 1, none⟩) (Kd.R_far (p := ⟨gb178, 0, none⟩) (Kd.R_types HO177.out BK178.out (by decide)) (fun _ hk => hk.2) (.int .i64 t174)) (fun _ hk => hk.2) (.slice Ao40 t175.length co40)) (fun _ h_ => h_.1))))) (below_size bq)); have n2_ := Aside0.mk (Kd.R_lower (Kd.R_new' ho1 (Kd.R_lt (by (with_reducible repeat (first | apply Kd.R_alloc | apply Kd.R_drewN | apply Kd.R_drew)); exact (Kd.R_mono (Kd.R_far (p := ⟨gb178, 1, none⟩) (Kd.R_far (p := ⟨gb178, 0, none⟩) (Kd.R_types HO177.out BK178.out (by decide)) (fun _ hk => hk.2) (.int .i64 t174)) (fun _ hk => hk.2) (.slice Ao40 t175.length co40)) (fun _ h_ => h_.1))))) (below_size bq)); have n3_ := Aside0.mk (blk_below (g := gb171) (o := .cells #[.slice A0_0 l0_0.length c0_0, .slice A0_1 l0_1.length c0_1] 27 (0, 0)) (by (with_reducible repeat (first | refine blk_drewN ?_ _ | refine blk_drew ?_ | refine blk_alloc ?_ _)); refine blk_far ?_ NB171_178.out _; (with_reducible repeat (first | refine blk_drewN ?_ _ | refine blk_drew ?_ | refine blk_alloc ?_ _)); refine blk_far ?_ NB171_178.out _; (with_reducible repeat (first | refine blk_drewN ?_ _ | refine blk_drew ?_ | refine blk_alloc ?_ _)); exact BK171.out) hb); have n4_ := Aside0.mk (blk_below (g := gb172) (o := .cells #[.int .i64 0, .slice none 0 0, .slice none 0 0] 46 (0, 0)) (by (with_reducible repeat (first | refine blk_drewN ?_ _ | refine blk_drew ?_ | refine blk_alloc ?_ _)); refine blk_far ?_ NB172_178.out _; (with_reducible repeat (first | refine blk_drewN ?_ _ | refine blk_drew ?_ | refine blk_alloc ?_ _)); refine blk_far ?_ NB172_178.out _; (with_reducible repeat (first | refine blk_drewN ?_ _ | refine blk_drew ?_ | refine blk_alloc ?_ _)); exact BK172.out) hb); have n5_ := Aside0.mk (blk_below (g := gb178) (o := .cells #[.int .i64 t174, .slice Ao40 t175.length co40] 32 (0, 0)) (by (with_reducible repeat (first | refine blk_drewN ?_ _ | refine blk_drew ?_ | refine blk_alloc ?_ _)); refine blk_put (cs := #[.int .i64 t174, .slice none 0 0]) ?_ 1 _ rfl; (with_reducible repeat (first | refine blk_drewN ?_ _ | refine blk_drew ?_ | refine blk_alloc ?_ _)); refine blk_put (cs := #[.int .i64 0, .slice none 0 0]) ?_ 0 _ rfl; (with_reducible repeat (first | refine blk_drewN ?_ _ | refine blk_drew ?_ | refine blk_alloc ?_ _)); exact BK178.out) hb); have n6_ := Aside0.mk (below_step bq hb); revert n0_ n1_ n2_ n3_ n4_ n5_ n6_; clear HO177 BK171 BK172 BK178 HB; intro HO177 HO181 HO184 BK171 BK172 BK178 HB; (try clear hb); (try clear hb2); (try clear hk); (try clear hi); (try clear ho0); (try clear ho1)) | ((with_reducible refine gate_dst (N := 7) rfl ?_); refine q_box (N := 7) (cs := #[.slice none 0 0, .slice none 0 0]) (t := 27) ?_; intro gb186 hg w43 hbox hb; have n0_ := Aside0.mk (Kd.R_below (q_r (HO177.out)) hb); have n1_ := Aside0.mk (Kd.R_below (q_r (HO181.out)) hb); have n2_ := Aside0.mk (Kd.R_below (q_r (HO184.out)) hb); have n3_ := Aside0.mk (blk_below (q_b BK171.out) hb); have n4_ := Aside0.mk (blk_below (q_b BK172.out) hb); have n5_ := Aside0.mk (blk_below (q_b BK178.out) hb); have n6_ := Aside0.mk (below_step bq hb); have n7_ := Aside0.mk (hbox); have n8_ := Aside0.mk ((q_g hg bq : w.heap.size ≤ gb186)); have n9_ := Aside0.mk ((q_g hg bq : w.heap.size ≤ gb186)); have n10_ := Aside0.mk ((q_n hg (q_b BK171.out) : gb171 ≠ gb186)); have n11_ := Aside0.mk ((q_m hg (q_b BK171.out) : gb186 ≠ gb171)); have n12_ := Aside0.mk ((q_n hg (q_b BK172.out) : gb172 ≠ gb186)); have n13_ := Aside0.mk ((q_m hg (q_b BK172.out) : gb186 ≠ gb172)); have n14_ := Aside0.mk ((q_n hg (q_b BK178.out) : gb178 ≠ gb186)); have n15_ := Aside0.mk ((q_m hg (q_b BK178.out) : gb186 ≠ gb178)); revert n0_ n1_ n2_ n3_ n4_ n5_ n6_ n7_ n8_ n9_ n10_ n11_ n12_ n13_ n14_ n15_; clear HO177 HO181 HO184 BK171 BK172 BK178 HB; intro HO177 HO181 HO184 BK171 BK172 BK178 HB BK186 GW186 GE186 NB171_186 NB186_171 NB172_186 NB186_172 NB178_186 NB186_178; clear hb hbox hg; obtain ⟨Ao44, co44, eo44⟩ := Kd.R_slice HO181.out; subst eo44; have hnb45 := NB186_171.out; have hnc45 := NB171_186.out; have hnb46 := NB186_172.out; have hnc46 := NB172_186.out; have hnb47 := NB186_178.out; have hnc47 := NB178_186.out; obtain ⟨hcz48_0, hcz48_1, hfz48_0, hfz48_1⟩ := q_2 BK186.out; obtain ⟨Ao49, co49, eo49⟩ := Kd.R_slice HO184.out; subst eo49; obtain ⟨hcz50_0, hcz50_1, hcz50_2, hfz50_0, hfz50_1, hfz50_2⟩ := q_3 BK172.out))
    refine bodyPost_ret (results_cell_row rfl _ _ gb172 46 #[.int .i64 t185, .slice none 0 0, .slice none 0 0] (0, 0) _ rfl (by (with_reducible repeat (first | refine blk_drewN ?_ _ | refine blk_drew ?_ | refine blk_alloc ?_ _)); refine blk_put (cs := #[.int .i64 t185, .slice none 0 0, .slice none 0 0]) ?_ 2 _ rfl; (with_reducible repeat (first | refine blk_drewN ?_ _ | refine blk_drew ?_ | refine blk_alloc ?_ _)); refine blk_put (cs := #[.int .i64 t185, .slice none 0 0, .slice none 0 0]) ?_ 1 _ rfl; (with_reducible repeat (first | refine blk_drewN ?_ _ | refine blk_drew ?_ | refine blk_alloc ?_ _)); refine blk_put (cs := #[.int .i64 0, .slice none 0 0, .slice none 0 0]) ?_ 0 _ rfl; (with_reducible repeat (first | refine blk_drewN ?_ _ | refine blk_drew ?_ | refine blk_alloc ?_ _)); refine blk_far ?_ NB172_186.out _; (with_reducible repeat (first | refine blk_drewN ?_ _ | refine blk_drew ?_ | refine blk_alloc ?_ _)); refine blk_far ?_ NB172_186.out _; (with_reducible repeat (first | refine blk_drewN ?_ _ | refine blk_drew ?_ | refine blk_alloc ?_ _)); exact BK172.out) Try.underlying46 rfl (by kernel_rfl)) rfl ?_
    exact ⟨_, _, q_e, by first | exact Kd.R_nil _ _ _ _ _ | exact Kd.N_nil _ _ _ _ _ | exact Kd.V_nil _ _ _ _ _ | exact Kd.Q_nil _ _ _ _ _ | exact Kd.S_nil _ _ _ _ _, by first | exact Kd.R_nil _ _ _ _ _ | exact Kd.N_nil _ _ _ _ _ | exact Kd.V_nil _ _ _ _ _ | exact Kd.Q_nil _ _ _ _ _ | exact Kd.S_nil _ _ _ _ _, bq⟩
  ·rw [if_neg c6] at H
   have c6b0 : (t174 == 0) = false := beq_eq_false_iff_ne.mpr c6
   have c6b1 : (t174 != 0) = true := bne_iff_ne.mpr c6
   simp only [Option.some.injEq, Prod.mk.injEq] at H
   obtain ⟨rfl, rfl, rfl⟩ := H
   go_enter Try.func45, Try.ntmps45
   go_wp2_with (first | ((with_reducible refine gate_dst (N := 2) rfl ?_); refine q_box (N := 2) (cs := #[.slice A0_0 l0_0.length c0_0, .slice A0_1 l0_1.length c0_1]) (t := 27) ?_; intro gb171 hg w51 hbox hb; have n0_ := Aside0.mk (below_step bq hb); have n1_ := Aside0.mk (hbox); have n2_ := Aside0.mk ((q_g hg bq : w.heap.size ≤ gb171)); have n3_ := Aside0.mk ((q_g hg bq : w.heap.size ≤ gb171)); revert n0_ n1_ n2_ n3_; clear HB; intro HB BK171 GW171 GE171; clear hb hbox hg) | ((with_reducible refine gate_dst (N := 4) rfl ?_); refine q_box (N := 4) (cs := #[.int .i64 0, .slice none 0 0, .slice none 0 0]) (t := 46) ?_; intro gb172 hg w52 hbox hb; have n0_ := Aside0.mk (blk_below (q_b BK171.out) hb); have n1_ := Aside0.mk (below_step bq hb); have n2_ := Aside0.mk (hbox); have n3_ := Aside0.mk ((q_g hg bq : w.heap.size ≤ gb172)); have n4_ := Aside0.mk ((q_g hg bq : w.heap.size ≤ gb172)); have n5_ := Aside0.mk ((q_n hg (q_b BK171.out) : gb171 ≠ gb172)); have n6_ := Aside0.mk ((q_m hg (q_b BK171.out) : gb172 ≠ gb171)); revert n0_ n1_ n2_ n3_ n4_ n5_ n6_; clear BK171 HB; intro BK171 HB BK172 GW172 GE172 NB171_172 NB172_171; clear hb hbox hg; have hnb53 := NB171_172.out; have hnc53 := NB172_171.out; obtain ⟨hcz54_0, hcz54_1, hfz54_0, hfz54_1⟩ := q_2 BK171.out) | ((with_reducible refine gate_callee (f := 15) rfl ?_); refine goesLq (some 10) rfl rfl Try.func15 (by kernel_rfl) rfl #[.agg #[.slice A0_0 l0_0.length c0_0, .slice A0_1 l0_1.length c0_1]] rfl ?_; (with_reducible refine (spec_LogFault.calls _ _ l0_0 _ _ l0_1 t173 _ ?side1 ?side2 ?side3 ?side4 A3.out).mono ?_); (case side1 => exact q_c ((Kd.C_below HR0_0.out HB.out))); (case side2 => exact HC0_0.out); (case side3 => exact q_c ((Kd.C_below HR0_1.out HB.out))); (case side4 => exact HC0_1.out); rintro e w55 ⟨rfl, hb⟩; refine ⟨_, rfl, ?_⟩; have n0_ := Aside0.mk (blk_below (q_b BK171.out) hb); have n1_ := Aside0.mk (blk_below (q_b BK172.out) hb); have n2_ := Aside0.mk (below_step bq hb); revert n0_ n1_ n2_; clear BK171 BK172 HB; intro BK171 BK172 HB; (try clear hb); (try clear hb2); (try clear hk); (try clear hi)) | ((with_reducible refine gate_callee (f := 19) rfl ?_); refine goesLq (some 16) rfl rfl Try.func19 (by kernel_rfl) rfl #[.slice A1 l1.length c1] rfl ?_; (with_reducible refine (spec_FrameRecord.calls k _ _ l1 t174 t175 _ ?side1 ?side2 A5.out).mono ?_); (case side1 => exact q_c ((Kd.C_below HR1.out HB.out))); (case side2 => exact HC1.out); rintro e w56 ⟨v176, rfl, ho0, hb⟩; refine ⟨_, rfl, ?_⟩; have n0_ := Aside0.mk (Kd.R_lower ho0 (below_size bq)); have n1_ := Aside0.mk (blk_below (q_b BK171.out) hb); have n2_ := Aside0.mk (blk_below (q_b BK172.out) hb); have n3_ := Aside0.mk (below_step bq hb); revert n0_ n1_ n2_ n3_; clear BK171 BK172 HB; intro HO177 BK171 BK172 HB; (try clear hb); (try clear hb2); (try clear hk); (try clear hi); (try clear ho0)) | ((with_reducible refine gate_dst (N := 6) rfl ?_); refine q_box (N := 6) (cs := #[.int .i64 0, .slice none 0 0]) (t := 32) ?_; intro gb178 hg w57 hbox hb; have n0_ := Aside0.mk (Kd.R_below (q_r (HO177.out)) hb); have n1_ := Aside0.mk (blk_below (q_b BK171.out) hb); have n2_ := Aside0.mk (blk_below (q_b BK172.out) hb); have n3_ := Aside0.mk (below_step bq hb); have n4_ := Aside0.mk (hbox); have n5_ := Aside0.mk ((q_g hg bq : w.heap.size ≤ gb178)); have n6_ := Aside0.mk ((q_g hg bq : w.heap.size ≤ gb178)); have n7_ := Aside0.mk ((q_n hg (q_b BK171.out) : gb171 ≠ gb178)); have n8_ := Aside0.mk ((q_m hg (q_b BK171.out) : gb178 ≠ gb171)); have n9_ := Aside0.mk ((q_n hg (q_b BK172.out) : gb172 ≠ gb178)); have n10_ := Aside0.mk ((q_m hg (q_b BK172.out) : gb178 ≠ gb172)); revert n0_ n1_ n2_ n3_ n4_ n5_ n6_ n7_ n8_ n9_ n10_; clear HO177 BK171 BK172 HB; intro HO177 BK171 BK172 HB BK178 GW178 GE178 NB171_178 NB178_171 NB172_178 NB178_172; clear hb hbox hg; have hnb58 := NB178_171.out; have hnc58 := NB171_178.out; have hnb59 := NB178_172.out; have hnc59 := NB172_178.out; obtain ⟨hcz60_0, hcz60_1, hfz60_0, hfz60_1⟩ := q_2 BK178.out; obtain ⟨Ao61, co61, eo61⟩ := Kd.R_slice HO177.out; subst eo61; obtain ⟨hcz62_0, hcz62_1, hcz62_2, hfz62_0, hfz62_1, hfz62_2⟩ := q_3 BK172.out))
   refine bodyPost_ret (results_cell_row rfl _ _ gb172 46 #[.int .i64 t174, .slice none 0 0, .slice none 0 0] (0, 0) _ rfl (by (with_reducible repeat (first | refine blk_drewN ?_ _ | refine blk_drew ?_ | refine blk_alloc ?_ _)); refine blk_put (cs := #[.int .i64 t174, .slice none 0 0, .slice none 0 0]) ?_ 2 _ rfl; (with_reducible repeat (first | refine blk_drewN ?_ _ | refine blk_drew ?_ | refine blk_alloc ?_ _)); refine blk_put (cs := #[.int .i64 t174, .slice none 0 0, .slice none 0 0]) ?_ 1 _ rfl; (with_reducible repeat (first | refine blk_drewN ?_ _ | refine blk_drew ?_ | refine blk_alloc ?_ _)); refine blk_put (cs := #[.int .i64 0, .slice none 0 0, .slice none 0 0]) ?_ 0 _ rfl; (with_reducible repeat (first | refine blk_drewN ?_ _ | refine blk_drew ?_ | refine blk_alloc ?_ _)); refine blk_far ?_ NB172_178.out _; (with_reducible repeat (first | refine blk_drewN ?_ _ | refine blk_drew ?_ | refine blk_alloc ?_ _)); refine blk_far ?_ NB172_178.out _; (with_reducible repeat (first | refine blk_drewN ?_ _ | refine blk_drew ?_ | refine blk_alloc ?_ _)); exact BK172.out) Try.underlying46 rfl (by kernel_rfl)) rfl ?_
   exact ⟨_, _, q_e, by first | exact Kd.R_nil _ _ _ _ _ | exact Kd.N_nil _ _ _ _ _ | exact Kd.V_nil _ _ _ _ _ | exact Kd.Q_nil _ _ _ _ _ | exact Kd.S_nil _ _ _ _ _, by first | exact Kd.R_nil _ _ _ _ _ | exact Kd.N_nil _ _ _ _ _ | exact Kd.V_nil _ _ _ _ _ | exact Kd.Q_nil _ _ _ _ _ | exact Kd.S_nil _ _ _ _ _, bq⟩
 ·rw [if_neg c4] at H
  have c4b0 : (t173 == 0) = false := beq_eq_false_iff_ne.mpr c4
  have c4b1 : (t173 != 0) = true := bne_iff_ne.mpr c4
  simp only [Option.some.injEq, Prod.mk.injEq] at H
  obtain ⟨rfl, rfl, rfl⟩ := H
  go_enter Try.func45, Try.ntmps45
  go_wp2_with (first | ((with_reducible refine gate_dst (N := 2) rfl ?_); refine q_box (N := 2) (cs := #[.slice A0_0 l0_0.length c0_0, .slice A0_1 l0_1.length c0_1]) (t := 27) ?_; intro gb171 hg w63 hbox hb; have n0_ := Aside0.mk (below_step bq hb); have n1_ := Aside0.mk (hbox); have n2_ := Aside0.mk ((q_g hg bq : w.heap.size ≤ gb171)); have n3_ := Aside0.mk ((q_g hg bq : w.heap.size ≤ gb171)); revert n0_ n1_ n2_ n3_; clear HB; intro HB BK171 GW171 GE171; clear hb hbox hg) | ((with_reducible refine gate_dst (N := 4) rfl ?_); refine q_box (N := 4) (cs := #[.int .i64 0, .slice none 0 0, .slice none 0 0]) (t := 46) ?_; intro gb172 hg w64 hbox hb; have n0_ := Aside0.mk (blk_below (q_b BK171.out) hb); have n1_ := Aside0.mk (below_step bq hb); have n2_ := Aside0.mk (hbox); have n3_ := Aside0.mk ((q_g hg bq : w.heap.size ≤ gb172)); have n4_ := Aside0.mk ((q_g hg bq : w.heap.size ≤ gb172)); have n5_ := Aside0.mk ((q_n hg (q_b BK171.out) : gb171 ≠ gb172)); have n6_ := Aside0.mk ((q_m hg (q_b BK171.out) : gb172 ≠ gb171)); revert n0_ n1_ n2_ n3_ n4_ n5_ n6_; clear BK171 HB; intro BK171 HB BK172 GW172 GE172 NB171_172 NB172_171; clear hb hbox hg; have hnb65 := NB171_172.out; have hnc65 := NB172_171.out; obtain ⟨hcz66_0, hcz66_1, hfz66_0, hfz66_1⟩ := q_2 BK171.out) | ((with_reducible refine gate_callee (f := 15) rfl ?_); refine goesLq (some 10) rfl rfl Try.func15 (by kernel_rfl) rfl #[.agg #[.slice A0_0 l0_0.length c0_0, .slice A0_1 l0_1.length c0_1]] rfl ?_; (with_reducible refine (spec_LogFault.calls _ _ l0_0 _ _ l0_1 t173 _ ?side1 ?side2 ?side3 ?side4 A3.out).mono ?_); (case side1 => exact q_c ((Kd.C_below HR0_0.out HB.out))); (case side2 => exact HC0_0.out); (case side3 => exact q_c ((Kd.C_below HR0_1.out HB.out))); (case side4 => exact HC0_1.out); rintro e w67 ⟨rfl, hb⟩; refine ⟨_, rfl, ?_⟩; have n0_ := Aside0.mk (blk_below (q_b BK171.out) hb); have n1_ := Aside0.mk (blk_below (q_b BK172.out) hb); have n2_ := Aside0.mk (below_step bq hb); revert n0_ n1_ n2_; clear BK171 BK172 HB; intro BK171 BK172 HB; (try clear hb); (try clear hb2); (try clear hk); (try clear hi); obtain ⟨hcz68_0, hcz68_1, hcz68_2, hfz68_0, hfz68_1, hfz68_2⟩ := q_3 BK172.out))
  refine bodyPost_ret (results_cell_row rfl _ _ gb172 46 #[.int .i64 t173, .slice none 0 0, .slice none 0 0] (0, 0) _ rfl (by (with_reducible repeat (first | refine blk_drewN ?_ _ | refine blk_drew ?_ | refine blk_alloc ?_ _)); refine blk_put (cs := #[.int .i64 t173, .slice none 0 0, .slice none 0 0]) ?_ 2 _ rfl; (with_reducible repeat (first | refine blk_drewN ?_ _ | refine blk_drew ?_ | refine blk_alloc ?_ _)); refine blk_put (cs := #[.int .i64 t173, .slice none 0 0, .slice none 0 0]) ?_ 1 _ rfl; (with_reducible repeat (first | refine blk_drewN ?_ _ | refine blk_drew ?_ | refine blk_alloc ?_ _)); refine blk_put (cs := #[.int .i64 0, .slice none 0 0, .slice none 0 0]) ?_ 0 _ rfl; (with_reducible repeat (first | refine blk_drewN ?_ _ | refine blk_drew ?_ | refine blk_alloc ?_ _)); exact BK172.out) Try.underlying46 rfl (by kernel_rfl)) rfl ?_
  exact ⟨_, _, q_e, by first | exact Kd.R_nil _ _ _ _ _ | exact Kd.N_nil _ _ _ _ _ | exact Kd.V_nil _ _ _ _ _ | exact Kd.Q_nil _ _ _ _ _ | exact Kd.S_nil _ _ _ _ _, by first | exact Kd.R_nil _ _ _ _ _ | exact Kd.N_nil _ _ _ _ _ | exact Kd.V_nil _ _ _ _ _ | exact Kd.Q_nil _ _ _ _ _ | exact Kd.S_nil _ _ _ _ _, bq⟩

end Go.Proofs.Ytcdpiejcdeedoaa.PFnAppends
