/- The functions that a law reaches, each as a plain Lean function with the proof that the machine comes to its answer: written by program (the kit's print, turned by wip/gen). No conditions. -/
import Derived.Test.YtdhlcnlcpjlliaaPFnExactUnpackWritesx0
import Derived.Test.YtdhlcnlcpjlliaaPFnExactUnpackWritesx5
import Derived.Test.YtdhlcnlcpjlliaaPFnExactUnpackWritesx6
namespace Go.Proofs.Ytdhlcnlcpjlliaa.PFnExactUnpackWrites
open Go.RowKit Go.Proofs.YtdhlcnlcpjlliaaW.PrintWords Go.Proofs.YtdhlcnlcpjlliaaW.PrintLast Go.Proofs.YtdhlcnlcpjlliaaW.PrintMore
attribute [local go_sem] max2_int min2_int max_two min_two max_three min_three max_four min_four   -- for this text's walks alone
set_option linter.unusedVariables false
set_option linter.unusedSimpArgs false

/-! ### impl_packWrites: function 77 -/
mutual
def impl_packWrites.l0 : Nat → List Int → List (S92) → Int → Int → Option (List Int)
  | 0, _, _, _, _ => none
  | k + 1, x5, x11, x12, x13 => if x13 < x12 then (if 0 ≤ x13 then (if x13 < (x11.length : Int) then (if (rd_T92 x11 x13).f2 = true then (impl_packWrites.j1 k x5 1 x11 x12 x13 ((rd_T92 x11 x13).f0) ((rd_T92 x11 x13).f1) ((rd_T92 x11 x13).f2)) else (impl_packWrites.j1 k x5 0 x11 x12 x13 ((rd_T92 x11 x13).f0) ((rd_T92 x11 x13).f1) ((rd_T92 x11 x13).f2))) else (none)) else (none)) else (some x5)
def impl_packWrites.j1 : Nat → List Int → Int → List (S92) → Int → Int → ByteArray → ByteArray → Bool → Option (List Int)
  | 0, _, _, _, _, _, _, _, _ => none
  | k + 1, x5, x8, x11, x12, x13, x257000, x257001, x257002 => if x5.length < 140737488355328 then ((some (x5 ++ [x8] : List Int)).bind fun y257 => ((impl_PackText.f x257000).bind fun bt260 => (if y257.length + bt260.2.length < 140737488355328 then ((some (y257 ++ bt260.2 : List Int)).bind fun y264 => (if x257002 = true then (impl_packWrites.l0 k y264 x11 x12 (wrap64 (x13 + 1))) else ((impl_PackText.f x257001).bind fun bt267 => (if y264.length + bt267.2.length < 140737488355328 then (impl_packWrites.l0 k (y264 ++ bt267.2) x11 x12 (wrap64 (x13 + 1))) else (none))))) else (none)))) else (none)
end
def impl_packWrites.f (k : Nat) (a0 : Int) (l1 : List (S92)) : Option (List Int) := (impl_PackNumber.f k a0).bind fun t252 => (impl_packWrites.l0 k t252 l1 (l1.length : Int) 0)
theorem impl_packWrites.mono_l : ∀ k, (∀ y0 y1 y2 y3, LeO (impl_packWrites.l0 k y0 y1 y2 y3) (impl_packWrites.l0 (k + 1) y0 y1 y2 y3)) ∧ (∀ y0 y1 y2 y3 y4 y5 y6 y7, LeO (impl_packWrites.j1 k y0 y1 y2 y3 y4 y5 y6 y7) (impl_packWrites.j1 (k + 1) y0 y1 y2 y3 y4 y5 y6 y7))
  | 0 => ⟨fun _ _ _ _ r h => by simp [impl_packWrites.l0] at h, fun _ _ _ _ _ _ _ _ r h => by simp [impl_packWrites.j1] at h⟩
  | k + 1 => by
    obtain ⟨ih0, ih1⟩ := impl_packWrites.mono_l k
    refine ⟨?_, ?_⟩
    · intro y0 y1 y2 y3
      unfold impl_packWrites.l0
      repeat' first
      | (with_reducible exact ih0 _ _ _ _)
      | (with_reducible exact ih1 _ _ _ _ _ _ _ _)
      | (with_reducible exact impl_PackNumber.mono _ _)
      | (with_reducible exact LeO.refl _)
      | (with_reducible exact LeO.none _)
      | (with_reducible refine LeO.ite ?_ ?_)
      | (with_reducible refine LeO.bind ?_ (fun _ => ?_))
      | exact ih0 _ _ _ _
      | exact ih1 _ _ _ _ _ _ _ _
      | exact impl_PackNumber.mono _ _
      | exact LeO.none _
      | refine LeO.ite ?_ ?_
      | refine LeO.bind ?_ (fun _ => ?_)
    · intro y0 y1 y2 y3 y4 y5 y6 y7
      unfold impl_packWrites.j1
      repeat' first
      | (with_reducible exact ih0 _ _ _ _)
      | (with_reducible exact ih1 _ _ _ _ _ _ _ _)
      | (with_reducible exact impl_PackNumber.mono _ _)
      | (with_reducible exact LeO.refl _)
      | (with_reducible exact LeO.none _)
      | (with_reducible refine LeO.ite ?_ ?_)
      | (with_reducible refine LeO.bind ?_ (fun _ => ?_))
      | exact ih0 _ _ _ _
      | exact ih1 _ _ _ _ _ _ _ _
      | exact impl_PackNumber.mono _ _
      | exact LeO.none _
      | refine LeO.ite ?_ ?_
      | refine LeO.bind ?_ (fun _ => ?_)
theorem impl_packWrites.mono : ∀ a0 a1 k, LeO (impl_packWrites.f k a0 a1) (impl_packWrites.f (k + 1) a0 a1) := by
  intro a0 a1 k
  obtain ⟨ih0, ih1⟩ := impl_packWrites.mono_l k
  unfold impl_packWrites.f
  repeat' first
      | (with_reducible exact ih0 _ _ _ _)
      | (with_reducible exact ih1 _ _ _ _ _ _ _ _)
      | (with_reducible exact impl_PackNumber.mono _ _)
      | (with_reducible exact LeO.refl _)
      | (with_reducible exact LeO.none _)
      | (with_reducible refine LeO.ite ?_ ?_)
      | (with_reducible refine LeO.bind ?_ (fun _ => ?_))
      | exact ih0 _ _ _ _
      | exact ih1 _ _ _ _ _ _ _ _
      | exact impl_PackNumber.mono _ _
      | exact LeO.none _
      | refine LeO.ite ?_ ?_
      | refine LeO.bind ?_ (fun _ => ?_)
def impl_packWrites.T8 : Bool × List (List Nat × List Nat) := (true, [([], []), ([], []), ([1], [1]), ([0, 2], [0, 2]), ([], []), ([4], [4]), ([5, 3], [5]), ([6], [6]), ([3, 7, 6], [3, 7]), ([8, 8, 0, 1, 2, 3, 4, 5, 6, 7, 8], [0, 8])])
def impl_packWrites.B8 : List Nat := [0, 0, 2, 7, 0, 16, 63, 127, 255, 511]
theorem impl_packWrites.tab8 : rtab .any (opsOf Try.f77 8) = impl_packWrites.T8 := by kernel_rfl
theorem impl_packWrites.bits8 : waitsOk impl_packWrites.T8.2 impl_packWrites.B8 = true := by kernel_rfl
attribute [local go_sem] Instr.field asAgg
set_option maxHeartbeats 8000000 in
set_option maxRecDepth 100000 in
theorem impl_packWrites.calls (k : Nat) (a0 : Int) (A1 : Option Addr) (c1 : Nat) (l1 : List (S92)) (r : List Int) (w : World) (hr1 : Kd.C k92 w A1 l1.length l1) (hc1 : l1.length ≤ c1) (h : impl_packWrites.f k a0 l1 = some r) :
  Calls Try.prog 77 #[.int .i64 a0, .slice A1 l1.length c1] w fun e w' => ∃ v0_ : Value, e = .returned (v0_) ∧ Kd.R (Kd.int .u8) 5 w' w.heap.size (fun _ => True) v0_ r ∧ Below w.heap.size w w' := by
 have hu92 := Try.underlying92
 have hu55 := Try.underlying55
 have HR1 := Aside0.mk hr1
 have HC1 := Aside0.mk hc1
 clear hr1 hc1
 have HB := Aside0.mk (Below.refl w.heap.size w)
 have H : ((impl_PackNumber.f k a0).bind fun t252 => (impl_packWrites.l0 k t252 l1 (l1.length : Int) 0)) = some r := h
 clear h
 replace H := Option.bind_eq_some_iff.mp H
 obtain ⟨t252, A30, H⟩ := H
 replace H : (impl_packWrites.l0 k t252 l1 (l1.length : Int) 0) = some r := H
 have A3 := Aside0.mk A30
 clear A30
 have H' := Aside0.mk H
 clear H
 go_enter Try.func77, Try.ntmps77
 go_wp2_with (first | ((with_reducible refine gate_callee (f := 111) rfl ?_); refine goesLq (some 10) rfl rfl Try.func111 (by kernel_rfl) rfl #[.int .i64 a0] rfl ?_; (with_reducible refine (impl_PackNumber.calls k a0 t252 _ A3.out).mono ?_); rintro e w4 ⟨v253, rfl, ho0, hb⟩; refine ⟨_, rfl, ?_⟩; have n0_ := Aside0.mk (Kd.R_lower ho0 (below_size bq)); have n1_ := Aside0.mk (below_step bq hb); clear HB; have HO254 := n0_; have HB := n1_; clear n0_ n1_; (try clear hb); (try clear hb2); (try clear hk); (try clear hi); (try clear ho0)))
 go_loopg [5, 13] k (fun kq v5 v13 w' => ∃ (x5_1 : List Int) (x13_1 : Int), v13 = .int .i64 x13_1 ∧ Aside0 (impl_packWrites.l0 kq x5_1 l1 (l1.length : Int) x13_1 = some r) ∧ Aside0 (kq ≤ k) ∧ Aside0 (Kd.R (Kd.int .u8) 5 w' w.heap.size (fun _ => True) v5 x5_1) ∧ Aside0 (Below w.heap.size w w'))
 case atStart => exact ⟨(t252), (0), (by first | rfl | (simp; done) | (simp [*]; done)), H', ⟨Nat.le_refl _⟩, ⟨by (with_reducible repeat (first | apply Kd.R_alloc | apply Kd.R_drewN | apply Kd.R_drew)); exact HO254.out⟩, ⟨bq⟩⟩
 case round =>
  clear H'
  (try clear c1); (try clear p2)
  obtain ⟨x5_1, x13_1, rfl, HA, HK1, HO_5, HB⟩ := hrel
  cases gk with
  | zero => exact absurd HA.out (by simp [impl_packWrites.l0])
  | succ k1 =>
   have H := HA.out
   clear HA
   simp only [impl_packWrites.l0] at H
   by_cases c5 : x13_1 < (l1.length : Int)
   ·rw [if_pos c5] at H
    have c5b0 : decide (x13_1 < (l1.length : Int)) = true := decide_eq_true c5
    clear c5
    by_cases c6 : 0 ≤ x13_1
    ·rw [if_pos c6] at H
     have c6b0 : decide (0 ≤ x13_1) = true := decide_eq_true c6
     clear c6
     by_cases c7 : x13_1 < (l1.length : Int)
     ·rw [if_pos c7] at H
      have c7b0 : decide (x13_1 < (l1.length : Int)) = true := decide_eq_true c7
      clear c7
      have HC8 := Aside0.mk H
      clear H
      have p255 : 0 ≤ (x13_1 : Int) := of_decide_eq_true (by first | (with_reducible assumption) | assumption)
      have q255 : x13_1 < (l1.length : Int) := of_decide_eq_true (by first | (with_reducible assumption) | assumption)
      obtain ⟨ad255, e255, hx255_0, hx255_1, hx255_2⟩ := at_T92 HR1.out x13_1 p255 q255
      cases e255
      replace hx255_0 := (HB.out.cell (World.block_lt_of_cell? w _ hx255_0)).trans hx255_0
      replace hx255_1 := (HB.out.cell (World.block_lt_of_cell? w _ hx255_1)).trans hx255_1
      replace hx255_2 := (HB.out.cell (World.block_lt_of_cell? w _ hx255_2)).trans hx255_2
      replace p255 := eq_true p255
      replace q255 := eq_true q255
      go_upto_if 18 with (first | ((with_reducible refine gate_dst (N := 7) rfl ?_); refine box_event ?hg (N := 7) ?hd (cs := #[.string (⟨#[]⟩ : ByteArray), .string (⟨#[]⟩ : ByteArray), .bool false]) (t := 92) ?hr ?_; (case hd => rfl); (case hg => rfl); (case hr => first | (go_simp; done) | (go_simp; rfl)); intro gb256 hg w9 hbox hb; have n0_ := Aside0.mk (Kd.R_below (by (with_reducible repeat (first | apply Kd.R_alloc | apply Kd.R_drewN | apply Kd.R_drew)); exact HO_5.out) hb); have n1_ := Aside0.mk (below_step bq hb); have n2_ := Aside0.mk (hbox); have n3_ := Aside0.mk ((by rw [hg]; exact (below_size bq) : w.heap.size ≤ gb256)); have n4_ := Aside0.mk ((by rw [hg]; exact (below_size bq) : w.heap.size ≤ gb256)); clear HO_5; clear HB; have HO_5 := n0_; have HB := n1_; have BK256 := n2_; have GW256 := n3_; have GE256 := n4_; clear n0_ n1_ n2_ n3_ n4_; clear hb hbox hg; have hcz10_0 : w9.cell? ⟨gb256, 0, none⟩ = some (.string (⟨#[]⟩ : ByteArray)) := (blk_cell BK256.out 0).trans rfl; have hcz10_1 : w9.cell? ⟨gb256, 1, none⟩ = some (.string (⟨#[]⟩ : ByteArray)) := (blk_cell BK256.out 1).trans rfl; have hcz10_2 : w9.cell? ⟨gb256, 2, none⟩ = some (.bool false) := (blk_cell BK256.out 2).trans rfl; have hfz10_0 := blk_frozen BK256.out 0; have hfz10_1 := blk_frozen BK256.out 1; have hfz10_2 := blk_frozen BK256.out 2))
      (try simp only [Act.put, List.setIfInBounds_toArray, List.set_cons_zero, List.set_cons_succ])
      go_cut [8] (fun v8 wc => ∃ (kq : Nat) (x8_7 : Int), v8 = .int .u8 x8_7 ∧ Aside0 (impl_packWrites.j1 kq x5_1 x8_7 l1 (l1.length : Int) x13_1 ((rd_T92 l1 x13_1).f0) ((rd_T92 l1 x13_1).f1) ((rd_T92 l1 x13_1).f2) = some r) ∧ Aside0 (kq ≤ k1) ∧ Aside0 (Kd.R (Kd.int .u8) 5 wc w.heap.size (fun _ => True) u5 x5_1) ∧ Aside0 (wc.heap[gb256]? = some (.cells #[.string ((rd_T92 l1 x13_1).f0), .string ((rd_T92 l1 x13_1).f1), .bool ((rd_T92 l1 x13_1).f2)] 92 (0, 0))) ∧ Aside0 (Below w.heap.size w wc))
      case first =>
       have H := HC8.out
       clear HC8
       obtain ⟨bq11, hbq11⟩ : ∃ b_ : Bool, b_ = ((rd_T92 l1 x13_1).f2) := ⟨_, rfl⟩
       replace H : (if bq11 = true then (impl_packWrites.j1 k1 x5_1 1 l1 (l1.length : Int) x13_1 ((rd_T92 l1 x13_1).f0) ((rd_T92 l1 x13_1).f1) bq11) else (impl_packWrites.j1 k1 x5_1 0 l1 (l1.length : Int) x13_1 ((rd_T92 l1 x13_1).f0) ((rd_T92 l1 x13_1).f1) bq11)) = some r := by rw [← hbq11] at H; exact H
       have Nbq11 := Aside0.mk hbq11
       clear hbq11
       (try rw [← Nbq11.out])
       by_cases c12 : bq11 = true
       ·subst c12
        have H1 : (impl_packWrites.j1 k1 x5_1 1 l1 (l1.length : Int) x13_1 ((rd_T92 l1 x13_1).f0) ((rd_T92 l1 x13_1).f1) true) = some r := by rw [if_pos rfl] at H; exact H
        clear H
        have H := H1
        clear H1
        have H' := Aside0.mk H
        clear H
        go_wp2
        go_meet
        case rel => (try rw [← Nbq11.out]); exact ⟨_, (1), (by first | rfl | (simp; done) | (simp [*]; done)), H', ⟨by have := HK1.out; first | omega | exact Nat.le_refl _⟩, ⟨by (with_reducible repeat (first | apply Kd.R_alloc | apply Kd.R_drewN | apply Kd.R_drew)); exact Kd.R_mono (Kd.R_far (p := ⟨gb256, 2, none⟩) (Kd.R_far (p := ⟨gb256, 1, none⟩) (Kd.R_far (p := ⟨gb256, 0, none⟩) (Kd.R_types HO_5.out BK256.out (by decide)) (fun _ hk => hk.2) (.string ((rd_T92 l1 x13_1).f0))) (fun _ hk => hk.2) (.string ((rd_T92 l1 x13_1).f1))) (fun _ hk => hk.2) (.bool (true))) (fun _ hk => trivial)⟩, ⟨by (with_reducible repeat (first | refine blk_drewN ?_ _ | refine blk_drew ?_ | refine blk_alloc ?_ _)); refine blk_put (cs := #[.string ((rd_T92 l1 x13_1).f0), .string ((rd_T92 l1 x13_1).f1), .bool false]) ?_ 2 _ rfl; (with_reducible repeat (first | refine blk_drewN ?_ _ | refine blk_drew ?_ | refine blk_alloc ?_ _)); refine blk_put (cs := #[.string ((rd_T92 l1 x13_1).f0), .string (⟨#[]⟩ : ByteArray), .bool false]) ?_ 1 _ rfl; (with_reducible repeat (first | refine blk_drewN ?_ _ | refine blk_drew ?_ | refine blk_alloc ?_ _)); refine blk_put (cs := #[.string (⟨#[]⟩ : ByteArray), .string (⟨#[]⟩ : ByteArray), .bool false]) ?_ 0 _ rfl; (with_reducible repeat (first | refine blk_drewN ?_ _ | refine blk_drew ?_ | refine blk_alloc ?_ _)); exact BK256.out⟩, ⟨bq⟩⟩
       ·replace c12 := Bool.eq_false_iff.mpr c12
        subst c12
        have H1 : (impl_packWrites.j1 k1 x5_1 0 l1 (l1.length : Int) x13_1 ((rd_T92 l1 x13_1).f0) ((rd_T92 l1 x13_1).f1) false) = some r := by rw [if_neg (show ¬ (false = true) by decide)] at H; exact H
        clear H
        have H := H1
        clear H1
        have H' := Aside0.mk H
        clear H
        go_wp2
        go_meet
        case rel => (try rw [← Nbq11.out]); exact ⟨_, (0), (by first | rfl | (simp; done) | (simp [*]; done)), H', ⟨by have := HK1.out; first | omega | exact Nat.le_refl _⟩, ⟨by (with_reducible repeat (first | apply Kd.R_alloc | apply Kd.R_drewN | apply Kd.R_drew)); exact Kd.R_mono (Kd.R_far (p := ⟨gb256, 2, none⟩) (Kd.R_far (p := ⟨gb256, 1, none⟩) (Kd.R_far (p := ⟨gb256, 0, none⟩) (Kd.R_types HO_5.out BK256.out (by decide)) (fun _ hk => hk.2) (.string ((rd_T92 l1 x13_1).f0))) (fun _ hk => hk.2) (.string ((rd_T92 l1 x13_1).f1))) (fun _ hk => hk.2) (.bool (false))) (fun _ hk => trivial)⟩, ⟨by (with_reducible repeat (first | refine blk_drewN ?_ _ | refine blk_drew ?_ | refine blk_alloc ?_ _)); refine blk_put (cs := #[.string ((rd_T92 l1 x13_1).f0), .string ((rd_T92 l1 x13_1).f1), .bool false]) ?_ 2 _ rfl; (with_reducible repeat (first | refine blk_drewN ?_ _ | refine blk_drew ?_ | refine blk_alloc ?_ _)); refine blk_put (cs := #[.string ((rd_T92 l1 x13_1).f0), .string (⟨#[]⟩ : ByteArray), .bool false]) ?_ 1 _ rfl; (with_reducible repeat (first | refine blk_drewN ?_ _ | refine blk_drew ?_ | refine blk_alloc ?_ _)); refine blk_put (cs := #[.string (⟨#[]⟩ : ByteArray), .string (⟨#[]⟩ : ByteArray), .bool false]) ?_ 0 _ rfl; (with_reducible repeat (first | refine blk_drewN ?_ _ | refine blk_drew ?_ | refine blk_alloc ?_ _)); exact BK256.out⟩, ⟨bq⟩⟩
      case rest =>
       clear HC8
       (try clear c1); (try clear q1); (try clear p2); (try clear q2); (try clear hx2); (try clear c5); (try clear c5b0); (try clear c6); (try clear c6b0); (try clear c7); (try clear c7b0); (try clear c11)
       (try clear q11); (try clear c12); (try clear hcz10_0); (try clear hcz10_1); (try clear hcz10_2); (try clear hfz10_0); (try clear hfz10_1); (try clear hfz10_2); (try clear hx255_0); (try clear hx255_1)
       (try clear hx255_2); (try clear p2); (try clear p255); (try clear q255)
       obtain ⟨kq, x8_7, rfl, HA, HJ7, HO_5, BK256, HB⟩ := hcut
       cases kq with
       | zero => exact absurd HA.out (by simp [impl_packWrites.j1])
       | succ kj7 =>
        have H := HA.out
        clear HA
        simp only [impl_packWrites.j1] at H
        by_cases c13 : x5_1.length < 140737488355328
        ·rw [if_pos c13] at H
         have LMc13 := Aside0.mk c13
         clear c13
         obtain ⟨y257, hy257⟩ : ∃ y_ : List Int, y_ = (x5_1 ++ [x8_7]) := ⟨_, rfl⟩
         replace H : ((impl_PackText.f ((rd_T92 l1 x13_1).f0)).bind fun bt260 => (if y257.length + bt260.2.length < 140737488355328 then ((some (y257 ++ bt260.2 : List Int)).bind fun y264 => (if ((rd_T92 l1 x13_1).f2) = true then (impl_packWrites.l0 kj7 y264 l1 (l1.length : Int) (wrap64 (x13_1 + 1))) else ((impl_PackText.f ((rd_T92 l1 x13_1).f1)).bind fun bt267 => (if y264.length + bt267.2.length < 140737488355328 then (impl_packWrites.l0 kj7 (y264 ++ bt267.2) l1 (l1.length : Int) (wrap64 (x13_1 + 1))) else (none))))) else (none))) = some r := by first | (rw [hy257]; with_reducible exact H) | (have H2_ := (Option.bind_some _ _).symm.trans H; rw [hy257]; with_reducible exact H2_) | (have H2_ := (Option.bind_some _ _).symm.trans H; with_reducible exact H2_) | with_reducible exact H | (rw [hy257]; exact H) | exact H
         have Ny257 := Aside0.mk hy257
         clear hy257
         replace H := Option.bind_eq_some_iff.mp H
         obtain ⟨⟨t260, t261⟩, A140, H⟩ := H
         replace H : (if y257.length + t261.length < 140737488355328 then ((some (y257 ++ t261 : List Int)).bind fun y264 => (if ((rd_T92 l1 x13_1).f2) = true then (impl_packWrites.l0 kj7 y264 l1 (l1.length : Int) (wrap64 (x13_1 + 1))) else ((impl_PackText.f ((rd_T92 l1 x13_1).f1)).bind fun bt267 => (if y264.length + bt267.2.length < 140737488355328 then (impl_packWrites.l0 kj7 (y264 ++ bt267.2) l1 (l1.length : Int) (wrap64 (x13_1 + 1))) else (none))))) else (none)) = some r := H
         have A14 := Aside0.mk A140
         clear A140
         by_cases c15 : y257.length + t261.length < 140737488355328
         ·rw [if_pos c15] at H
          have LMc15 := Aside0.mk c15
          clear c15
          obtain ⟨y264, hy264⟩ : ∃ y_ : List Int, y_ = (y257 ++ t261) := ⟨_, rfl⟩
          replace H : (if ((rd_T92 l1 x13_1).f2) = true then (impl_packWrites.l0 kj7 y264 l1 (l1.length : Int) (wrap64 (x13_1 + 1))) else ((impl_PackText.f ((rd_T92 l1 x13_1).f1)).bind fun bt267 => (if y264.length + bt267.2.length < 140737488355328 then (impl_packWrites.l0 kj7 (y264 ++ bt267.2) l1 (l1.length : Int) (wrap64 (x13_1 + 1))) else (none)))) = some r := by first | (rw [hy264]; with_reducible exact H) | (have H2_ := (Option.bind_some _ _).symm.trans H; rw [hy264]; with_reducible exact H2_) | (have H2_ := (Option.bind_some _ _).symm.trans H; with_reducible exact H2_) | with_reducible exact H | (rw [hy264]; exact H) | exact H
          have Ny264 := Aside0.mk hy264
          clear hy264
          by_cases c16 : ((rd_T92 l1 x13_1).f2) = true
          ·rw [if_pos c16] at H
           have c16b0 : ((rd_T92 l1 x13_1).f2) = true := c16
           clear c16
           have H' := Aside0.mk H
           clear H
           try go_wp2
           have n0_ := Aside0.mk (Kd.R_drew HO_5.out)
           have n1_ := Aside0.mk (blk_drew BK256.out)
           have n2_ := Aside0.mk (below_drew1 HB.out)
           clear HO_5
           clear BK256
           clear HB
           have HO_5 := n0_
           have BK256 := n1_
           have HB := n2_
           clear n0_ n1_ n2_
           refine start_ (n := 10) (S := fun w' => w'.cell? ⟨gb256, 0, none⟩ = some (.string ((rd_T92 l1 x13_1).f0)) ∧ w'.cell? ⟨gb256, 1, none⟩ = some (.string ((rd_T92 l1 x13_1).f1)) ∧ w'.cell? ⟨gb256, 2, none⟩ = some (.bool ((rd_T92 l1 x13_1).f2))) (ds := []) #[false, false, false, false, false, false, false, false, false, false] (by kernel_rfl) rfl rfl ⟨(blk_cell BK256.out 0).trans rfl, (blk_cell BK256.out 1).trans rfl, (blk_cell BK256.out 2).trans rfl⟩ (fun hHeld => ?_); refine with_tabW impl_packWrites.tab8 impl_packWrites.bits8 (fun HT_ HW_ => ?_)
           generalize wc.drew = w17 at HO_5 BK256 HB hHeld ⊢
           refine pure_ (i := 0) (N := some 19) (v := ?_) (a' := ?_) #[true, false, false, false, false, false, false, false, false, false] rfl rfl (any_of HT_.out (by kernel_rfl)) (fun _ _ _ h => h) (Or.inl ⟨by rfl, ?_⟩) ?_ ?_
           rotate_left
           ·intro w'
            go_simp
            (try (simp only [Instr.field, asAgg]; go_simp))
            with_reducible rfl
           rotate_left
           ·simp only [Act.put, List.setIfInBounds_toArray, List.set_cons_zero, List.set_cons_succ, i64_w, i32_w]
            rfl
           refine pure_ (i := 1) (N := some 20) (v := ?_) (a' := ?_) #[true, true, false, false, false, false, false, false, false, false] rfl rfl (any_of HT_.out (by kernel_rfl)) (fun _ _ _ h => h) (Or.inl ⟨by rfl, ?_⟩) ?_ ?_
           rotate_left
           ·intro w'
            go_simp
            (try (simp only [Instr.field, asAgg]; go_simp))
            with_reducible rfl
           rotate_left
           ·simp only [Act.put, List.setIfInBounds_toArray, List.set_cons_zero, List.set_cons_succ, i64_w, i32_w]
            rfl
           refine pure_ (i := 4) (N := some 23) (v := ?_) (a' := ?_) #[true, true, false, false, true, false, false, false, false, false] rfl rfl (any_of HT_.out (by kernel_rfl)) (fun _ _ _ h => h) (Or.inl ⟨by rfl, ?_⟩) ?_ ?_
           rotate_left
           ·intro w'
            go_simp
            (try (simp only [Instr.field, asAgg]; go_simp))
            with_reducible rfl
           rotate_left
           ·simp only [Act.put, List.setIfInBounds_toArray, List.set_cons_zero, List.set_cons_succ, i64_w, i32_w]
            rfl
           refine take_ (i := 5) (N := some 24) (v := ?_) (a' := ?_) #[true, true, false, false, true, true, false, false, false, false] rfl rfl (take_ofW HT_.out HW_.out (by kernel_rfl)) (fun _ _ _ h => h) (Or.inl ⟨by rfl, ?_⟩) hHeld ?_ ?_
           rotate_left
           ·rintro w' ⟨s0, s1, s2⟩
            go_simp
            with_reducible rfl
           rotate_left
           ·simp only [Act.put, List.setIfInBounds_toArray, List.set_cons_zero, List.set_cons_succ, i64_w, i32_w]
            rfl
           refine one_ (i := 2) (N := some 21) #[true, true, true, false, true, true, false, false, false, false] rfl rfl (one_of HT_.out (by kernel_rfl)) (by decide) (fun K hK => ?_)
           refine value_ (w1 := ?_) (v := ?_) (by rfl) rfl ?_ ?_
           rotate_left 2
           ·go_simp
            constructor
            ·rfl
            ·rfl
           refine hK.out _ _ ⟨(blk_cell (blk_alloc BK256.out _) 0).trans rfl, (blk_cell (blk_alloc BK256.out _) 1).trans rfl, (blk_cell (blk_alloc BK256.out _) 2).trans rfl⟩ (fun hHeld => ?_)
           clear hK K
           refine norm_ (a' := ?_) ?_ ?_
           rotate_left
           ·show Act.put _ (some 21) _ = _
            simp only [Act.put, List.setIfInBounds_toArray, List.set_cons_zero, List.set_cons_succ, i64_w, i32_w]
            rfl
           refine one_ (i := 3) (N := some 22) #[true, true, true, true, true, true, false, false, false, false] rfl rfl (one_of HT_.out (by kernel_rfl)) (by decide) (fun K hK => ?_)
           refine Kd.R_append_step (Kd.int .u8) (w0 := w) w.heap.size (by rfl) (.tmp 19) (.tmp 21) 41 5 (.int .u8 0) 1 rfl Try.underlying41 info5 rfl (by decide) (by omega) u5 x5_1 x8_7 [.int .u8 x8_7] (fun _ => True) (fun _ => False) rfl rfl ?aP (fun _ hk => hk.elim) ?aF ?aO ?aB ?aS ?aL ?_
           (case aP => exact rfl)
           (case aB => exact bq)
           (case aF => exact (fun _ _ => trivial))
           (case aO => exact (by (with_reducible repeat (first | apply Kd.R_alloc | apply Kd.R_drewN | apply Kd.R_drew)); exact HO_5.out))
           (case aS => exact (below_size bq))
           (case aL => have := LMc13.out; omega)
           intro v258 w18 ho hb hg hat
           rw [← Ny257.out] at ho
           have n0_ := Aside0.mk (blk_grown (g := gb256) (o := .cells #[.string ((rd_T92 l1 x13_1).f0), .string ((rd_T92 l1 x13_1).f1), .bool ((rd_T92 l1 x13_1).f2)] 92 (0, 0)) kq hg (Kd.R_ne HO_5.out BK256.out (by decide)))
           have n1_ := Aside0.mk (hb)
           have n2_ := Aside0.mk (ho)
           clear BK256
           clear HB
           clear HO_5
           have BK256 := n0_
           have HB := n1_
           have HO259 := n2_
           clear n0_ n1_ n2_
           clear ho hb hg hat
           refine hK.out _ _ ⟨(blk_cell BK256.out 0).trans rfl, (blk_cell BK256.out 1).trans rfl, (blk_cell BK256.out 2).trans rfl⟩ (fun hHeld => ?_)
           clear hK K
           refine norm_ (a' := ?_) ?_ ?_
           rotate_left
           ·show Act.put _ (some 22) _ = _
            simp only [Act.put, List.setIfInBounds_toArray, List.set_cons_zero, List.set_cons_succ, i64_w, i32_w]
            rfl
           refine one_ (i := 6) (N := some 25) #[true, true, true, true, true, true, true, false, false, false] rfl rfl (one_of HT_.out (by kernel_rfl)) (by decide) (fun K hK => ?_)
           refine goes_ Try.func112 (by kernel_rfl) rfl #[.string ((rd_T92 l1 x13_1).f0)] (by rfl) rfl rfl (by (try simp only [List.map_toArray, List.map_cons, List.map_nil]); first | done | rfl | (simp only [List.length_drop, List.length_take]; rfl)) ?_
           with_reducible refine (impl_PackText.calls ((rd_T92 l1 x13_1).f0) t260 t261 _ A14.out).mono ?_
           rintro e w19 ⟨v262, rfl, ho0, hb⟩
           refine ⟨_, rfl, ?_⟩
           have n0_ := Aside0.mk (Kd.R_elder' (by (with_reducible repeat (first | apply Kd.R_alloc | apply Kd.R_drewN | apply Kd.R_drew)); exact HO259.out) (Kd.R_base ho0) hb)
           have n1_ := Aside0.mk (Kd.R_lower (Kd.R_new' ho0 (Kd.R_lt (by (with_reducible repeat (first | apply Kd.R_alloc | apply Kd.R_drewN | apply Kd.R_drew)); exact HO259.out))) (below_size bq))
           have n2_ := Aside0.mk (blk_below (g := gb256) (o := .cells #[.string ((rd_T92 l1 x13_1).f0), .string ((rd_T92 l1 x13_1).f1), .bool ((rd_T92 l1 x13_1).f2)] 92 (0, 0)) kq hb)
           have n3_ := Aside0.mk (below_step bq hb)
           clear HO259
           clear BK256
           clear HB
           have HO259 := n0_
           have HO263 := n1_
           have BK256 := n2_
           have HB := n3_
           clear n0_ n1_ n2_ n3_
           (try clear hb)
           (try clear hb2)
           (try clear hk)
           (try clear hi)
           (try clear ho0)
           obtain ⟨Ao21, co21, eo21⟩ := Kd.R_slice HO263.out
           (first | subst eo21 | (injection eo21 with f1_ f2_ f3_; have f4_ := f1_.symm; have f5_ := f3_.symm; clear f1_ f2_ f3_; subst f4_; subst f5_))
           refine hK.out _ _ ⟨(blk_cell BK256.out 0).trans rfl, (blk_cell BK256.out 1).trans rfl, (blk_cell BK256.out 2).trans rfl⟩ (fun hHeld => ?_)
           clear hK K
           refine norm_ (a' := ?_) ?_ ?_
           rotate_left
           ·show Act.put _ (some 25) _ = _
            simp only [Act.put, List.setIfInBounds_toArray, List.set_cons_zero, List.set_cons_succ, i64_w, i32_w]
            rfl
           refine pure_ (i := 7) (N := some 26) (v := ?_) (a' := ?_) #[true, true, true, true, true, true, true, true, false, false] rfl rfl (any_of HT_.out (by kernel_rfl)) (fun _ _ _ h => h) (Or.inl ⟨by rfl, ?_⟩) ?_ ?_
           rotate_left
           ·intro w'
            go_simp
            (try (simp only [Instr.field, asAgg]; go_simp))
            with_reducible rfl
           rotate_left
           ·simp only [Act.put, List.setIfInBounds_toArray, List.set_cons_zero, List.set_cons_succ, i64_w, i32_w]
            rfl
           refine one_ (i := 8) (N := some 27) #[true, true, true, true, true, true, true, true, true, false] rfl rfl (one_of HT_.out (by kernel_rfl)) (by decide) (fun K hK => ?_)
           refine Kd.R_append_rows_step (Kd.int .u8) (w0 := w) w.heap.size (by rfl) (.tmp 22) (.tmp 26) 41 5 (.int .u8 0) 1 rfl Try.underlying41 info5 rfl (by decide) (by omega) v258 y257 t261 _ _ _ (fun k_ => some k_ ≠ (.slice Ao21 t261.length co21 : Value).ownBlock) (fun _ => False) rfl rfl ?aO ?aR (fun _ _ h => h) (fun _ h => h.elim) ?aF ?aB ?aS ?aL ?_
           (case aR => repeat (first | exact (Kd.R_reads' HO263.out).2.2 | (with_reducible refine Kd.C_alloc ?_ _) | (with_reducible refine Kd.C_drewN ?_ _) | (with_reducible refine Kd.C_drew ?_)))
           (case aB => exact bq)
           (case aF => exact (fun k_ hk => Kd.fresh' (Kd.R_lt (by (with_reducible repeat (first | apply Kd.R_alloc | apply Kd.R_drewN | apply Kd.R_drew)); exact HO263.out)) k_ hk))
           (case aO => exact (by (with_reducible repeat (first | apply Kd.R_alloc | apply Kd.R_drewN | apply Kd.R_drew)); exact Kd.R_mono HO259.out (fun _ hk => hk.2)))
           (case aS => exact (below_size bq))
           (case aL => have := LMc15.out; omega)
           intro v265 w20 ho hb hg hat
           rw [← Ny264.out] at ho
           have n0_ := Aside0.mk (blk_grown (g := gb256) (o := .cells #[.string ((rd_T92 l1 x13_1).f0), .string ((rd_T92 l1 x13_1).f1), .bool ((rd_T92 l1 x13_1).f2)] 92 (0, 0)) kq hg (Kd.R_ne HO259.out BK256.out (by decide)))
           have n1_ := Aside0.mk (Kd.R_after (ok := (fun _ => True)) (by (with_reducible repeat (first | apply Kd.R_alloc | apply Kd.R_drewN | apply Kd.R_drew)); exact HO263.out) hg hat)
           have n2_ := Aside0.mk (hb)
           have n3_ := Aside0.mk (ho)
           clear BK256
           clear HO263
           clear HB
           clear HO259
           have BK256 := n0_
           have HO263 := n1_
           have HB := n2_
           have HO266 := n3_
           clear n0_ n1_ n2_ n3_
           clear ho hb hg hat
           refine hK.out _ _ ⟨(blk_cell BK256.out 0).trans rfl, (blk_cell BK256.out 1).trans rfl, (blk_cell BK256.out 2).trans rfl⟩ (fun hHeld => ?_)
           clear hK K
           refine norm_ (a' := ?_) ?_ ?_
           rotate_left
           ·show Act.put _ (some 27) _ = _
            simp only [Act.put, List.setIfInBounds_toArray, List.set_cons_zero, List.set_cons_succ, i64_w, i32_w]
            rfl
           refine pure_ (i := 9) (N := some 5) (v := ?_) (a' := ?_) #[true, true, true, true, true, true, true, true, true, true] rfl rfl (any_of HT_.out (by kernel_rfl)) (fun _ _ _ h => h) (Or.inl ⟨by rfl, ?_⟩) ?_ ?_
           rotate_left
           ·intro w'
            go_simp
            (try (simp only [Instr.field, asAgg]; go_simp))
            with_reducible rfl
           rotate_left
           ·simp only [Act.put, List.setIfInBounds_toArray, List.set_cons_zero, List.set_cons_succ, i64_w, i32_w]
            rfl
           refine done_ (done_of HT_.out (by kernel_rfl)) ?_
           have hcz22_0 : w20.cell? ⟨gb256, 0, none⟩ = some (.string ((rd_T92 l1 x13_1).f0)) := (blk_cell BK256.out 0).trans rfl
           have hcz22_1 : w20.cell? ⟨gb256, 1, none⟩ = some (.string ((rd_T92 l1 x13_1).f1)) := (blk_cell BK256.out 1).trans rfl
           have hcz22_2 : w20.cell? ⟨gb256, 2, none⟩ = some (.bool ((rd_T92 l1 x13_1).f2)) := (blk_cell BK256.out 2).trans rfl
           have hfz22_0 := blk_frozen BK256.out 0
           have hfz22_1 := blk_frozen BK256.out 1
           have hfz22_2 := blk_frozen BK256.out 2
           try go_wp2
           go_roundg kj7
           case measure => have := HK1.out; have := HJ7.out; omega
           case rel => (try rw [← Nbq11.out]); exact ⟨(y264), (wrap64 (x13_1 + 1)), (by first | rfl | (simp; done) | (simp [*]; done)), H', ⟨by have := HK1.out; have := HJ7.out; omega⟩, ⟨by (with_reducible repeat (first | apply Kd.R_alloc | apply Kd.R_drewN | apply Kd.R_drew)); exact Kd.R_mono HO266.out (fun _ hk => trivial)⟩, ⟨bq⟩⟩
          ·rw [if_neg c16] at H
           have c16b0 : ((rd_T92 l1 x13_1).f2) = false := by simpa using c16
           clear c16
           replace H := Option.bind_eq_some_iff.mp H
           obtain ⟨⟨t267, t268⟩, A230, H⟩ := H
           replace H : (if y264.length + t268.length < 140737488355328 then (impl_packWrites.l0 kj7 (y264 ++ t268) l1 (l1.length : Int) (wrap64 (x13_1 + 1))) else (none)) = some r := H
           have A23 := Aside0.mk A230
           clear A230
           by_cases c24 : y264.length + t268.length < 140737488355328
           ·rw [if_pos c24] at H
            have LMc24 := Aside0.mk c24
            clear c24
            obtain ⟨y271, hy271⟩ : ∃ y_ : List Int, y_ = (y264 ++ t268) := ⟨_, rfl⟩
            replace H : (impl_packWrites.l0 kj7 y271 l1 (l1.length : Int) (wrap64 (x13_1 + 1))) = some r := by first | (rw [hy271]; with_reducible exact H) | (have H2_ := (Option.bind_some _ _).symm.trans H; rw [hy271]; with_reducible exact H2_) | (have H2_ := (Option.bind_some _ _).symm.trans H; with_reducible exact H2_) | with_reducible exact H | (rw [hy271]; exact H) | exact H
            have Ny271 := Aside0.mk hy271
            clear hy271
            have H' := Aside0.mk H
            clear H
            try go_wp2
            have n0_ := Aside0.mk (Kd.R_drew HO_5.out)
            have n1_ := Aside0.mk (blk_drew BK256.out)
            have n2_ := Aside0.mk (below_drew1 HB.out)
            clear HO_5
            clear BK256
            clear HB
            have HO_5 := n0_
            have BK256 := n1_
            have HB := n2_
            clear n0_ n1_ n2_
            refine start_ (n := 10) (S := fun w' => w'.cell? ⟨gb256, 0, none⟩ = some (.string ((rd_T92 l1 x13_1).f0)) ∧ w'.cell? ⟨gb256, 1, none⟩ = some (.string ((rd_T92 l1 x13_1).f1)) ∧ w'.cell? ⟨gb256, 2, none⟩ = some (.bool ((rd_T92 l1 x13_1).f2))) (ds := []) #[false, false, false, false, false, false, false, false, false, false] (by kernel_rfl) rfl rfl ⟨(blk_cell BK256.out 0).trans rfl, (blk_cell BK256.out 1).trans rfl, (blk_cell BK256.out 2).trans rfl⟩ (fun hHeld => ?_); refine with_tabW impl_packWrites.tab8 impl_packWrites.bits8 (fun HT_ HW_ => ?_)
            generalize wc.drew = w25 at HO_5 BK256 HB hHeld ⊢
            refine pure_ (i := 0) (N := some 19) (v := ?_) (a' := ?_) #[true, false, false, false, false, false, false, false, false, false] rfl rfl (any_of HT_.out (by kernel_rfl)) (fun _ _ _ h => h) (Or.inl ⟨by rfl, ?_⟩) ?_ ?_
            rotate_left
            ·intro w'
             go_simp
             (try (simp only [Instr.field, asAgg]; go_simp))
             with_reducible rfl
            rotate_left
            ·simp only [Act.put, List.setIfInBounds_toArray, List.set_cons_zero, List.set_cons_succ, i64_w, i32_w]
             rfl
            refine pure_ (i := 1) (N := some 20) (v := ?_) (a' := ?_) #[true, true, false, false, false, false, false, false, false, false] rfl rfl (any_of HT_.out (by kernel_rfl)) (fun _ _ _ h => h) (Or.inl ⟨by rfl, ?_⟩) ?_ ?_
            rotate_left
            ·intro w'
             go_simp
             (try (simp only [Instr.field, asAgg]; go_simp))
             with_reducible rfl
            rotate_left
            ·simp only [Act.put, List.setIfInBounds_toArray, List.set_cons_zero, List.set_cons_succ, i64_w, i32_w]
             rfl
            refine pure_ (i := 4) (N := some 23) (v := ?_) (a' := ?_) #[true, true, false, false, true, false, false, false, false, false] rfl rfl (any_of HT_.out (by kernel_rfl)) (fun _ _ _ h => h) (Or.inl ⟨by rfl, ?_⟩) ?_ ?_
            rotate_left
            ·intro w'
             go_simp
             (try (simp only [Instr.field, asAgg]; go_simp))
             with_reducible rfl
            rotate_left
            ·simp only [Act.put, List.setIfInBounds_toArray, List.set_cons_zero, List.set_cons_succ, i64_w, i32_w]
             rfl
            refine take_ (i := 5) (N := some 24) (v := ?_) (a' := ?_) #[true, true, false, false, true, true, false, false, false, false] rfl rfl (take_ofW HT_.out HW_.out (by kernel_rfl)) (fun _ _ _ h => h) (Or.inl ⟨by rfl, ?_⟩) hHeld ?_ ?_
            rotate_left
            ·rintro w' ⟨s0, s1, s2⟩
             go_simp
             with_reducible rfl
            rotate_left
            ·simp only [Act.put, List.setIfInBounds_toArray, List.set_cons_zero, List.set_cons_succ, i64_w, i32_w]
             rfl
            refine one_ (i := 2) (N := some 21) #[true, true, true, false, true, true, false, false, false, false] rfl rfl (one_of HT_.out (by kernel_rfl)) (by decide) (fun K hK => ?_)
            refine value_ (w1 := ?_) (v := ?_) (by rfl) rfl ?_ ?_
            rotate_left 2
            ·go_simp
             constructor
             ·rfl
             ·rfl
            refine hK.out _ _ ⟨(blk_cell (blk_alloc BK256.out _) 0).trans rfl, (blk_cell (blk_alloc BK256.out _) 1).trans rfl, (blk_cell (blk_alloc BK256.out _) 2).trans rfl⟩ (fun hHeld => ?_)
            clear hK K
            refine norm_ (a' := ?_) ?_ ?_
            rotate_left
            ·show Act.put _ (some 21) _ = _
             simp only [Act.put, List.setIfInBounds_toArray, List.set_cons_zero, List.set_cons_succ, i64_w, i32_w]
             rfl
            refine one_ (i := 3) (N := some 22) #[true, true, true, true, true, true, false, false, false, false] rfl rfl (one_of HT_.out (by kernel_rfl)) (by decide) (fun K hK => ?_)
            refine Kd.R_append_step (Kd.int .u8) (w0 := w) w.heap.size (by rfl) (.tmp 19) (.tmp 21) 41 5 (.int .u8 0) 1 rfl Try.underlying41 info5 rfl (by decide) (by omega) u5 x5_1 x8_7 [.int .u8 x8_7] (fun _ => True) (fun _ => False) rfl rfl ?aP (fun _ hk => hk.elim) ?aF ?aO ?aB ?aS ?aL ?_
            (case aP => exact rfl)
            (case aB => exact bq)
            (case aF => exact (fun _ _ => trivial))
            (case aO => exact (by (with_reducible repeat (first | apply Kd.R_alloc | apply Kd.R_drewN | apply Kd.R_drew)); exact HO_5.out))
            (case aS => exact (below_size bq))
            (case aL => have := LMc13.out; omega)
            intro v258 w26 ho hb hg hat
            rw [← Ny257.out] at ho
            have n0_ := Aside0.mk (blk_grown (g := gb256) (o := .cells #[.string ((rd_T92 l1 x13_1).f0), .string ((rd_T92 l1 x13_1).f1), .bool ((rd_T92 l1 x13_1).f2)] 92 (0, 0)) kq hg (Kd.R_ne HO_5.out BK256.out (by decide)))
            have n1_ := Aside0.mk (hb)
            have n2_ := Aside0.mk (ho)
            clear BK256
            clear HB
            clear HO_5
            have BK256 := n0_
            have HB := n1_
            have HO259 := n2_
            clear n0_ n1_ n2_
            clear ho hb hg hat
            refine hK.out _ _ ⟨(blk_cell BK256.out 0).trans rfl, (blk_cell BK256.out 1).trans rfl, (blk_cell BK256.out 2).trans rfl⟩ (fun hHeld => ?_)
            clear hK K
            refine norm_ (a' := ?_) ?_ ?_
            rotate_left
            ·show Act.put _ (some 22) _ = _
             simp only [Act.put, List.setIfInBounds_toArray, List.set_cons_zero, List.set_cons_succ, i64_w, i32_w]
             rfl
            refine one_ (i := 6) (N := some 25) #[true, true, true, true, true, true, true, false, false, false] rfl rfl (one_of HT_.out (by kernel_rfl)) (by decide) (fun K hK => ?_)
            refine goes_ Try.func112 (by kernel_rfl) rfl #[.string ((rd_T92 l1 x13_1).f0)] (by rfl) rfl rfl (by (try simp only [List.map_toArray, List.map_cons, List.map_nil]); first | done | rfl | (simp only [List.length_drop, List.length_take]; rfl)) ?_
            with_reducible refine (impl_PackText.calls ((rd_T92 l1 x13_1).f0) t260 t261 _ A14.out).mono ?_
            rintro e w27 ⟨v262, rfl, ho0, hb⟩
            refine ⟨_, rfl, ?_⟩
            have n0_ := Aside0.mk (Kd.R_elder' (by (with_reducible repeat (first | apply Kd.R_alloc | apply Kd.R_drewN | apply Kd.R_drew)); exact HO259.out) (Kd.R_base ho0) hb)
            have n1_ := Aside0.mk (Kd.R_lower (Kd.R_new' ho0 (Kd.R_lt (by (with_reducible repeat (first | apply Kd.R_alloc | apply Kd.R_drewN | apply Kd.R_drew)); exact HO259.out))) (below_size bq))
            have n2_ := Aside0.mk (blk_below (g := gb256) (o := .cells #[.string ((rd_T92 l1 x13_1).f0), .string ((rd_T92 l1 x13_1).f1), .bool ((rd_T92 l1 x13_1).f2)] 92 (0, 0)) kq hb)
            have n3_ := Aside0.mk (below_step bq hb)
            clear HO259
            clear BK256
            clear HB
            have HO259 := n0_
            have HO263 := n1_
            have BK256 := n2_
            have HB := n3_
            clear n0_ n1_ n2_ n3_
            (try clear hb)
            (try clear hb2)
            (try clear hk)
            (try clear hi)
            (try clear ho0)
            obtain ⟨Ao29, co29, eo29⟩ := Kd.R_slice HO263.out
            (first | subst eo29 | (injection eo29 with f1_ f2_ f3_; have f4_ := f1_.symm; have f5_ := f3_.symm; clear f1_ f2_ f3_; subst f4_; subst f5_))
            refine hK.out _ _ ⟨(blk_cell BK256.out 0).trans rfl, (blk_cell BK256.out 1).trans rfl, (blk_cell BK256.out 2).trans rfl⟩ (fun hHeld => ?_)
            clear hK K
            refine norm_ (a' := ?_) ?_ ?_
            rotate_left
            ·show Act.put _ (some 25) _ = _
             simp only [Act.put, List.setIfInBounds_toArray, List.set_cons_zero, List.set_cons_succ, i64_w, i32_w]
             rfl
            refine pure_ (i := 7) (N := some 26) (v := ?_) (a' := ?_) #[true, true, true, true, true, true, true, true, false, false] rfl rfl (any_of HT_.out (by kernel_rfl)) (fun _ _ _ h => h) (Or.inl ⟨by rfl, ?_⟩) ?_ ?_
            rotate_left
            ·intro w'
             go_simp
             (try (simp only [Instr.field, asAgg]; go_simp))
             with_reducible rfl
            rotate_left
            ·simp only [Act.put, List.setIfInBounds_toArray, List.set_cons_zero, List.set_cons_succ, i64_w, i32_w]
             rfl
            refine one_ (i := 8) (N := some 27) #[true, true, true, true, true, true, true, true, true, false] rfl rfl (one_of HT_.out (by kernel_rfl)) (by decide) (fun K hK => ?_)
            refine Kd.R_append_rows_step (Kd.int .u8) (w0 := w) w.heap.size (by rfl) (.tmp 22) (.tmp 26) 41 5 (.int .u8 0) 1 rfl Try.underlying41 info5 rfl (by decide) (by omega) v258 y257 t261 _ _ _ (fun k_ => some k_ ≠ (.slice Ao29 t261.length co29 : Value).ownBlock) (fun _ => False) rfl rfl ?aO ?aR (fun _ _ h => h) (fun _ h => h.elim) ?aF ?aB ?aS ?aL ?_
            (case aR => repeat (first | exact (Kd.R_reads' HO263.out).2.2 | (with_reducible refine Kd.C_alloc ?_ _) | (with_reducible refine Kd.C_drewN ?_ _) | (with_reducible refine Kd.C_drew ?_)))
            (case aB => exact bq)
            (case aF => exact (fun k_ hk => Kd.fresh' (Kd.R_lt (by (with_reducible repeat (first | apply Kd.R_alloc | apply Kd.R_drewN | apply Kd.R_drew)); exact HO263.out)) k_ hk))
            (case aO => exact (by (with_reducible repeat (first | apply Kd.R_alloc | apply Kd.R_drewN | apply Kd.R_drew)); exact Kd.R_mono HO259.out (fun _ hk => hk.2)))
            (case aS => exact (below_size bq))
            (case aL => have := LMc15.out; omega)
            intro v265 w28 ho hb hg hat
            rw [← Ny264.out] at ho
            have n0_ := Aside0.mk (blk_grown (g := gb256) (o := .cells #[.string ((rd_T92 l1 x13_1).f0), .string ((rd_T92 l1 x13_1).f1), .bool ((rd_T92 l1 x13_1).f2)] 92 (0, 0)) kq hg (Kd.R_ne HO259.out BK256.out (by decide)))
            have n1_ := Aside0.mk (Kd.R_after (ok := (fun _ => True)) (by (with_reducible repeat (first | apply Kd.R_alloc | apply Kd.R_drewN | apply Kd.R_drew)); exact HO263.out) hg hat)
            have n2_ := Aside0.mk (hb)
            have n3_ := Aside0.mk (ho)
            clear BK256
            clear HO263
            clear HB
            clear HO259
            have BK256 := n0_
            have HO263 := n1_
            have HB := n2_
            have HO266 := n3_
            clear n0_ n1_ n2_ n3_
            clear ho hb hg hat
            refine hK.out _ _ ⟨(blk_cell BK256.out 0).trans rfl, (blk_cell BK256.out 1).trans rfl, (blk_cell BK256.out 2).trans rfl⟩ (fun hHeld => ?_)
            clear hK K
            refine norm_ (a' := ?_) ?_ ?_
            rotate_left
            ·show Act.put _ (some 27) _ = _
             simp only [Act.put, List.setIfInBounds_toArray, List.set_cons_zero, List.set_cons_succ, i64_w, i32_w]
             rfl
            refine pure_ (i := 9) (N := some 5) (v := ?_) (a' := ?_) #[true, true, true, true, true, true, true, true, true, true] rfl rfl (any_of HT_.out (by kernel_rfl)) (fun _ _ _ h => h) (Or.inl ⟨by rfl, ?_⟩) ?_ ?_
            rotate_left
            ·intro w'
             go_simp
             (try (simp only [Instr.field, asAgg]; go_simp))
             with_reducible rfl
            rotate_left
            ·simp only [Act.put, List.setIfInBounds_toArray, List.set_cons_zero, List.set_cons_succ, i64_w, i32_w]
             rfl
            refine done_ (done_of HT_.out (by kernel_rfl)) ?_
            have hcz30_0 : w28.cell? ⟨gb256, 0, none⟩ = some (.string ((rd_T92 l1 x13_1).f0)) := (blk_cell BK256.out 0).trans rfl
            have hcz30_1 : w28.cell? ⟨gb256, 1, none⟩ = some (.string ((rd_T92 l1 x13_1).f1)) := (blk_cell BK256.out 1).trans rfl
            have hcz30_2 : w28.cell? ⟨gb256, 2, none⟩ = some (.bool ((rd_T92 l1 x13_1).f2)) := (blk_cell BK256.out 2).trans rfl
            have hfz30_0 := blk_frozen BK256.out 0
            have hfz30_1 := blk_frozen BK256.out 1
            have hfz30_2 := blk_frozen BK256.out 2
            try go_wp2_with (first | ((with_reducible refine gate_callee (f := 112) rfl ?_); refine goesLq (some 34) rfl rfl Try.func112 (by kernel_rfl) rfl #[.string ((rd_T92 l1 x13_1).f1)] rfl ?_; (with_reducible refine (impl_PackText.calls ((rd_T92 l1 x13_1).f1) t267 t268 _ A23.out).mono ?_); rintro e w31 ⟨v269, rfl, ho0, hb⟩; refine ⟨_, rfl, ?_⟩; have n0_ := Aside0.mk (Kd.R_elder' (by (with_reducible repeat (first | apply Kd.R_alloc | apply Kd.R_drewN | apply Kd.R_drew)); exact HO263.out) (Kd.R_base ho0) hb); have n1_ := Aside0.mk (Kd.R_elder' (by (with_reducible repeat (first | apply Kd.R_alloc | apply Kd.R_drewN | apply Kd.R_drew)); exact HO266.out) (Kd.R_base ho0) hb); have n2_ := Aside0.mk (Kd.R_lower (Kd.R_new' (Kd.R_new' ho0 (Kd.R_lt (by (with_reducible repeat (first | apply Kd.R_alloc | apply Kd.R_drewN | apply Kd.R_drew)); exact HO263.out))) (Kd.R_lt (by (with_reducible repeat (first | apply Kd.R_alloc | apply Kd.R_drewN | apply Kd.R_drew)); exact HO266.out))) (below_size bq)); have n3_ := Aside0.mk (blk_below (g := gb256) (o := .cells #[.string ((rd_T92 l1 x13_1).f0), .string ((rd_T92 l1 x13_1).f1), .bool ((rd_T92 l1 x13_1).f2)] 92 (0, 0)) kq hb); have n4_ := Aside0.mk (below_step bq hb); clear HO263; clear HO266; clear BK256; clear HB; have HO263 := n0_; have HO266 := n1_; have HO270 := n2_; have BK256 := n3_; have HB := n4_; clear n0_ n1_ n2_ n3_ n4_; (try clear hb); (try clear hb2); (try clear hk); (try clear hi); (try clear ho0); obtain ⟨Ao33, co33, eo33⟩ := Kd.R_slice HO270.out; subst eo33) | ((with_reducible refine gate_builtin (b := .append) (xs := #[.tmp 31, .tmp 35]) rfl ?_); at_builtin; refine Kd.R_append_rows (Kd.int .u8) (w0 := w) w.heap.size rfl (.tmp 31) (.tmp 35) 41 5 (.int .u8 0) 1 rfl Try.underlying41 info5 rfl (by decide) (by omega) v265 y264 t268 _ _ _ (fun k_ => some k_ ≠ (.slice Ao29 t261.length co29 : Value).ownBlock ∧ some k_ ≠ (.slice Ao33 t268.length co33 : Value).ownBlock) (fun _ => False) rfl rfl ?aO ?aR (fun _ _ h => h) (fun _ h => h.elim) ?aF ?aB ?aS ?aL ?_; (case aR => repeat (first | exact (Kd.R_reads' HO270.out).2.2 | (with_reducible refine Kd.C_alloc ?_ _) | (with_reducible refine Kd.C_drewN ?_ _) | (with_reducible refine Kd.C_drew ?_))); (case aB => exact bq); (case aF => exact (fun k_ hk => ⟨Kd.fresh' (Kd.R_lt (by (with_reducible repeat (first | apply Kd.R_alloc | apply Kd.R_drewN | apply Kd.R_drew)); exact HO263.out)) k_ hk, Kd.fresh' (Kd.R_lt (by (with_reducible repeat (first | apply Kd.R_alloc | apply Kd.R_drewN | apply Kd.R_drew)); exact HO270.out)) k_ hk⟩)); (case aO => exact (by (with_reducible repeat (first | apply Kd.R_alloc | apply Kd.R_drewN | apply Kd.R_drew)); exact HO266.out)); (case aS => exact (below_size bq)); (case aL => have := LMc24.out; omega); intro v272 w32 ho hb hg hat; rw [← Ny271.out] at ho; have n0_ := Aside0.mk (blk_grown (g := gb256) (o := .cells #[.string ((rd_T92 l1 x13_1).f0), .string ((rd_T92 l1 x13_1).f1), .bool ((rd_T92 l1 x13_1).f2)] 92 (0, 0)) kq hg (Kd.R_ne HO266.out BK256.out (by decide))); have n1_ := Aside0.mk (Kd.R_after (ok := (fun k_ => some k_ ≠ (.slice Ao33 t268.length co33 : Value).ownBlock)) (by (with_reducible repeat (first | apply Kd.R_alloc | apply Kd.R_drewN | apply Kd.R_drew)); exact Kd.R_mono HO263.out (fun _ hk => ⟨hk.2, hk.1.2⟩)) hg hat); have n2_ := Aside0.mk (Kd.R_after (ok := (fun k_ => some k_ ≠ (.slice Ao29 t261.length co29 : Value).ownBlock)) (by (with_reducible repeat (first | apply Kd.R_alloc | apply Kd.R_drewN | apply Kd.R_drew)); exact Kd.R_mono HO270.out (fun _ hk => ⟨hk.1.2, hk.2⟩)) hg hat); have n3_ := Aside0.mk (hb); have n4_ := Aside0.mk (ho); clear BK256; clear HO263; clear HO270; clear HB; clear HO266; have BK256 := n0_; have HO263 := n1_; have HO270 := n2_; have HB := n3_; have HO273 := n4_; clear n0_ n1_ n2_ n3_ n4_; clear ho hb hg hat))
            go_roundg kj7
            case measure => have := HK1.out; have := HJ7.out; omega
            case rel => (try rw [← Nbq11.out]); exact ⟨(y271), (wrap64 (x13_1 + 1)), (by first | rfl | (simp; done) | (simp [*]; done)), H', ⟨by have := HK1.out; have := HJ7.out; omega⟩, ⟨by (with_reducible repeat (first | apply Kd.R_alloc | apply Kd.R_drewN | apply Kd.R_drew)); exact Kd.R_mono HO273.out (fun _ hk => trivial)⟩, ⟨bq⟩⟩
           ·rw [if_neg c24] at H
            exact absurd H (by simp)
         ·rw [if_neg c15] at H
          exact absurd H (by simp)
        ·rw [if_neg c13] at H
         exact absurd H (by simp)
     ·rw [if_neg c7] at H
      exact absurd H (by simp)
    ·rw [if_neg c6] at H
     exact absurd H (by simp)
   ·rw [if_neg c5] at H
    have c5b0 : decide (x13_1 < (l1.length : Int)) = false := decide_eq_false c5
    clear c5
    obtain rfl := Option.some.inj H
    go_wp2
    go_ret
    exact ⟨_, by first | rfl | (simp [errW_none, errW_some] <;> rfl) | (simp [*, errW_none, errW_some] <;> rfl), by (with_reducible repeat (first | apply Kd.R_alloc | apply Kd.R_drewN | apply Kd.R_drew)); exact HO_5.out, bq⟩

/-! ### impl_WritesFault: function 23 -/
@[reducible] def CL_76.p (y0_ : ByteArray) (y1_ : ByteArray) (y2_ : Bool) : FN_slices_IndexFunc_impl_Write := ⟨fun x0_ x1_ x2_ => some (x0_.toList == y0_.toList)⟩
def CL_76.f (k : Nat) (l0 : List (S92)) (y0_ : ByteArray) (y1_ : ByteArray) (y2_ : Bool) : Option Bool := @slices_ContainsFunc_impl_Write.f (CL_76.p y0_ y1_ y2_) k l0
theorem CL_76.mono : ∀ (a0 : List (S92)) (y0_ : ByteArray) (y1_ : ByteArray) (y2_ : Bool) k, LeO (CL_76.f k a0 y0_ y1_ y2_) (CL_76.f (k + 1) a0 y0_ y1_ y2_) := fun a0 y0_ y1_ y2_ k => @slices_ContainsFunc_impl_Write.mono (CL_76.p y0_ y1_ y2_) a0 k
set_option maxHeartbeats 8000000 in
set_option maxRecDepth 100000 in
theorem CL_76.closure (x0_ : ByteArray) (x1_ : ByteArray) (x2_ : Bool) (y0_ : ByteArray) (y1_ : ByteArray) (y2_ : Bool) (g0 : Nat) (W : World) (hg0 : W.heap[g0]? = some (.cells #[.string y0_, .string y1_, .bool y2_] 92 (0, 0))) :
  Calls Try.prog 76 #[.agg #[.string x0_, .string x1_, .bool x2_], .pointer (some ⟨g0, 0, none⟩)] W fun e w' => e = .returned (.bool (x0_.toList == y0_.toList)) ∧ Below W.heap.size W w' := by
 have hu92 := Try.underlying92
 have HB := Aside0.mk (Below.refl W.heap.size W)
 have BK := Aside0.mk hg0
 clear hg0
 go_enter Try.func76, Try.ntmps76
 go_wp2_with (first | ((with_reducible refine gate_dst (N := 2) rfl ?_); refine box_event ?hg (N := 2) ?hd (cs := #[.string x0_, .string x1_, .bool x2_]) (t := 92) ?hr ?_; (case hd => rfl); (case hg => rfl); (case hr => first | (go_simp; done) | (go_simp; rfl)); intro gb_ hg_ w3 hbox hb; have n0_ := Aside0.mk (blk_below (g := g0) (o := .cells #[.string y0_, .string y1_, .bool y2_] 92 (0, 0)) (by (with_reducible repeat (first | refine blk_drewN ?_ _ | refine blk_drew ?_ | refine blk_alloc ?_ _)); exact BK.out) hb); have n1_ := Aside0.mk (below_step bq hb); have n2_ := Aside0.mk hbox; clear BK; clear HB; have BK := n0_; have HB := n1_; have BN := n2_; clear n0_ n1_ n2_; clear hb hbox hg_; have hcz0 : w3.cell? ⟨gb_, 0, none⟩ = some (.string x0_) := (blk_cell BN.out 0).trans rfl; have hcz1 : w3.cell? ⟨g0, 0, none⟩ = some (.string y0_) := (blk_cell BK.out 0).trans rfl; have hfz0 := blk_frozen BN.out 0; have hfz1 := blk_frozen BK.out 0))
 go_ret
 exact ⟨by first | rfl | (simp; done), bq⟩

theorem CL_76.calls (k : Nat) (A0 : Option Addr) (c0 : Nat) (l0 : List (S92)) (y0_ : ByteArray) (y1_ : ByteArray) (y2_ : Bool) (r : Bool) (w : World) (hr0 : Kd.C k92 w A0 l0.length l0) (hc0 : l0.length ≤ c0) (h : CL_76.f k l0 y0_ y1_ y2_ = some r) (g0 : Nat) (hg0 : w.heap[g0]? = some (.cells #[.string y0_, .string y1_, .bool y2_] 92 (0, 0))) :
  Calls Try.prog 75 #[.slice A0 l0.length c0, .func (.func 76) #[] #[.pointer (some ⟨g0, 0, none⟩)]] w fun e w' => e = .returned (.bool r) ∧ Below w.heap.size w w' :=
 @slices_ContainsFunc_impl_Write.calls (CL_76.p y0_ y1_ y2_) k A0 c0 l0 r w hr0 hc0 h 76 Try.f76 #[.pointer (some ⟨g0, 0, none⟩)] Try.func76 (by kernel_rfl) rfl (fun x0_ x1_ x2_ r W hf hb => by
  have hf2 := Option.some.inj hf
  subst hf2
  exact CL_76.closure x0_ x1_ x2_ y0_ y1_ y2_ g0 W (blk_below hg0 hb))
def impl_WritesFault.l0 : Nat → List (S92) → List (S92) → Int → Int → Option (Int)
 | 0, _, _, _, _ => none
 | k + 1, x0, x10, x11, x12 => if x12 < x11 then (if 0 ≤ x12 then (if x12 < (x10.length : Int) then ((impl_Write_row.f ((rd_T92 x10 x12).f0) ((rd_T92 x10 x12).f1) ((rd_T92 x10 x12).f2) 1).bind fun bt281 => ((impl_RowFault.f k bt281.1 bt281.2.1 bt281.2.2.1 bt281.2.2.2).bind fun t285 => (if t285 = 0 then (if x12 ≤ (x0.length : Int) then ((CL_76.f k (x0.take (x12 : Int).toNat) ((rd_T92 x10 x12).f0) ((rd_T92 x10 x12).f1) ((rd_T92 x10 x12).f2)).bind fun t290 => (if t290 = true then (some 7) else (impl_WritesFault.l0 k x0 x10 x11 (wrap64 (x12 + 1))))) else (none)) else (some t285)))) else (none)) else (none)) else ((impl_packWrites.f k 1 x0).bind fun t276 => (if (t276.length : Int) > 500 then (some 2) else (some 0)))
def impl_WritesFault.f (k : Nat) (l0 : List (S92)) : Option (Int) := (impl_size_impl_Write.f l0).bind fun t274 => ((impl_within.f t274 1 8).bind fun t275 => (if t275 = true then (impl_WritesFault.l0 k l0 l0 (l0.length : Int) 0) else (some 2)))
theorem impl_WritesFault.mono_l : ∀ k, (∀ y0 y1 y2 y3, LeO (impl_WritesFault.l0 k y0 y1 y2 y3) (impl_WritesFault.l0 (k + 1) y0 y1 y2 y3))
 | 0 => fun _ _ _ _ r h => by simp [impl_WritesFault.l0] at h
 | k + 1 => by
  have ih0 := impl_WritesFault.mono_l k
  ·intro y0 y1 y2 y3
   unfold impl_WritesFault.l0
   repeat' first
   | (with_reducible exact ih0 _ _ _ _)
   | (with_reducible exact CL_76.mono _ _ _ _ _)
   | (with_reducible exact impl_RowFault.mono _ _ _ _ _)
   | (with_reducible exact impl_packWrites.mono _ _ _)
   | (with_reducible exact LeO.refl _)
   | (with_reducible exact LeO.none _)
   | (with_reducible refine LeO.ite ?_ ?_)
   | (with_reducible refine LeO.bind ?_ (fun _ => ?_))
   | exact ih0 _ _ _ _
   | exact CL_76.mono _ _ _ _ _
   | exact impl_RowFault.mono _ _ _ _ _
   | exact impl_packWrites.mono _ _ _
   | exact LeO.none _
   | refine LeO.ite ?_ ?_
   | refine LeO.bind ?_ (fun _ => ?_)
theorem impl_WritesFault.mono : ∀ a0 k, LeO (impl_WritesFault.f k a0) (impl_WritesFault.f (k + 1) a0) := by
 intro a0 k
 have ih0 := impl_WritesFault.mono_l k
 unfold impl_WritesFault.f
 repeat' first
   | (with_reducible exact ih0 _ _ _ _)
   | (with_reducible exact CL_76.mono _ _ _ _ _)
   | (with_reducible exact impl_RowFault.mono _ _ _ _ _)
   | (with_reducible exact impl_packWrites.mono _ _ _)
   | (with_reducible exact LeO.refl _)
   | (with_reducible exact LeO.none _)
   | (with_reducible refine LeO.ite ?_ ?_)
   | (with_reducible refine LeO.bind ?_ (fun _ => ?_))
   | exact ih0 _ _ _ _
   | exact CL_76.mono _ _ _ _ _
   | exact impl_RowFault.mono _ _ _ _ _
   | exact impl_packWrites.mono _ _ _
   | exact LeO.none _
   | refine LeO.ite ?_ ?_
   | refine LeO.bind ?_ (fun _ => ?_)
set_option maxHeartbeats 8000000 in
set_option maxRecDepth 100000 in
theorem impl_WritesFault.calls (k : Nat) (A0 : Option Addr) (c0 : Nat) (l0 : List (S92)) (r : Int) (w : World) (hr0 : Kd.C k92 w A0 l0.length l0) (hc0 : l0.length ≤ c0) (h : impl_WritesFault.f k l0 = some r) :
  Calls Try.prog 23 #[.slice A0 l0.length c0] w fun e w' => e = .returned (.int .i64 r) ∧ Below w.heap.size w w' := by
 have hu92 := Try.underlying92
 have HR0 := Aside0.mk hr0
 have HC0 := Aside0.mk hc0
 clear hr0 hc0
 have HB := Aside0.mk (Below.refl w.heap.size w)
 have H : ((impl_size_impl_Write.f l0).bind fun t274 => ((impl_within.f t274 1 8).bind fun t275 => (if t275 = true then (impl_WritesFault.l0 k l0 l0 (l0.length : Int) 0) else (some 2)))) = some r := h
 clear h
 replace H := Option.bind_eq_some_iff.mp H
 obtain ⟨t274, A20, H⟩ := H
 replace H : ((impl_within.f t274 1 8).bind fun t275 => (if t275 = true then (impl_WritesFault.l0 k l0 l0 (l0.length : Int) 0) else (some 2))) = some r := H
 have A2 := Aside0.mk A20
 clear A20
 replace H := Option.bind_eq_some_iff.mp H
 obtain ⟨t275, A30, H⟩ := H
 replace H : (if t275 = true then (impl_WritesFault.l0 k l0 l0 (l0.length : Int) 0) else (some 2)) = some r := H
 have A3 := Aside0.mk A30
 clear A30
 by_cases c4 : t275 = true
 ·subst c4
  have H1 : (impl_WritesFault.l0 k l0 l0 (l0.length : Int) 0) = some r := by rw [if_pos rfl] at H; exact H
  clear H
  have H := H1
  clear H1
  have H' := Aside0.mk H
  clear H
  go_enter Try.func23, Try.ntmps23
  go_wp2_with (first | ((with_reducible refine gate_callee (f := 73) rfl ?_); refine goesLq (some 7) rfl rfl Try.func73 (by kernel_rfl) rfl #[.slice A0 l0.length c0] rfl ?_; (with_reducible refine (impl_size_impl_Write.calls _ _ l0 t274 _ ?side1 ?side2 A2.out).mono ?_); (case side1 => repeat (first | exact HR0.out | (with_reducible refine Kd.C_alloc ?_ _) | (with_reducible refine Kd.C_drewN ?_ _) | (with_reducible refine Kd.C_drew ?_))); (case side2 => exact HC0.out); rintro e w' ⟨rfl, ⟨nd, rfl⟩⟩; refine ⟨_, rfl, ?_⟩) | ((with_reducible refine gate_callee (f := 72) rfl ?_); refine goesLq (some 8) rfl rfl Try.func72 (by kernel_rfl) rfl #[.int .i64 t274, .int .i64 1, .int .i64 8] rfl ?_; (with_reducible refine (impl_within.calls t274 1 8 true _ A3.out).mono ?_); rintro e w' ⟨rfl, ⟨nd, rfl⟩⟩; refine ⟨_, rfl, ?_⟩))
  go_loopg [12] k (fun kq v12 w' => ∃ (x12_1 : Int), v12 = .int .i64 x12_1 ∧ Aside0 (impl_WritesFault.l0 kq l0 l0 (l0.length : Int) x12_1 = some r) ∧ Aside0 (kq ≤ k) ∧ Aside0 (Below w.heap.size w w'))
  case atStart => exact ⟨(0), (by first | rfl | (simp; done) | (simp [*]; done) | (simp [bne_nil]; done)), H', ⟨Nat.le_refl _⟩, ⟨bq⟩⟩
  case round =>
   clear H'
   (try clear c2); (try clear p2); (try clear c4)
   obtain ⟨x12_1, rfl, HA, HK1, HB⟩ := hrel
   cases gk with
   | zero => exact absurd HA.out (by simp [impl_WritesFault.l0])
   | succ k1 =>
    have H := HA.out
    clear HA
    simp only [impl_WritesFault.l0] at H
    by_cases c5 : x12_1 < (l0.length : Int)
    ·rw [if_pos c5] at H
     have c5b0 : decide (x12_1 < (l0.length : Int)) = true := decide_eq_true c5
     clear c5
     by_cases c6 : 0 ≤ x12_1
     ·rw [if_pos c6] at H
      have c6b0 : decide (0 ≤ x12_1) = true := decide_eq_true c6
      clear c6
      by_cases c7 : x12_1 < (l0.length : Int)
      ·rw [if_pos c7] at H
       have c7b0 : decide (x12_1 < (l0.length : Int)) = true := decide_eq_true c7
       clear c7
       replace H := Option.bind_eq_some_iff.mp H
       obtain ⟨⟨t281, t282, t283, t284⟩, A80, H⟩ := H
       replace H : ((impl_RowFault.f k1 t281 t282 t283 t284).bind fun t285 => (if t285 = 0 then (if x12_1 ≤ (l0.length : Int) then ((CL_76.f k1 (l0.take (x12_1 : Int).toNat) ((rd_T92 l0 x12_1).f0) ((rd_T92 l0 x12_1).f1) ((rd_T92 l0 x12_1).f2)).bind fun t290 => (if t290 = true then (some 7) else (impl_WritesFault.l0 k1 l0 l0 (l0.length : Int) (wrap64 (x12_1 + 1))))) else (none)) else (some t285))) = some r := H
       have A8 := Aside0.mk A80
       clear A80
       replace H := Option.bind_eq_some_iff.mp H
       obtain ⟨t285, A90, H⟩ := H
       replace H : (if t285 = 0 then (if x12_1 ≤ (l0.length : Int) then ((CL_76.f k1 (l0.take (x12_1 : Int).toNat) ((rd_T92 l0 x12_1).f0) ((rd_T92 l0 x12_1).f1) ((rd_T92 l0 x12_1).f2)).bind fun t290 => (if t290 = true then (some 7) else (impl_WritesFault.l0 k1 l0 l0 (l0.length : Int) (wrap64 (x12_1 + 1))))) else (none)) else (some t285)) = some r := H
       have A9 := Aside0.mk A90
       clear A90
       by_cases c10 : t285 = 0
       ·rw [if_pos c10] at H
        have c10b0 : (t285 == 0) = true := beq_iff_eq.mpr c10
        have c10b1 : (t285 != 0) = false := bne_eq_false_iff_eq.mpr c10
        clear c10
        have c11b0 := eq_true (of_decide_eq_true (by first | (with_reducible assumption) | assumption) : 0 ≤ x12_1)
        by_cases c12 : x12_1 ≤ (l0.length : Int)
        ·rw [if_pos c12] at H
         have c12b0 := eq_true c12
         have c12b1 : decide (x12_1 ≤ (l0.length : Int)) = true := decide_eq_true c12
         clear c12
         obtain ⟨y286, hy286⟩ : ∃ y_ : List (S92), y_ = (l0.take (x12_1 : Int).toNat) := ⟨_, rfl⟩
         replace H : ((CL_76.f k1 y286 ((rd_T92 l0 x12_1).f0) ((rd_T92 l0 x12_1).f1) ((rd_T92 l0 x12_1).f2)).bind fun t290 => (if t290 = true then (some 7) else (impl_WritesFault.l0 k1 l0 l0 (l0.length : Int) (wrap64 (x12_1 + 1))))) = some r := by first | (rw [hy286]; with_reducible exact H) | (have H2_ := (Option.bind_some _ _).symm.trans H; rw [hy286]; with_reducible exact H2_) | (have H2_ := (Option.bind_some _ _).symm.trans H; with_reducible exact H2_) | with_reducible exact H | (rw [hy286]; exact H) | exact H
         have Ny286 := Aside0.mk hy286
         clear hy286
         replace H := Option.bind_eq_some_iff.mp H
         obtain ⟨t290, A130, H⟩ := H
         replace H : (if t290 = true then (some 7) else (impl_WritesFault.l0 k1 l0 l0 (l0.length : Int) (wrap64 (x12_1 + 1)))) = some r := H
         have A13 := Aside0.mk A130
         clear A130
         by_cases c14 : t290 = true
         ·subst c14
          have H1 : (some 7) = some r := by rw [if_pos rfl] at H; exact H
          clear H
          have H := H1
          clear H1
          obtain rfl := Option.some.inj H
          have p279 : 0 ≤ (x12_1 : Int) := of_decide_eq_true (by first | (with_reducible assumption) | assumption)
          have q279 : x12_1 < (l0.length : Int) := of_decide_eq_true (by first | (with_reducible assumption) | assumption)
          obtain ⟨ad279, e279, hx279_0, hx279_1, hx279_2⟩ := at_T92 HR0.out x12_1 p279 q279
          cases e279
          replace hx279_0 := (HB.out.cell (World.block_lt_of_cell? w _ hx279_0)).trans hx279_0
          replace hx279_1 := (HB.out.cell (World.block_lt_of_cell? w _ hx279_1)).trans hx279_1
          replace hx279_2 := (HB.out.cell (World.block_lt_of_cell? w _ hx279_2)).trans hx279_2
          replace p279 := eq_true p279
          replace q279 := eq_true q279
          go_wp2_with (first | ((with_reducible refine gate_dst (N := 4) rfl ?_); refine box_event ?hg (N := 4) ?hd (cs := #[.string (⟨#[]⟩ : ByteArray), .string (⟨#[]⟩ : ByteArray), .bool false]) (t := 92) ?hr ?_; (case hd => rfl); (case hg => rfl); (case hr => first | (go_simp; done) | (go_simp; rfl)); intro gb280 hg w15 hbox hb; have n0_ := Aside0.mk (below_step bq hb); have n1_ := Aside0.mk (hbox); have n2_ := Aside0.mk ((by rw [hg]; exact (below_size bq) : w.heap.size ≤ gb280)); have n3_ := Aside0.mk ((by rw [hg]; exact (below_size bq) : w.heap.size ≤ gb280)); clear HB; have HB := n0_; have BK280 := n1_; have GW280 := n2_; have GE280 := n3_; clear n0_ n1_ n2_ n3_; clear hb hbox hg; have hcz16_0 : w15.cell? ⟨gb280, 0, none⟩ = some (.string (⟨#[]⟩ : ByteArray)) := (blk_cell BK280.out 0).trans rfl; have hcz16_1 : w15.cell? ⟨gb280, 1, none⟩ = some (.string (⟨#[]⟩ : ByteArray)) := (blk_cell BK280.out 1).trans rfl; have hcz16_2 : w15.cell? ⟨gb280, 2, none⟩ = some (.bool false) := (blk_cell BK280.out 2).trans rfl; have hfz16_0 := blk_frozen BK280.out 0; have hfz16_1 := blk_frozen BK280.out 1; have hfz16_2 := blk_frozen BK280.out 2) | ((with_reducible refine gate_callee (f := 74) rfl ?_); refine goesLq (some 18) rfl rfl Try.func74 (by kernel_rfl) rfl #[.agg #[.string ((rd_T92 l0 x12_1).f0), .string ((rd_T92 l0 x12_1).f1), .bool ((rd_T92 l0 x12_1).f2)], .int .i64 1] rfl ?_; (with_reducible refine (impl_Write_row.calls ((rd_T92 l0 x12_1).f0) ((rd_T92 l0 x12_1).f1) ((rd_T92 l0 x12_1).f2) 1 t281 t282 t283 t284 _ A8.out).mono ?_); rintro e w17 ⟨rfl, hb⟩; refine ⟨_, rfl, ?_⟩; have n0_ := Aside0.mk (blk_below (g := gb280) (o := .cells #[.string ((rd_T92 l0 x12_1).f0), .string ((rd_T92 l0 x12_1).f1), .bool ((rd_T92 l0 x12_1).f2)] 92 (0, 0)) (by (with_reducible repeat (first | refine blk_drewN ?_ _ | refine blk_drew ?_ | refine blk_alloc ?_ _)); refine blk_put (cs := #[.string ((rd_T92 l0 x12_1).f0), .string ((rd_T92 l0 x12_1).f1), .bool false]) ?_ 2 _ rfl; (with_reducible repeat (first | refine blk_drewN ?_ _ | refine blk_drew ?_ | refine blk_alloc ?_ _)); refine blk_put (cs := #[.string ((rd_T92 l0 x12_1).f0), .string (⟨#[]⟩ : ByteArray), .bool false]) ?_ 1 _ rfl; (with_reducible repeat (first | refine blk_drewN ?_ _ | refine blk_drew ?_ | refine blk_alloc ?_ _)); refine blk_put (cs := #[.string (⟨#[]⟩ : ByteArray), .string (⟨#[]⟩ : ByteArray), .bool false]) ?_ 0 _ rfl; (with_reducible repeat (first | refine blk_drewN ?_ _ | refine blk_drew ?_ | refine blk_alloc ?_ _)); exact BK280.out) hb); have n1_ := Aside0.mk (below_step bq hb); clear BK280; clear HB; have BK280 := n0_; have HB := n1_; clear n0_ n1_; (try clear hb); (try clear hb2); (try clear hk); (try clear hi)) | ((with_reducible refine gate_callee (f := 66) rfl ?_); refine goesLq (some 19) rfl rfl Try.func66 (by kernel_rfl) rfl #[.agg #[.string t281, .int .i64 t282, .string t283, .bool t284]] rfl ?_; (with_reducible refine (impl_RowFault.calls k1 t281 t282 t283 t284 t285 _ A9.out).mono ?_); rintro e w18 ⟨rfl, hb⟩; refine ⟨_, rfl, ?_⟩; have n0_ := Aside0.mk (blk_below (g := gb280) (o := .cells #[.string ((rd_T92 l0 x12_1).f0), .string ((rd_T92 l0 x12_1).f1), .bool ((rd_T92 l0 x12_1).f2)] 92 (0, 0)) kq hb); have n1_ := Aside0.mk (below_step bq hb); clear BK280; clear HB; have BK280 := n0_; have HB := n1_; clear n0_ n1_; (try clear hb); (try clear hb2); (try clear hk); (try clear hi); have q19 : (x12_1 : Int) ≤ ((l0.length : Int) : Int) := of_decide_eq_true (by first | (with_reducible assumption) | assumption); obtain ⟨i019, hi019, _, hsz19, _⟩ := info_parts info92; have hroom19 : l0.length ≤ c0 := HC0.out; have hC19 : Kd.C k92 _ (some ad279) l0.length l0 := HR0.out; have hcut19 := cut_to (P := Try.prog) 32 92 .i64 Try.underlying32 hi019 (some ad279) l0.length c0 x12_1 (of_decide_eq_true (by first | (with_reducible assumption) | assumption)) q19 hroom19; have hr19 := Kd.C_take (m := (x12_1 : Int).toNat) hC19 (by omega); have hy19 : y286.length = (x12_1 : Int).toNat := (by rw [Ny286.out, List.length_take]; omega); rw [← Ny286.out] at hr19; rw [← hy19] at hcut19; have HR289 := Aside0.mk hr19; have HC289 := Aside0.mk (show y286.length ≤ c0 from by omega); clear hr19 hC19 hroom19 hi019 hsz19; have KY19 := Aside0.mk hy19; clear hy19; replace q19 := eq_true q19; have hcz20_0 : w18.cell? ⟨gb280, 0, none⟩ = some (.string ((rd_T92 l0 x12_1).f0)) := (blk_cell BK280.out 0).trans rfl; have hcz20_1 : w18.cell? ⟨gb280, 1, none⟩ = some (.string ((rd_T92 l0 x12_1).f1)) := (blk_cell BK280.out 1).trans rfl; have hcz20_2 : w18.cell? ⟨gb280, 2, none⟩ = some (.bool ((rd_T92 l0 x12_1).f2)) := (blk_cell BK280.out 2).trans rfl; have hfz20_0 := blk_frozen BK280.out 0; have hfz20_1 := blk_frozen BK280.out 1; have hfz20_2 := blk_frozen BK280.out 2) | ((with_reducible refine gate_callee (f := 75) rfl ?_); refine goesLq (some 27) rfl rfl Try.func75 (by kernel_rfl) rfl #[.slice (some ad279) y286.length c0, .func (.func 76) #[] #[.pointer (some ⟨gb280, 0, none⟩)]] rfl ?_; (with_reducible refine (CL_76.calls k1 _ _ y286 ((rd_T92 l0 x12_1).f0) ((rd_T92 l0 x12_1).f1) ((rd_T92 l0 x12_1).f2) true _ ?side1 ?side2 A13.out gb280 kq).mono ?_); (case side1 => repeat (first | exact (Kd.C_below HR289.out HB.out) | (with_reducible refine Kd.C_alloc ?_ _) | (with_reducible refine Kd.C_drewN ?_ _) | (with_reducible refine Kd.C_drew ?_))); (case side2 => exact HC289.out); rintro e w21 ⟨rfl, hb⟩; refine ⟨_, rfl, ?_⟩; have n0_ := Aside0.mk (blk_below (g := gb280) (o := .cells #[.string ((rd_T92 l0 x12_1).f0), .string ((rd_T92 l0 x12_1).f1), .bool ((rd_T92 l0 x12_1).f2)] 92 (0, 0)) kq hb); have n1_ := Aside0.mk (below_step bq hb); clear BK280; clear HB; have BK280 := n0_; have HB := n1_; clear n0_ n1_; (try clear hb); (try clear hb2); (try clear hk); (try clear hi)))
          go_ret
          exact ⟨by first | rfl | (simp [errW_none, errW_some] <;> rfl) | (simp [*, errW_none, errW_some] <;> rfl), bq⟩
         ·replace c14 := Bool.eq_false_iff.mpr c14
          subst c14
          have H1 : (impl_WritesFault.l0 k1 l0 l0 (l0.length : Int) (wrap64 (x12_1 + 1))) = some r := by rw [if_neg (show ¬ (false = true) by decide)] at H; exact H
          clear H
          have H := H1
          clear H1
          have H' := Aside0.mk H
          clear H
          have p279 : 0 ≤ (x12_1 : Int) := of_decide_eq_true (by first | (with_reducible assumption) | assumption)
          have q279 : x12_1 < (l0.length : Int) := of_decide_eq_true (by first | (with_reducible assumption) | assumption)
          obtain ⟨ad279, e279, hx279_0, hx279_1, hx279_2⟩ := at_T92 HR0.out x12_1 p279 q279
          cases e279
          replace hx279_0 := (HB.out.cell (World.block_lt_of_cell? w _ hx279_0)).trans hx279_0
          replace hx279_1 := (HB.out.cell (World.block_lt_of_cell? w _ hx279_1)).trans hx279_1
          replace hx279_2 := (HB.out.cell (World.block_lt_of_cell? w _ hx279_2)).trans hx279_2
          replace p279 := eq_true p279
          replace q279 := eq_true q279
          go_wp2_with (first | ((with_reducible refine gate_dst (N := 4) rfl ?_); refine box_event ?hg (N := 4) ?hd (cs := #[.string (⟨#[]⟩ : ByteArray), .string (⟨#[]⟩ : ByteArray), .bool false]) (t := 92) ?hr ?_; (case hd => rfl); (case hg => rfl); (case hr => first | (go_simp; done) | (go_simp; rfl)); intro gb280 hg w22 hbox hb; have n0_ := Aside0.mk (below_step bq hb); have n1_ := Aside0.mk (hbox); have n2_ := Aside0.mk ((by rw [hg]; exact (below_size bq) : w.heap.size ≤ gb280)); have n3_ := Aside0.mk ((by rw [hg]; exact (below_size bq) : w.heap.size ≤ gb280)); clear HB; have HB := n0_; have BK280 := n1_; have GW280 := n2_; have GE280 := n3_; clear n0_ n1_ n2_ n3_; clear hb hbox hg; have hcz23_0 : w22.cell? ⟨gb280, 0, none⟩ = some (.string (⟨#[]⟩ : ByteArray)) := (blk_cell BK280.out 0).trans rfl; have hcz23_1 : w22.cell? ⟨gb280, 1, none⟩ = some (.string (⟨#[]⟩ : ByteArray)) := (blk_cell BK280.out 1).trans rfl; have hcz23_2 : w22.cell? ⟨gb280, 2, none⟩ = some (.bool false) := (blk_cell BK280.out 2).trans rfl; have hfz23_0 := blk_frozen BK280.out 0; have hfz23_1 := blk_frozen BK280.out 1; have hfz23_2 := blk_frozen BK280.out 2) | ((with_reducible refine gate_callee (f := 74) rfl ?_); refine goesLq (some 18) rfl rfl Try.func74 (by kernel_rfl) rfl #[.agg #[.string ((rd_T92 l0 x12_1).f0), .string ((rd_T92 l0 x12_1).f1), .bool ((rd_T92 l0 x12_1).f2)], .int .i64 1] rfl ?_; (with_reducible refine (impl_Write_row.calls ((rd_T92 l0 x12_1).f0) ((rd_T92 l0 x12_1).f1) ((rd_T92 l0 x12_1).f2) 1 t281 t282 t283 t284 _ A8.out).mono ?_); rintro e w24 ⟨rfl, hb⟩; refine ⟨_, rfl, ?_⟩; have n0_ := Aside0.mk (blk_below (g := gb280) (o := .cells #[.string ((rd_T92 l0 x12_1).f0), .string ((rd_T92 l0 x12_1).f1), .bool ((rd_T92 l0 x12_1).f2)] 92 (0, 0)) (by (with_reducible repeat (first | refine blk_drewN ?_ _ | refine blk_drew ?_ | refine blk_alloc ?_ _)); refine blk_put (cs := #[.string ((rd_T92 l0 x12_1).f0), .string ((rd_T92 l0 x12_1).f1), .bool false]) ?_ 2 _ rfl; (with_reducible repeat (first | refine blk_drewN ?_ _ | refine blk_drew ?_ | refine blk_alloc ?_ _)); refine blk_put (cs := #[.string ((rd_T92 l0 x12_1).f0), .string (⟨#[]⟩ : ByteArray), .bool false]) ?_ 1 _ rfl; (with_reducible repeat (first | refine blk_drewN ?_ _ | refine blk_drew ?_ | refine blk_alloc ?_ _)); refine blk_put (cs := #[.string (⟨#[]⟩ : ByteArray), .string (⟨#[]⟩ : ByteArray), .bool false]) ?_ 0 _ rfl; (with_reducible repeat (first | refine blk_drewN ?_ _ | refine blk_drew ?_ | refine blk_alloc ?_ _)); exact BK280.out) hb); have n1_ := Aside0.mk (below_step bq hb); clear BK280; clear HB; have BK280 := n0_; have HB := n1_; clear n0_ n1_; (try clear hb); (try clear hb2); (try clear hk); (try clear hi)) | ((with_reducible refine gate_callee (f := 66) rfl ?_); refine goesLq (some 19) rfl rfl Try.func66 (by kernel_rfl) rfl #[.agg #[.string t281, .int .i64 t282, .string t283, .bool t284]] rfl ?_; (with_reducible refine (impl_RowFault.calls k1 t281 t282 t283 t284 t285 _ A9.out).mono ?_); rintro e w25 ⟨rfl, hb⟩; refine ⟨_, rfl, ?_⟩; have n0_ := Aside0.mk (blk_below (g := gb280) (o := .cells #[.string ((rd_T92 l0 x12_1).f0), .string ((rd_T92 l0 x12_1).f1), .bool ((rd_T92 l0 x12_1).f2)] 92 (0, 0)) kq hb); have n1_ := Aside0.mk (below_step bq hb); clear BK280; clear HB; have BK280 := n0_; have HB := n1_; clear n0_ n1_; (try clear hb); (try clear hb2); (try clear hk); (try clear hi); have q26 : (x12_1 : Int) ≤ ((l0.length : Int) : Int) := of_decide_eq_true (by first | (with_reducible assumption) | assumption); obtain ⟨i026, hi026, _, hsz26, _⟩ := info_parts info92; have hroom26 : l0.length ≤ c0 := HC0.out; have hC26 : Kd.C k92 _ (some ad279) l0.length l0 := HR0.out; have hcut26 := cut_to (P := Try.prog) 32 92 .i64 Try.underlying32 hi026 (some ad279) l0.length c0 x12_1 (of_decide_eq_true (by first | (with_reducible assumption) | assumption)) q26 hroom26; have hr26 := Kd.C_take (m := (x12_1 : Int).toNat) hC26 (by omega); have hy26 : y286.length = (x12_1 : Int).toNat := (by rw [Ny286.out, List.length_take]; omega); rw [← Ny286.out] at hr26; rw [← hy26] at hcut26; have HR289 := Aside0.mk hr26; have HC289 := Aside0.mk (show y286.length ≤ c0 from by omega); clear hr26 hC26 hroom26 hi026 hsz26; have KY26 := Aside0.mk hy26; clear hy26; replace q26 := eq_true q26; have hcz27_0 : w25.cell? ⟨gb280, 0, none⟩ = some (.string ((rd_T92 l0 x12_1).f0)) := (blk_cell BK280.out 0).trans rfl; have hcz27_1 : w25.cell? ⟨gb280, 1, none⟩ = some (.string ((rd_T92 l0 x12_1).f1)) := (blk_cell BK280.out 1).trans rfl; have hcz27_2 : w25.cell? ⟨gb280, 2, none⟩ = some (.bool ((rd_T92 l0 x12_1).f2)) := (blk_cell BK280.out 2).trans rfl; have hfz27_0 := blk_frozen BK280.out 0; have hfz27_1 := blk_frozen BK280.out 1; have hfz27_2 := blk_frozen BK280.out 2) | ((with_reducible refine gate_callee (f := 75) rfl ?_); refine goesLq (some 27) rfl rfl Try.func75 (by kernel_rfl) rfl #[.slice (some ad279) y286.length c0, .func (.func 76) #[] #[.pointer (some ⟨gb280, 0, none⟩)]] rfl ?_; (with_reducible refine (CL_76.calls k1 _ _ y286 ((rd_T92 l0 x12_1).f0) ((rd_T92 l0 x12_1).f1) ((rd_T92 l0 x12_1).f2) false _ ?side1 ?side2 A13.out gb280 kq).mono ?_); (case side1 => repeat (first | exact (Kd.C_below HR289.out HB.out) | (with_reducible refine Kd.C_alloc ?_ _) | (with_reducible refine Kd.C_drewN ?_ _) | (with_reducible refine Kd.C_drew ?_))); (case side2 => exact HC289.out); rintro e w28 ⟨rfl, hb⟩; refine ⟨_, rfl, ?_⟩; have n0_ := Aside0.mk (blk_below (g := gb280) (o := .cells #[.string ((rd_T92 l0 x12_1).f0), .string ((rd_T92 l0 x12_1).f1), .bool ((rd_T92 l0 x12_1).f2)] 92 (0, 0)) kq hb); have n1_ := Aside0.mk (below_step bq hb); clear BK280; clear HB; have BK280 := n0_; have HB := n1_; clear n0_ n1_; (try clear hb); (try clear hb2); (try clear hk); (try clear hi)))
          go_roundg k1
          case measure => have := HK1.out; omega
          case rel => exact ⟨(wrap64 (x12_1 + 1)), (by first | rfl | (simp; done) | (simp [*]; done) | (simp [bne_nil]; done)), H', ⟨by have := HK1.out; omega⟩, ⟨bq⟩⟩
        ·rw [if_neg c12] at H
         exact absurd H (by simp)
       ·rw [if_neg c10] at H
        have c10b0 : (t285 == 0) = false := beq_eq_false_iff_ne.mpr c10
        have c10b1 : (t285 != 0) = true := bne_iff_ne.mpr c10
        obtain rfl := Option.some.inj H
        have p279 : 0 ≤ (x12_1 : Int) := of_decide_eq_true (by first | (with_reducible assumption) | assumption)
        have q279 : x12_1 < (l0.length : Int) := of_decide_eq_true (by first | (with_reducible assumption) | assumption)
        obtain ⟨ad279, e279, hx279_0, hx279_1, hx279_2⟩ := at_T92 HR0.out x12_1 p279 q279
        cases e279
        replace hx279_0 := (HB.out.cell (World.block_lt_of_cell? w _ hx279_0)).trans hx279_0
        replace hx279_1 := (HB.out.cell (World.block_lt_of_cell? w _ hx279_1)).trans hx279_1
        replace hx279_2 := (HB.out.cell (World.block_lt_of_cell? w _ hx279_2)).trans hx279_2
        replace p279 := eq_true p279
        replace q279 := eq_true q279
        go_wp2_with (first | ((with_reducible refine gate_dst (N := 4) rfl ?_); refine box_event ?hg (N := 4) ?hd (cs := #[.string (⟨#[]⟩ : ByteArray), .string (⟨#[]⟩ : ByteArray), .bool false]) (t := 92) ?hr ?_; (case hd => rfl); (case hg => rfl); (case hr => first | (go_simp; done) | (go_simp; rfl)); intro gb280 hg w29 hbox hb; have n0_ := Aside0.mk (below_step bq hb); have n1_ := Aside0.mk (hbox); have n2_ := Aside0.mk ((by rw [hg]; exact (below_size bq) : w.heap.size ≤ gb280)); have n3_ := Aside0.mk ((by rw [hg]; exact (below_size bq) : w.heap.size ≤ gb280)); clear HB; have HB := n0_; have BK280 := n1_; have GW280 := n2_; have GE280 := n3_; clear n0_ n1_ n2_ n3_; clear hb hbox hg; have hcz30_0 : w29.cell? ⟨gb280, 0, none⟩ = some (.string (⟨#[]⟩ : ByteArray)) := (blk_cell BK280.out 0).trans rfl; have hcz30_1 : w29.cell? ⟨gb280, 1, none⟩ = some (.string (⟨#[]⟩ : ByteArray)) := (blk_cell BK280.out 1).trans rfl; have hcz30_2 : w29.cell? ⟨gb280, 2, none⟩ = some (.bool false) := (blk_cell BK280.out 2).trans rfl; have hfz30_0 := blk_frozen BK280.out 0; have hfz30_1 := blk_frozen BK280.out 1; have hfz30_2 := blk_frozen BK280.out 2) | ((with_reducible refine gate_callee (f := 74) rfl ?_); refine goesLq (some 18) rfl rfl Try.func74 (by kernel_rfl) rfl #[.agg #[.string ((rd_T92 l0 x12_1).f0), .string ((rd_T92 l0 x12_1).f1), .bool ((rd_T92 l0 x12_1).f2)], .int .i64 1] rfl ?_; (with_reducible refine (impl_Write_row.calls ((rd_T92 l0 x12_1).f0) ((rd_T92 l0 x12_1).f1) ((rd_T92 l0 x12_1).f2) 1 t281 t282 t283 t284 _ A8.out).mono ?_); rintro e w31 ⟨rfl, hb⟩; refine ⟨_, rfl, ?_⟩; have n0_ := Aside0.mk (blk_below (g := gb280) (o := .cells #[.string ((rd_T92 l0 x12_1).f0), .string ((rd_T92 l0 x12_1).f1), .bool ((rd_T92 l0 x12_1).f2)] 92 (0, 0)) (by (with_reducible repeat (first | refine blk_drewN ?_ _ | refine blk_drew ?_ | refine blk_alloc ?_ _)); refine blk_put (cs := #[.string ((rd_T92 l0 x12_1).f0), .string ((rd_T92 l0 x12_1).f1), .bool false]) ?_ 2 _ rfl; (with_reducible repeat (first | refine blk_drewN ?_ _ | refine blk_drew ?_ | refine blk_alloc ?_ _)); refine blk_put (cs := #[.string ((rd_T92 l0 x12_1).f0), .string (⟨#[]⟩ : ByteArray), .bool false]) ?_ 1 _ rfl; (with_reducible repeat (first | refine blk_drewN ?_ _ | refine blk_drew ?_ | refine blk_alloc ?_ _)); refine blk_put (cs := #[.string (⟨#[]⟩ : ByteArray), .string (⟨#[]⟩ : ByteArray), .bool false]) ?_ 0 _ rfl; (with_reducible repeat (first | refine blk_drewN ?_ _ | refine blk_drew ?_ | refine blk_alloc ?_ _)); exact BK280.out) hb); have n1_ := Aside0.mk (below_step bq hb); clear BK280; clear HB; have BK280 := n0_; have HB := n1_; clear n0_ n1_; (try clear hb); (try clear hb2); (try clear hk); (try clear hi)) | ((with_reducible refine gate_callee (f := 66) rfl ?_); refine goesLq (some 19) rfl rfl Try.func66 (by kernel_rfl) rfl #[.agg #[.string t281, .int .i64 t282, .string t283, .bool t284]] rfl ?_; (with_reducible refine (impl_RowFault.calls k1 t281 t282 t283 t284 t285 _ A9.out).mono ?_); rintro e w32 ⟨rfl, hb⟩; refine ⟨_, rfl, ?_⟩; have n0_ := Aside0.mk (blk_below (g := gb280) (o := .cells #[.string ((rd_T92 l0 x12_1).f0), .string ((rd_T92 l0 x12_1).f1), .bool ((rd_T92 l0 x12_1).f2)] 92 (0, 0)) kq hb); have n1_ := Aside0.mk (below_step bq hb); clear BK280; clear HB; have BK280 := n0_; have HB := n1_; clear n0_ n1_; (try clear hb); (try clear hb2); (try clear hk); (try clear hi)))
        go_ret
        exact ⟨by first | rfl | (simp [errW_none, errW_some] <;> rfl) | (simp [*, errW_none, errW_some] <;> rfl), bq⟩
      ·rw [if_neg c7] at H
       exact absurd H (by simp)
     ·rw [if_neg c6] at H
      exact absurd H (by simp)
    ·rw [if_neg c5] at H
     have c5b0 : decide (x12_1 < (l0.length : Int)) = false := decide_eq_false c5
     clear c5
     replace H := Option.bind_eq_some_iff.mp H
     obtain ⟨t276, A330, H⟩ := H
     replace H : (if (t276.length : Int) > 500 then (some 2) else (some 0)) = some r := H
     have A33 := Aside0.mk A330
     clear A330
     by_cases c34 : (t276.length : Int) > 500
     ·rw [if_pos c34] at H
      have c34b0 : decide (500 < (t276.length : Int)) = true := decide_eq_true c34
      have c34b1 : decide (500 < t276.length) = true := decide_eq_true (by omega)
      clear c34
      obtain rfl := Option.some.inj H
      go_wp2_with (first | ((with_reducible refine gate_callee (f := 77) rfl ?_); refine goesLq (some 30) rfl rfl Try.func77 (by kernel_rfl) rfl #[.int .i64 1, .slice A0 l0.length c0] rfl ?_; (with_reducible refine (impl_packWrites.calls k1 1 _ _ l0 t276 _ ?side1 ?side2 A33.out).mono ?_); (case side1 => repeat (first | exact (Kd.C_below HR0.out HB.out) | (with_reducible refine Kd.C_alloc ?_ _) | (with_reducible refine Kd.C_drewN ?_ _) | (with_reducible refine Kd.C_drew ?_))); (case side2 => exact HC0.out); rintro e w35 ⟨v277, rfl, ho0, hb⟩; refine ⟨_, rfl, ?_⟩; have n0_ := Aside0.mk (Kd.R_lower ho0 (below_size bq)); have n1_ := Aside0.mk (below_step bq hb); clear HB; have HO278 := n0_; have HB := n1_; clear n0_ n1_; (try clear hb); (try clear hb2); (try clear hk); (try clear hi); (try clear ho0); obtain ⟨Ao36, co36, eo36⟩ := Kd.R_slice HO278.out; subst eo36))
      go_ret
      exact ⟨by first | rfl | (simp [errW_none, errW_some] <;> rfl) | (simp [*, errW_none, errW_some] <;> rfl), bq⟩
     ·rw [if_neg c34] at H
      have c34b0 : decide (500 < (t276.length : Int)) = false := decide_eq_false c34
      have c34b1 : decide (500 < t276.length) = false := decide_eq_false (by omega)
      clear c34
      obtain rfl := Option.some.inj H
      go_wp2_with (first | ((with_reducible refine gate_callee (f := 77) rfl ?_); refine goesLq (some 30) rfl rfl Try.func77 (by kernel_rfl) rfl #[.int .i64 1, .slice A0 l0.length c0] rfl ?_; (with_reducible refine (impl_packWrites.calls k1 1 _ _ l0 t276 _ ?side1 ?side2 A33.out).mono ?_); (case side1 => repeat (first | exact (Kd.C_below HR0.out HB.out) | (with_reducible refine Kd.C_alloc ?_ _) | (with_reducible refine Kd.C_drewN ?_ _) | (with_reducible refine Kd.C_drew ?_))); (case side2 => exact HC0.out); rintro e w37 ⟨v277, rfl, ho0, hb⟩; refine ⟨_, rfl, ?_⟩; have n0_ := Aside0.mk (Kd.R_lower ho0 (below_size bq)); have n1_ := Aside0.mk (below_step bq hb); clear HB; have HO278 := n0_; have HB := n1_; clear n0_ n1_; (try clear hb); (try clear hb2); (try clear hk); (try clear hi); (try clear ho0); obtain ⟨Ao38, co38, eo38⟩ := Kd.R_slice HO278.out; subst eo38))
      go_ret
      exact ⟨by first | rfl | (simp [errW_none, errW_some] <;> rfl) | (simp [*, errW_none, errW_some] <;> rfl), bq⟩
 ·replace c4 := Bool.eq_false_iff.mpr c4
  subst c4
  have H1 : (some 2) = some r := by rw [if_neg (show ¬ (false = true) by decide)] at H; exact H
  clear H
  have H := H1
  clear H1
  obtain rfl := Option.some.inj H
  go_enter Try.func23, Try.ntmps23
  go_wp2_with (first | ((with_reducible refine gate_callee (f := 73) rfl ?_); refine goesLq (some 7) rfl rfl Try.func73 (by kernel_rfl) rfl #[.slice A0 l0.length c0] rfl ?_; (with_reducible refine (impl_size_impl_Write.calls _ _ l0 t274 _ ?side1 ?side2 A2.out).mono ?_); (case side1 => repeat (first | exact HR0.out | (with_reducible refine Kd.C_alloc ?_ _) | (with_reducible refine Kd.C_drewN ?_ _) | (with_reducible refine Kd.C_drew ?_))); (case side2 => exact HC0.out); rintro e w' ⟨rfl, ⟨nd, rfl⟩⟩; refine ⟨_, rfl, ?_⟩) | ((with_reducible refine gate_callee (f := 72) rfl ?_); refine goesLq (some 8) rfl rfl Try.func72 (by kernel_rfl) rfl #[.int .i64 t274, .int .i64 1, .int .i64 8] rfl ?_; (with_reducible refine (impl_within.calls t274 1 8 false _ A3.out).mono ?_); rintro e w' ⟨rfl, ⟨nd, rfl⟩⟩; refine ⟨_, rfl, ?_⟩))
  go_ret
  exact ⟨by first | rfl | (simp [errW_none, errW_some] <;> rfl) | (simp [*, errW_none, errW_some] <;> rfl), bq⟩

end Go.Proofs.Ytdhlcnlcpjlliaa.PFnExactUnpackWrites
