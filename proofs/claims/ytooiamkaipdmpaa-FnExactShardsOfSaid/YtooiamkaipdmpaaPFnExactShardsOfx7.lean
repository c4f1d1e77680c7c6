/- The functions that a law reaches, each as a plain Lean function with the proof that the machine comes to its answer: written by program (the kit's print, turned by wip/gen). No conditions. -/
import Derived.Test.YtooiamkaipdmpaaPFnExactShardsOfx0
import Derived.Test.YtooiamkaipdmpaaPFnExactShardsOfx5
import Derived.Test.YtooiamkaipdmpaaPFnExactShardsOfx6
namespace Go.Proofs.Ytooiamkaipdmpaa.PFnExactShardsOf
open Go.RowKit Go.Proofs.YtooiamkaipdmpaaW.PrintWords Go.Proofs.YtooiamkaipdmpaaW.PrintLast Go.Proofs.YtooiamkaipdmpaaW.PrintMore
attribute [local go_sem] max2_int min2_int max_two min_two max_three min_three max_four min_four   -- for this text's walks alone
set_option linter.unusedVariables false
set_option linter.unusedSimpArgs false

/-! ### spec_ContractFault: function 25 -/
mutual
def spec_ContractFault.j0 : Nat → Bool → Int → List (S89) → Option (Int)
  | 0, _, _, _ => none
  | k + 1, x23, x218000, x218001 => if x23 = true then (some 2) else (if 3 ≤ 35184372088832 then (spec_ContractFault.l0 k (List.replicate 3 0) 0 x218000 x218001) else (none))
def spec_ContractFault.l0 : Nat → List Int → Int → Int → List (S89) → Option (Int)
  | 0, _, _, _, _ => none
  | k + 1, x3, x4, x218000, x218001 => if x4 < (x218001.length : Int) then (if 0 ≤ x4 then ((spec_LegFault.f k ((rd_T89 x218001 x4).f0) ((rd_T89 x218001 x4).f1) ((rd_T89 x218001 x4).f2) ((rd_T89 x218001 x4).f3)).bind fun t224 => (if t224 = 0 then (spec_ContractFault.l1 k x3 x4 0 x218000 x218001 ((rd_T89 x218001 x4).f0) ((rd_T89 x218001 x4).f1) ((rd_T89 x218001 x4).f2) ((rd_T89 x218001 x4).f3)) else (some t224))) else (none)) else (spec_ContractFault.l2 k x3 0)
def spec_ContractFault.l1 : Nat → List Int → Int → Int → Int → List (S89) → Int → Int → Int → Int → Option (Int)
  | 0, _, _, _, _, _, _, _, _, _ => none
  | k + 1, x3, x4, x7, x218000, x218001, x224000, x224001, x224002, x224003 => if x7 < x4 then (if 0 ≤ x7 then (if x7 < (x218001.length : Int) then (if ((rd_T89 x218001 x7).f0) = x224000 then (if ((rd_T89 x218001 x7).f1) = x224001 then (if ((rd_T89 x218001 x7).f2) = x224002 then (some 7) else (spec_ContractFault.l1 k x3 x4 (wrap64 (x7 + 1)) x218000 x218001 x224000 x224001 x224002 x224003)) else (spec_ContractFault.l1 k x3 x4 (wrap64 (x7 + 1)) x218000 x218001 x224000 x224001 x224002 x224003)) else (spec_ContractFault.l1 k x3 x4 (wrap64 (x7 + 1)) x218000 x218001 x224000 x224001 x224002 x224003)) else (none)) else (none)) else (if 0 ≤ x224002 then (if x224002 < (x3.length : Int) then (spec_ContractFault.l0 k (x3.set (x224002 : Int).toNat (wrap64 ((rd x3 x224002) + x224003))) (wrap64 (x4 + 1)) x218000 x218001) else (none)) else (none))
def spec_ContractFault.l2 : Nat → List Int → Int → Option (Int)
  | 0, _, _ => none
  | k + 1, x3, x9 => if x9 < (x3.length : Int) then (if 0 ≤ x9 then (if (rd x3 x9) = 0 then (spec_ContractFault.l2 k x3 (wrap64 (x9 + 1))) else (some 1)) else (none)) else (some 0)
end
def spec_ContractFault.f (k : Nat) (a0_0 : Int) (l0_1 : List (S89)) : Option (Int) := (spec_l1Id.f a0_0).bind fun t218 => (if t218 = true then (if (l0_1.length : Int) < 2 then (spec_ContractFault.j0 k true a0_0 l0_1) else (spec_ContractFault.j0 k (decide ((l0_1.length : Int) > 8)) a0_0 l0_1)) else (some 3))
theorem spec_ContractFault.mono_l : ∀ k, (∀ y0 y1 y2, LeO (spec_ContractFault.j0 k y0 y1 y2) (spec_ContractFault.j0 (k + 1) y0 y1 y2)) ∧ (∀ y0 y1 y2 y3, LeO (spec_ContractFault.l0 k y0 y1 y2 y3) (spec_ContractFault.l0 (k + 1) y0 y1 y2 y3)) ∧ (∀ y0 y1 y2 y3 y4 y5 y6 y7 y8, LeO (spec_ContractFault.l1 k y0 y1 y2 y3 y4 y5 y6 y7 y8) (spec_ContractFault.l1 (k + 1) y0 y1 y2 y3 y4 y5 y6 y7 y8)) ∧ (∀ y0 y1, LeO (spec_ContractFault.l2 k y0 y1) (spec_ContractFault.l2 (k + 1) y0 y1))
  | 0 => ⟨fun _ _ _ r h => by simp [spec_ContractFault.j0] at h, fun _ _ _ _ r h => by simp [spec_ContractFault.l0] at h, fun _ _ _ _ _ _ _ _ _ r h => by simp [spec_ContractFault.l1] at h, fun _ _ r h => by simp [spec_ContractFault.l2] at h⟩
  | k + 1 => by
    obtain ⟨ih0, ih1, ih2, ih3⟩ := spec_ContractFault.mono_l k
    refine ⟨?_, ?_, ?_, ?_⟩
    · intro y0 y1 y2
      unfold spec_ContractFault.j0
      repeat' first
      | (with_reducible exact ih0 _ _ _)
      | (with_reducible exact ih1 _ _ _ _)
      | (with_reducible exact ih2 _ _ _ _ _ _ _ _ _)
      | (with_reducible exact ih3 _ _)
      | (with_reducible exact spec_LegFault.mono _ _ _ _ _)
      | (with_reducible exact LeO.refl _)
      | (with_reducible exact LeO.none _)
      | (with_reducible refine LeO.ite ?_ ?_)
      | (with_reducible refine LeO.bind ?_ (fun _ => ?_))
      | exact ih0 _ _ _
      | exact ih1 _ _ _ _
      | exact ih2 _ _ _ _ _ _ _ _ _
      | exact ih3 _ _
      | exact spec_LegFault.mono _ _ _ _ _
      | exact LeO.none _
      | refine LeO.ite ?_ ?_
      | refine LeO.bind ?_ (fun _ => ?_)
    · intro y0 y1 y2 y3
      unfold spec_ContractFault.l0
      repeat' first
      | (with_reducible exact ih0 _ _ _)
      | (with_reducible exact ih1 _ _ _ _)
      | (with_reducible exact ih2 _ _ _ _ _ _ _ _ _)
      | (with_reducible exact ih3 _ _)
      | (with_reducible exact spec_LegFault.mono _ _ _ _ _)
      | (with_reducible exact LeO.refl _)
      | (with_reducible exact LeO.none _)
      | (with_reducible refine LeO.ite ?_ ?_)
      | (with_reducible refine LeO.bind ?_ (fun _ => ?_))
      | exact ih0 _ _ _
      | exact ih1 _ _ _ _
      | exact ih2 _ _ _ _ _ _ _ _ _
      | exact ih3 _ _
      | exact spec_LegFault.mono _ _ _ _ _
      | exact LeO.none _
      | refine LeO.ite ?_ ?_
      | refine LeO.bind ?_ (fun _ => ?_)
    · intro y0 y1 y2 y3 y4 y5 y6 y7 y8
      unfold spec_ContractFault.l1
      repeat' first
      | (with_reducible exact ih0 _ _ _)
      | (with_reducible exact ih1 _ _ _ _)
      | (with_reducible exact ih2 _ _ _ _ _ _ _ _ _)
      | (with_reducible exact ih3 _ _)
      | (with_reducible exact spec_LegFault.mono _ _ _ _ _)
      | (with_reducible exact LeO.refl _)
      | (with_reducible exact LeO.none _)
      | (with_reducible refine LeO.ite ?_ ?_)
      | (with_reducible refine LeO.bind ?_ (fun _ => ?_))
      | exact ih0 _ _ _
      | exact ih1 _ _ _ _
      | exact ih2 _ _ _ _ _ _ _ _ _
      | exact ih3 _ _
      | exact spec_LegFault.mono _ _ _ _ _
      | exact LeO.none _
      | refine LeO.ite ?_ ?_
      | refine LeO.bind ?_ (fun _ => ?_)
    · intro y0 y1
      unfold spec_ContractFault.l2
      repeat' first
      | (with_reducible exact ih0 _ _ _)
      | (with_reducible exact ih1 _ _ _ _)
      | (with_reducible exact ih2 _ _ _ _ _ _ _ _ _)
      | (with_reducible exact ih3 _ _)
      | (with_reducible exact spec_LegFault.mono _ _ _ _ _)
      | (with_reducible exact LeO.refl _)
      | (with_reducible exact LeO.none _)
      | (with_reducible refine LeO.ite ?_ ?_)
      | (with_reducible refine LeO.bind ?_ (fun _ => ?_))
      | exact ih0 _ _ _
      | exact ih1 _ _ _ _
      | exact ih2 _ _ _ _ _ _ _ _ _
      | exact ih3 _ _
      | exact spec_LegFault.mono _ _ _ _ _
      | exact LeO.none _
      | refine LeO.ite ?_ ?_
      | refine LeO.bind ?_ (fun _ => ?_)
theorem spec_ContractFault.mono : ∀ a0 a1 k, LeO (spec_ContractFault.f k a0 a1) (spec_ContractFault.f (k + 1) a0 a1) := by
  intro a0 a1 k
  obtain ⟨ih0, ih1, ih2, ih3⟩ := spec_ContractFault.mono_l k
  unfold spec_ContractFault.f
  repeat' first
      | (with_reducible exact ih0 _ _ _)
      | (with_reducible exact ih1 _ _ _ _)
      | (with_reducible exact ih2 _ _ _ _ _ _ _ _ _)
      | (with_reducible exact ih3 _ _)
      | (with_reducible exact spec_LegFault.mono _ _ _ _ _)
      | (with_reducible exact LeO.refl _)
      | (with_reducible exact LeO.none _)
      | (with_reducible refine LeO.ite ?_ ?_)
      | (with_reducible refine LeO.bind ?_ (fun _ => ?_))
      | exact ih0 _ _ _
      | exact ih1 _ _ _ _
      | exact ih2 _ _ _ _ _ _ _ _ _
      | exact ih3 _ _
      | exact spec_LegFault.mono _ _ _ _ _
      | exact LeO.none _
      | refine LeO.ite ?_ ?_
      | refine LeO.bind ?_ (fun _ => ?_)
def spec_ContractFault.T19 : Bool × List (List Nat × List Nat) := (true, [([], []), ([], []), ([1], [1]), ([], []), ([], []), ([4], [4]), ([3, 5], [3, 5]), ([6], [6]), ([], []), ([8], [8]), ([7, 9], [7, 9]), ([0, 2, 0, 1, 2, 3, 4, 5, 6, 7, 8, 9, 10], [0, 2]), ([11, 10, 0, 1, 2, 3, 4, 5, 6, 7, 8, 9, 10], [10, 11])])
def spec_ContractFault.B19 : List Nat := [0, 0, 2, 0, 0, 16, 56, 120, 0, 256, 1016, 2047, 4095]
theorem spec_ContractFault.tab19 : rtab .any (opsOf Try.f25 19) = spec_ContractFault.T19 := by kernel_rfl
theorem spec_ContractFault.bits19 : waitsOk spec_ContractFault.T19.2 spec_ContractFault.B19 = true := by kernel_rfl
set_option maxHeartbeats 8000000 in
set_option maxRecDepth 100000 in
theorem spec_ContractFault.calls (k : Nat) (a0_0 : Int) (A0_1 : Option Addr) (c0_1 : Nat) (l0_1 : List (S89)) (r : Int) (w : World) (hr0_1 : Kd.C k89 w A0_1 l0_1.length l0_1) (hc0_1 : l0_1.length ≤ c0_1) (h : spec_ContractFault.f k a0_0 l0_1 = some r) :
  Calls Try.prog 25 #[.agg #[.int .i64 a0_0, .slice A0_1 l0_1.length c0_1]] w fun e w' => e = .returned (.int .i64 r) ∧ Below w.heap.size w w' := by
 have hu36 := Try.underlying36
 have hu89 := Try.underlying89
 have HR0_1 := Aside0.mk hr0_1
 have HC0_1 := Aside0.mk hc0_1
 clear hr0_1 hc0_1
 have HB := Aside0.mk (Below.refl w.heap.size w)
 have H : ((spec_l1Id.f a0_0).bind fun t218 => (if t218 = true then (if (l0_1.length : Int) < 2 then (spec_ContractFault.j0 k true a0_0 l0_1) else (spec_ContractFault.j0 k (decide ((l0_1.length : Int) > 8)) a0_0 l0_1)) else (some 3))) = some r := h
 clear h
 replace H := Option.bind_eq_some_iff.mp H
 obtain ⟨t218, A20, H⟩ := H
 replace H : (if t218 = true then (if (l0_1.length : Int) < 2 then (spec_ContractFault.j0 k true a0_0 l0_1) else (spec_ContractFault.j0 k (decide ((l0_1.length : Int) > 8)) a0_0 l0_1)) else (some 3)) = some r := H
 have A2 := Aside0.mk A20
 clear A20
 by_cases c3 : t218 = true
 ·subst c3
  have H1 : (if (l0_1.length : Int) < 2 then (spec_ContractFault.j0 k true a0_0 l0_1) else (spec_ContractFault.j0 k (decide ((l0_1.length : Int) > 8)) a0_0 l0_1)) = some r := by rw [if_pos rfl] at H; exact H
  clear H
  have H := H1
  clear H1
  have HC4 := Aside0.mk H
  clear H
  go_enter Try.func25, Try.ntmps25
  go_upto_region 3 with (first | ((with_reducible refine gate_dst (N := 1) rfl ?_); (try (refine gate_guard (by rfl) ?_; dsimp only)); refine box_event ?hg (N := 1) ?hd (cs := #[.int .i64 a0_0, .slice A0_1 l0_1.length c0_1]) (t := 36) ?hr ?_; (case hd => rfl); (case hg => rfl); (case hr => first | (go_simp; done) | (go_simp; rfl)); intro gb217 hg w5 hbox hb; have n0_ := Aside0.mk (below_step bq hb); have n1_ := Aside0.mk (hbox); have n2_ := Aside0.mk ((by rw [hg]; exact (below_size bq) : w.heap.size ≤ gb217)); have n3_ := Aside0.mk ((by rw [hg]; exact (below_size bq) : w.heap.size ≤ gb217)); clear HB; have HB := n0_; have BK217 := n1_; have GW217 := n2_; have GE217 := n3_; clear n0_ n1_ n2_ n3_; clear hb hbox hg; have hcz6_0 : w5.cell? ⟨gb217, 0, none⟩ = some (.int .i64 a0_0) := (blk_cell BK217.out 0).trans rfl; have hcz6_1 : w5.cell? ⟨gb217, 1, none⟩ = some (.slice A0_1 l0_1.length c0_1) := (blk_cell BK217.out 1).trans rfl; have hfz6_0 := blk_frozen BK217.out 0; have hfz6_1 := blk_frozen BK217.out 1) | ((with_reducible refine gate_callee (f := 70) rfl ?_); refine goesLq (some 12) rfl rfl Try.func70 (by kernel_rfl) rfl #[.int .i64 a0_0] rfl ?_; (with_reducible refine (spec_l1Id.calls a0_0 true _ A2.out).mono ?_); rintro e w' ⟨rfl, ⟨nd, rfl⟩⟩; refine ⟨_, rfl, ?_⟩))
  (try simp only [Act.put, List.setIfInBounds_toArray, List.set_cons_zero, List.set_cons_succ])
  go_cut [23] (fun v23 wc => ∃ (kq : Nat) (x23_3 : Bool), v23 = .bool x23_3 ∧ Aside0 (spec_ContractFault.j0 kq x23_3 a0_0 l0_1 = some r) ∧ Aside0 (kq ≤ k) ∧ Aside0 (wc.heap[gb217]? = some (.cells #[.int .i64 a0_0, (.slice A0_1 l0_1.length c0_1)] 36 (0, 0))) ∧ Aside0 (Below w.heap.size w wc))
  case first =>
   have H := HC4.out
   clear HC4
   by_cases c7 : (l0_1.length : Int) < 2
   ·rw [if_pos c7] at H
    have c7b0 : decide ((l0_1.length : Int) < 2) = true := decide_eq_true c7
    have c7b1 : decide (l0_1.length < 2) = true := decide_eq_true (by omega)
    clear c7
    (first | rw [c7b0] | (simp only [i64_w, i32_w]; rw [c7b0]) | skip)
    have H' := Aside0.mk H
    clear H
    have hcz8_0 : w5.cell? ⟨gb217, 0, none⟩ = some (.int .i64 a0_0) := (blk_cell BK217.out 0).trans rfl
    have hcz8_1 : w5.cell? ⟨gb217, 1, none⟩ = some (.slice A0_1 l0_1.length c0_1) := (blk_cell BK217.out 1).trans rfl
    have hfz8_0 := blk_frozen BK217.out 0
    have hfz8_1 := blk_frozen BK217.out 1
    go_wp2
    go_meet
    case rel => exact ⟨_, (true), (by first | rfl | (simp; done) | (simp [*]; done)), H', ⟨by first | omega | exact Nat.le_refl _⟩, ⟨by (with_reducible repeat (first | refine blk_drewN ?_ _ | refine blk_drew ?_ | refine blk_alloc ?_ _)); exact BK217.out⟩, ⟨bq⟩⟩
   ·rw [if_neg c7] at H
    have c7b0 : decide ((l0_1.length : Int) < 2) = false := decide_eq_false c7
    have c7b1 : decide (l0_1.length < 2) = false := decide_eq_false (by omega)
    clear c7
    (first | rw [c7b0] | (simp only [i64_w, i32_w]; rw [c7b0]) | skip)
    have H' := Aside0.mk H
    clear H
    have hcz9_0 : w5.cell? ⟨gb217, 0, none⟩ = some (.int .i64 a0_0) := (blk_cell BK217.out 0).trans rfl
    have hcz9_1 : w5.cell? ⟨gb217, 1, none⟩ = some (.slice A0_1 l0_1.length c0_1) := (blk_cell BK217.out 1).trans rfl
    have hfz9_0 := blk_frozen BK217.out 0
    have hfz9_1 := blk_frozen BK217.out 1
    go_wp2
    go_meet
    case rel => exact ⟨_, (decide ((l0_1.length : Int) > 8)), (by first | rfl | (simp; done) | (simp [*]; done)), H', ⟨by first | omega | exact Nat.le_refl _⟩, ⟨by (with_reducible repeat (first | refine blk_drewN ?_ _ | refine blk_drew ?_ | refine blk_alloc ?_ _)); exact BK217.out⟩, ⟨bq⟩⟩
  case rest =>
   clear HC4
   (try clear c2); (try clear p2); (try clear c3); (try clear c7); (try clear c7b0); (try clear c7b1); (try clear hcz6_0); (try clear hcz6_1); (try clear hcz8_0); (try clear hcz8_1); (try clear hcz9_0)
   (try clear hcz9_1); (try clear hfz6_0); (try clear hfz6_1); (try clear hfz8_0); (try clear hfz8_1); (try clear hfz9_0); (try clear hfz9_1)
   obtain ⟨kq, x23_3, rfl, HA, HJ3, BK217, HB⟩ := hcut
   cases kq with
   | zero => exact absurd HA.out (by simp [spec_ContractFault.j0])
   | succ kj3 =>
    have H := HA.out
    clear HA
    simp only [spec_ContractFault.j0] at H
    by_cases c10 : x23_3 = true
    ·subst c10
     have H1 : (some 2) = some r := by rw [if_pos rfl] at H; exact H
     clear H
     have H := H1
     clear H1
     obtain rfl := Option.some.inj H
     go_wp2
     go_ret
     exact ⟨by first | rfl | (simp [errW_none, errW_some] <;> rfl) | (simp [*, errW_none, errW_some] <;> rfl), bq⟩
    ·replace c10 := Bool.eq_false_iff.mpr c10
     subst c10
     have H1 : (if 3 ≤ 35184372088832 then (spec_ContractFault.l0 kj3 (List.replicate 3 0) 0 a0_0 l0_1) else (none)) = some r := by rw [if_neg (show ¬ (false = true) by decide)] at H; exact H
     clear H
     have H := H1
     clear H1
     by_cases c11 : 3 ≤ 35184372088832
     ·rw [if_pos c11] at H
      have c11b0 := eq_true c11
      have c11b1 : decide (3 ≤ 35184372088832) = true := decide_eq_true c11
      clear c11
      obtain ⟨y219, hy219⟩ : ∃ y_ : List Int, y_ = (List.replicate 3 0) := ⟨_, rfl⟩
      replace H : (spec_ContractFault.l0 kj3 y219 0 a0_0 l0_1) = some r := by first | (rw [hy219]; with_reducible exact H) | (have H2_ := (Option.bind_some _ _).symm.trans H; rw [hy219]; with_reducible exact H2_) | (have H2_ := (Option.bind_some _ _).symm.trans H; with_reducible exact H2_) | with_reducible exact H | (rw [hy219]; exact H) | exact H
      have Ny219 := Aside0.mk hy219
      clear hy219
      have H' := Aside0.mk H
      clear H
      go_wp2_with (first | ((with_reducible refine gate_dst (N := 24) rfl ?_); (try (refine gate_guard (by rfl) ?_; dsimp only)); refine Kd.R_make (Kd.int .i64) _ 2 rfl (N := 24) rfl 81 _ _ rfl 3 rfl rfl Try.underlying81 (.int .i64 0) 8 info2 rfl (by decide) (by omega) 0 (ok := fun _ => True) (okp := fun _ => True) rfl (fun _ hk => hk) trivial (by omega) (by omega) (Below.refl _ _) (Nat.le_refl _) ?_; intro v220 w12 ho13 hb hg_ hnew_; clear hg_ hnew_; (first | rw [← Ny219.out] at ho13 | (simp only [Int.reduceToNat] at ho13; rw [← Ny219.out] at ho13)); have n0_ := Aside0.mk (Kd.R_lower ho13 (below_size bq)); have n1_ := Aside0.mk (blk_below (g := gb217) (o := .cells #[.int .i64 a0_0, .slice A0_1 l0_1.length c0_1] 36 (0, 0)) kq hb); have n2_ := Aside0.mk (below_step bq hb); clear BK217; clear HB; have HO221 := n0_; have BK217 := n1_; have HB := n2_; clear n0_ n1_ n2_; clear hb ho13))
      go_loopg [4] kj3 (fun kq v4 w' => ∃ (x3_2 : List Int) (x4_2 : Int), v4 = .int .i64 x4_2 ∧ Aside0 (spec_ContractFault.l0 kq x3_2 x4_2 a0_0 l0_1 = some r) ∧ Aside0 (kq ≤ kj3) ∧ Aside0 (Kd.R (Kd.int .i64) 2 w' w.heap.size (fun _ => True) v220 x3_2) ∧ Aside0 (w'.heap[gb217]? = some (.cells #[.int .i64 a0_0, (.slice A0_1 l0_1.length c0_1)] 36 (0, 0))) ∧ Aside0 (Below w.heap.size w w'))
      case atStart => exact ⟨(y219), (0), (by first | rfl | (simp; done) | (simp [*]; done)), H', ⟨Nat.le_refl _⟩, ⟨by (with_reducible repeat (first | apply Kd.R_alloc | apply Kd.R_drewN | apply Kd.R_drew)); exact HO221.out⟩, ⟨by (with_reducible repeat (first | refine blk_drewN ?_ _ | refine blk_drew ?_ | refine blk_alloc ?_ _)); exact BK217.out⟩, ⟨bq⟩⟩
      case round =>
       clear H'
       (try clear c1); (try clear c2); (try clear p2); (try clear c3); (try clear c7); (try clear c7b0); (try clear c7b1); (try clear c10); (try clear c11); (try clear c11b0); (try clear c11b1); (try clear hcz6_0)
       (try clear hcz6_1); (try clear hcz8_0); (try clear hcz8_1); (try clear hcz9_0); (try clear hcz9_1); (try clear hfz6_0); (try clear hfz6_1); (try clear hfz8_0); (try clear hfz8_1); (try clear hfz9_0)
       (try clear hfz9_1); (try clear p2)
       obtain ⟨x3_2, x4_2, rfl, HA, HK2, HO_3, BK217, HB⟩ := hrel
       cases gk with
       | zero => exact absurd HA.out (by simp [spec_ContractFault.l0])
       | succ k2 =>
        have H := HA.out
        clear HA
        simp only [spec_ContractFault.l0] at H
        by_cases c14 : x4_2 < (l0_1.length : Int)
        ·rw [if_pos c14] at H
         have c14b0 : decide (x4_2 < (l0_1.length : Int)) = true := decide_eq_true c14
         clear c14
         by_cases c15 : 0 ≤ x4_2
         ·rw [if_pos c15] at H
          have c15b0 : decide (0 ≤ x4_2) = true := decide_eq_true c15
          clear c15
          replace H := Option.bind_eq_some_iff.mp H
          obtain ⟨t224, A160, H⟩ := H
          replace H : (if t224 = 0 then (spec_ContractFault.l1 k2 x3_2 x4_2 0 a0_0 l0_1 ((rd_T89 l0_1 x4_2).f0) ((rd_T89 l0_1 x4_2).f1) ((rd_T89 l0_1 x4_2).f2) ((rd_T89 l0_1 x4_2).f3)) else (some t224)) = some r := H
          have A16 := Aside0.mk A160
          clear A160
          by_cases c17 : t224 = 0
          ·rw [if_pos c17] at H
           have c17b0 : (t224 == 0) = true := beq_iff_eq.mpr c17
           have c17b1 : (t224 != 0) = false := bne_eq_false_iff_eq.mpr c17
           clear c17
           have H' := Aside0.mk H
           clear H
           have hcz18_0 : wr.cell? ⟨gb217, 0, none⟩ = some (.int .i64 a0_0) := (blk_cell BK217.out 0).trans rfl
           have hcz18_1 : wr.cell? ⟨gb217, 1, none⟩ = some (.slice A0_1 l0_1.length c0_1) := (blk_cell BK217.out 1).trans rfl
           have hfz18_0 := blk_frozen BK217.out 0
           have hfz18_1 := blk_frozen BK217.out 1
           have p222 : 0 ≤ (x4_2 : Int) := of_decide_eq_true (by first | (with_reducible assumption) | assumption)
           have q222 : x4_2 < (l0_1.length : Int) := of_decide_eq_true (by first | (with_reducible assumption) | assumption)
           obtain ⟨ad222, e222, hx222_0, hx222_1, hx222_2, hx222_3⟩ := at_T89 HR0_1.out x4_2 p222 q222
           cases e222
           replace hx222_0 := (HB.out.cell (World.block_lt_of_cell? w _ hx222_0)).trans hx222_0
           replace hx222_1 := (HB.out.cell (World.block_lt_of_cell? w _ hx222_1)).trans hx222_1
           replace hx222_2 := (HB.out.cell (World.block_lt_of_cell? w _ hx222_2)).trans hx222_2
           replace hx222_3 := (HB.out.cell (World.block_lt_of_cell? w _ hx222_3)).trans hx222_3
           replace p222 := eq_true p222
           replace q222 := eq_true q222
           go_wp2_with (first | ((with_reducible refine gate_dst (N := 5) rfl ?_); (try (refine gate_guard (by rfl) ?_; dsimp only)); refine box_event ?hg (N := 5) ?hd (cs := #[.int .i64 0, .int .i64 0, .int .i64 0, .int .i64 0]) (t := 89) ?hr ?_; (case hd => rfl); (case hg => rfl); (case hr => first | (go_simp; done) | (go_simp; rfl)); intro gb223 hg w19 hbox hb; have n0_ := Aside0.mk (Kd.R_below (by (with_reducible repeat (first | apply Kd.R_alloc | apply Kd.R_drewN | apply Kd.R_drew)); exact HO_3.out) hb); have n1_ := Aside0.mk (blk_below (g := gb217) (o := .cells #[.int .i64 a0_0, .slice (some ad222) l0_1.length c0_1] 36 (0, 0)) kq hb); have n2_ := Aside0.mk (below_step bq hb); have n3_ := Aside0.mk (hbox); have n4_ := Aside0.mk ((by rw [hg]; exact (below_size bq) : w.heap.size ≤ gb223)); have n5_ := Aside0.mk ((by rw [hg]; exact (below_size bq) : w.heap.size ≤ gb223)); have n6_ := Aside0.mk ((by rw [hg]; exact Nat.ne_of_lt (blk_lt (g := gb217) (o := .cells #[.int .i64 a0_0, .slice (some ad222) l0_1.length c0_1] 36 (0, 0)) kq) : gb217 ≠ gb223)); have n7_ := Aside0.mk ((by rw [hg]; exact Nat.ne_of_gt (blk_lt (g := gb217) (o := .cells #[.int .i64 a0_0, .slice (some ad222) l0_1.length c0_1] 36 (0, 0)) kq) : gb223 ≠ gb217)); clear HO_3; clear BK217; clear HB; have HO_3 := n0_; have BK217 := n1_; have HB := n2_; have BK223 := n3_; have GW223 := n4_; have GE223 := n5_; have NB217_223 := n6_; have NB223_217 := n7_; clear n0_ n1_ n2_ n3_ n4_ n5_ n6_ n7_; clear hb hbox hg; have hnb20 := NB223_217.out; have hnc20 := NB217_223.out; have hcz21_0 : w19.cell? ⟨gb223, 0, none⟩ = some (.int .i64 0) := (blk_cell BK223.out 0).trans rfl; have hcz21_1 : w19.cell? ⟨gb223, 1, none⟩ = some (.int .i64 0) := (blk_cell BK223.out 1).trans rfl; have hcz21_2 : w19.cell? ⟨gb223, 2, none⟩ = some (.int .i64 0) := (blk_cell BK223.out 2).trans rfl; have hcz21_3 : w19.cell? ⟨gb223, 3, none⟩ = some (.int .i64 0) := (blk_cell BK223.out 3).trans rfl; have hfz21_0 := blk_frozen BK223.out 0; have hfz21_1 := blk_frozen BK223.out 1; have hfz21_2 := blk_frozen BK223.out 2; have hfz21_3 := blk_frozen BK223.out 3) | ((with_reducible refine gate_callee (f := 71) rfl ?_); refine goesLq (some 38) rfl rfl Try.func71 (by kernel_rfl) rfl #[.agg #[.int .i64 ((rd_T89 l0_1 x4_2).f0), .int .i64 ((rd_T89 l0_1 x4_2).f1), .int .i64 ((rd_T89 l0_1 x4_2).f2), .int .i64 ((rd_T89 l0_1 x4_2).f3)]] rfl ?_; (with_reducible refine (spec_LegFault.calls k2 ((rd_T89 l0_1 x4_2).f0) ((rd_T89 l0_1 x4_2).f1) ((rd_T89 l0_1 x4_2).f2) ((rd_T89 l0_1 x4_2).f3) t224 _ A16.out).mono ?_); rintro e w22 ⟨rfl, hb⟩; refine ⟨_, rfl, ?_⟩; have n0_ := Aside0.mk (Kd.R_below (by (with_reducible repeat (first | apply Kd.R_alloc | apply Kd.R_drewN | apply Kd.R_drew)); exact (Kd.R_mono (Kd.R_far (p := ⟨gb223, 3, none⟩) (Kd.R_far (p := ⟨gb223, 2, none⟩) (Kd.R_far (p := ⟨gb223, 1, none⟩) (Kd.R_far (p := ⟨gb223, 0, none⟩) (Kd.R_types HO_3.out BK223.out (by decide)) (fun _ hk => hk.2) (.int .i64 ((rd_T89 l0_1 x4_2).f0))) (fun _ hk => hk.2) (.int .i64 ((rd_T89 l0_1 x4_2).f1))) (fun _ hk => hk.2) (.int .i64 ((rd_T89 l0_1 x4_2).f2))) (fun _ hk => hk.2) (.int .i64 ((rd_T89 l0_1 x4_2).f3))) (fun _ h_ => h_.1))) hb); have n1_ := Aside0.mk (blk_below (g := gb217) (o := .cells #[.int .i64 a0_0, .slice (some ad222) l0_1.length c0_1] 36 (0, 0)) (by (with_reducible repeat (first | refine blk_drewN ?_ _ | refine blk_drew ?_ | refine blk_alloc ?_ _)); refine blk_far ?_ NB217_223.out _; (with_reducible repeat (first | refine blk_drewN ?_ _ | refine blk_drew ?_ | refine blk_alloc ?_ _)); refine blk_far ?_ NB217_223.out _; (with_reducible repeat (first | refine blk_drewN ?_ _ | refine blk_drew ?_ | refine blk_alloc ?_ _)); refine blk_far ?_ NB217_223.out _; (with_reducible repeat (first | refine blk_drewN ?_ _ | refine blk_drew ?_ | refine blk_alloc ?_ _)); refine blk_far ?_ NB217_223.out _; (with_reducible repeat (first | refine blk_drewN ?_ _ | refine blk_drew ?_ | refine blk_alloc ?_ _)); exact BK217.out) hb); have n2_ := Aside0.mk (blk_below (g := gb223) (o := .cells #[.int .i64 ((rd_T89 l0_1 x4_2).f0), .int .i64 ((rd_T89 l0_1 x4_2).f1), .int .i64 ((rd_T89 l0_1 x4_2).f2), .int .i64 ((rd_T89 l0_1 x4_2).f3)] 89 (0, 0)) (by (with_reducible repeat (first | refine blk_drewN ?_ _ | refine blk_drew ?_ | refine blk_alloc ?_ _)); refine blk_put (cs := #[.int .i64 ((rd_T89 l0_1 x4_2).f0), .int .i64 ((rd_T89 l0_1 x4_2).f1), .int .i64 ((rd_T89 l0_1 x4_2).f2), .int .i64 0]) ?_ 3 _ rfl; (with_reducible repeat (first | refine blk_drewN ?_ _ | refine blk_drew ?_ | refine blk_alloc ?_ _)); refine blk_put (cs := #[.int .i64 ((rd_T89 l0_1 x4_2).f0), .int .i64 ((rd_T89 l0_1 x4_2).f1), .int .i64 0, .int .i64 0]) ?_ 2 _ rfl; (with_reducible repeat (first | refine blk_drewN ?_ _ | refine blk_drew ?_ | refine blk_alloc ?_ _)); refine blk_put (cs := #[.int .i64 ((rd_T89 l0_1 x4_2).f0), .int .i64 0, .int .i64 0, .int .i64 0]) ?_ 1 _ rfl; (with_reducible repeat (first | refine blk_drewN ?_ _ | refine blk_drew ?_ | refine blk_alloc ?_ _)); refine blk_put (cs := #[.int .i64 0, .int .i64 0, .int .i64 0, .int .i64 0]) ?_ 0 _ rfl; (with_reducible repeat (first | refine blk_drewN ?_ _ | refine blk_drew ?_ | refine blk_alloc ?_ _)); exact BK223.out) hb); have n3_ := Aside0.mk (below_step bq hb); clear HO_3; clear BK217; clear BK223; clear HB; have HO_3 := n0_; have BK217 := n1_; have BK223 := n2_; have HB := n3_; clear n0_ n1_ n2_ n3_; (try clear hb); (try clear hb2); (try clear hk); (try clear hi)))
           go_loopg [7] k2 (fun kq v7 w' => ∃ (x7_3 : Int), v7 = .int .i64 x7_3 ∧ Aside0 (spec_ContractFault.l1 kq x3_2 x4_2 x7_3 a0_0 l0_1 ((rd_T89 l0_1 x4_2).f0) ((rd_T89 l0_1 x4_2).f1) ((rd_T89 l0_1 x4_2).f2) ((rd_T89 l0_1 x4_2).f3) = some r) ∧ Aside0 (kq ≤ k2) ∧ Aside0 (Kd.R (Kd.int .i64) 2 w' w.heap.size (fun _ => True) v220 x3_2) ∧ Aside0 (w'.heap[gb217]? = some (.cells #[.int .i64 a0_0, (.slice (some ad222) l0_1.length c0_1)] 36 (0, 0))) ∧ Aside0 (w'.heap[gb223]? = some (.cells #[.int .i64 ((rd_T89 l0_1 x4_2).f0), .int .i64 ((rd_T89 l0_1 x4_2).f1), .int .i64 ((rd_T89 l0_1 x4_2).f2), .int .i64 ((rd_T89 l0_1 x4_2).f3)] 89 (0, 0))) ∧ Aside0 (Below w.heap.size w w'))
           case atStart => exact ⟨(0), (by first | rfl | (simp; done) | (simp [*]; done)), H', ⟨Nat.le_refl _⟩, ⟨by (with_reducible repeat (first | apply Kd.R_alloc | apply Kd.R_drewN | apply Kd.R_drew)); exact HO_3.out⟩, ⟨by (with_reducible repeat (first | refine blk_drewN ?_ _ | refine blk_drew ?_ | refine blk_alloc ?_ _)); exact BK217.out⟩, ⟨by (with_reducible repeat (first | refine blk_drewN ?_ _ | refine blk_drew ?_ | refine blk_alloc ?_ _)); exact BK223.out⟩, ⟨bq⟩⟩
           case round =>
            clear H'
            (try clear c1); (try clear c2); (try clear p2); (try clear q2); (try clear hx2); (try clear c3); (try clear c7); (try clear c7b0); (try clear c7b1); (try clear c10); (try clear c11); (try clear c11b0)
            (try clear c11b1); (try clear c14); (try clear c14b0); (try clear c15); (try clear c15b0); (try clear c17); (try clear c17b0); (try clear c17b1); (try clear c20); (try clear p22); (try clear q22)
            (try clear hx22); (try clear hcz18_0); (try clear hcz18_1); (try clear hcz21_0); (try clear hcz21_1); (try clear hcz21_2); (try clear hcz21_3); (try clear hcz6_0); (try clear hcz6_1); (try clear hcz8_0)
            (try clear hcz8_1); (try clear hcz9_0); (try clear hcz9_1); (try clear hfz18_0); (try clear hfz18_1); (try clear hfz21_0); (try clear hfz21_1); (try clear hfz21_2); (try clear hfz21_3); (try clear hfz6_0)
            (try clear hfz6_1); (try clear hfz8_0); (try clear hfz8_1); (try clear hfz9_0); (try clear hfz9_1); (try clear hx222_0); (try clear hx222_1); (try clear hx222_2); (try clear hx222_3); (try clear p2)
            (try clear p222); (try clear q222)
            obtain ⟨x7_3, rfl, HA, HK3, HO_3, BK217, BK223, HB⟩ := hrel
            cases gk with
            | zero => exact absurd HA.out (by simp [spec_ContractFault.l1])
            | succ k3 =>
             have H := HA.out
             clear HA
             simp only [spec_ContractFault.l1] at H
             by_cases c23 : x7_3 < x4_2
             ·rw [if_pos c23] at H
              have c23b0 : decide (x7_3 < x4_2) = true := decide_eq_true c23
              clear c23
              by_cases c24 : 0 ≤ x7_3
              ·rw [if_pos c24] at H
               have c24b0 : decide (0 ≤ x7_3) = true := decide_eq_true c24
               clear c24
               by_cases c25 : x7_3 < (l0_1.length : Int)
               ·rw [if_pos c25] at H
                have c25b0 : decide (x7_3 < (l0_1.length : Int)) = true := decide_eq_true c25
                clear c25
                by_cases c26 : ((rd_T89 l0_1 x7_3).f0) = ((rd_T89 l0_1 x4_2).f0)
                ·rw [if_pos c26] at H
                 have c26b0 : (((rd_T89 l0_1 x7_3).f0) == ((rd_T89 l0_1 x4_2).f0)) = true := beq_iff_eq.mpr c26
                 have c26b1 : (((rd_T89 l0_1 x7_3).f0) != ((rd_T89 l0_1 x4_2).f0)) = false := bne_eq_false_iff_eq.mpr c26
                 clear c26
                 by_cases c27 : ((rd_T89 l0_1 x7_3).f1) = ((rd_T89 l0_1 x4_2).f1)
                 ·rw [if_pos c27] at H
                  have c27b0 : (((rd_T89 l0_1 x7_3).f1) == ((rd_T89 l0_1 x4_2).f1)) = true := beq_iff_eq.mpr c27
                  have c27b1 : (((rd_T89 l0_1 x7_3).f1) != ((rd_T89 l0_1 x4_2).f1)) = false := bne_eq_false_iff_eq.mpr c27
                  clear c27
                  by_cases c28 : ((rd_T89 l0_1 x7_3).f2) = ((rd_T89 l0_1 x4_2).f2)
                  ·rw [if_pos c28] at H
                   have c28b0 : (((rd_T89 l0_1 x7_3).f2) == ((rd_T89 l0_1 x4_2).f2)) = true := beq_iff_eq.mpr c28
                   have c28b1 : (((rd_T89 l0_1 x7_3).f2) != ((rd_T89 l0_1 x4_2).f2)) = false := bne_eq_false_iff_eq.mpr c28
                   clear c28
                   obtain rfl := Option.some.inj H
                   have hnb29 := NB217_223.out
                   have hnc29 := NB223_217.out
                   have hcz30_0 : wr.cell? ⟨gb217, 0, none⟩ = some (.int .i64 a0_0) := (blk_cell BK217.out 0).trans rfl
                   have hcz30_1 : wr.cell? ⟨gb217, 1, none⟩ = some (.slice (some ad222) l0_1.length c0_1) := (blk_cell BK217.out 1).trans rfl
                   have hfz30_0 := blk_frozen BK217.out 0
                   have hfz30_1 := blk_frozen BK217.out 1
                   have p225 : 0 ≤ (x7_3 : Int) := of_decide_eq_true (by first | (with_reducible assumption) | assumption)
                   have q225 : x7_3 < (l0_1.length : Int) := of_decide_eq_true (by first | (with_reducible assumption) | assumption)
                   obtain ⟨ad225, e225, hx225_0, hx225_1, hx225_2, hx225_3⟩ := at_T89 HR0_1.out x7_3 p225 q225
                   obtain rfl : ad222 = ad225 := (by injection e225)
                   replace hx225_0 := (HB.out.cell (World.block_lt_of_cell? w _ hx225_0)).trans hx225_0
                   replace hx225_1 := (HB.out.cell (World.block_lt_of_cell? w _ hx225_1)).trans hx225_1
                   replace hx225_2 := (HB.out.cell (World.block_lt_of_cell? w _ hx225_2)).trans hx225_2
                   replace hx225_3 := (HB.out.cell (World.block_lt_of_cell? w _ hx225_3)).trans hx225_3
                   replace p225 := eq_true p225
                   replace q225 := eq_true q225
                   go_wp2_with (first | ((with_reducible refine gate_dst (N := 8) rfl ?_); (try (refine gate_guard (by rfl) ?_; dsimp only)); refine box_event ?hg (N := 8) ?hd (cs := #[.int .i64 0, .int .i64 0, .int .i64 0, .int .i64 0]) (t := 89) ?hr ?_; (case hd => rfl); (case hg => rfl); (case hr => first | (go_simp; done) | (go_simp; rfl)); intro gb226 hg w31 hbox hb; have n0_ := Aside0.mk (Kd.R_below (by (with_reducible repeat (first | apply Kd.R_alloc | apply Kd.R_drewN | apply Kd.R_drew)); exact HO_3.out) hb); have n1_ := Aside0.mk (blk_below (g := gb217) (o := .cells #[.int .i64 a0_0, .slice (some ad222) l0_1.length c0_1] 36 (0, 0)) kq hb); have n2_ := Aside0.mk (blk_below (g := gb223) (o := .cells #[.int .i64 ((rd_T89 l0_1 x4_2).f0), .int .i64 ((rd_T89 l0_1 x4_2).f1), .int .i64 ((rd_T89 l0_1 x4_2).f2), .int .i64 ((rd_T89 l0_1 x4_2).f3)] 89 (0, 0)) kq hb); have n3_ := Aside0.mk (below_step bq hb); have n4_ := Aside0.mk (hbox); have n5_ := Aside0.mk ((by rw [hg]; exact (below_size bq) : w.heap.size ≤ gb226)); have n6_ := Aside0.mk ((by rw [hg]; exact (below_size bq) : w.heap.size ≤ gb226)); have n7_ := Aside0.mk ((by rw [hg]; exact Nat.ne_of_lt (blk_lt (g := gb217) (o := .cells #[.int .i64 a0_0, .slice (some ad222) l0_1.length c0_1] 36 (0, 0)) kq) : gb217 ≠ gb226)); have n8_ := Aside0.mk ((by rw [hg]; exact Nat.ne_of_gt (blk_lt (g := gb217) (o := .cells #[.int .i64 a0_0, .slice (some ad222) l0_1.length c0_1] 36 (0, 0)) kq) : gb226 ≠ gb217)); have n9_ := Aside0.mk ((by rw [hg]; exact Nat.ne_of_lt (blk_lt (g := gb223) (o := .cells #[.int .i64 ((rd_T89 l0_1 x4_2).f0), .int .i64 ((rd_T89 l0_1 x4_2).f1), .int .i64 ((rd_T89 l0_1 x4_2).f2), .int .i64 ((rd_T89 l0_1 x4_2).f3)] 89 (0, 0)) kq) : gb223 ≠ gb226)); have n10_ := Aside0.mk ((by rw [hg]; exact Nat.ne_of_gt (blk_lt (g := gb223) (o := .cells #[.int .i64 ((rd_T89 l0_1 x4_2).f0), .int .i64 ((rd_T89 l0_1 x4_2).f1), .int .i64 ((rd_T89 l0_1 x4_2).f2), .int .i64 ((rd_T89 l0_1 x4_2).f3)] 89 (0, 0)) kq) : gb226 ≠ gb223)); clear HO_3; clear BK217; clear BK223; clear HB; have HO_3 := n0_; have BK217 := n1_; have BK223 := n2_; have HB := n3_; have BK226 := n4_; have GW226 := n5_; have GE226 := n6_; have NB217_226 := n7_; have NB226_217 := n8_; have NB223_226 := n9_; have NB226_223 := n10_; clear n0_ n1_ n2_ n3_ n4_ n5_ n6_ n7_ n8_ n9_ n10_; clear hb hbox hg; have hnb32 := NB226_217.out; have hnc32 := NB217_226.out; have hnb33 := NB226_223.out; have hnc33 := NB223_226.out; have hcz34_0 : w31.cell? ⟨gb226, 0, none⟩ = some (.int .i64 0) := (blk_cell BK226.out 0).trans rfl; have hcz34_1 : w31.cell? ⟨gb226, 1, none⟩ = some (.int .i64 0) := (blk_cell BK226.out 1).trans rfl; have hcz34_2 : w31.cell? ⟨gb226, 2, none⟩ = some (.int .i64 0) := (blk_cell BK226.out 2).trans rfl; have hcz34_3 : w31.cell? ⟨gb226, 3, none⟩ = some (.int .i64 0) := (blk_cell BK226.out 3).trans rfl; have hfz34_0 := blk_frozen BK226.out 0; have hfz34_1 := blk_frozen BK226.out 1; have hfz34_2 := blk_frozen BK226.out 2; have hfz34_3 := blk_frozen BK226.out 3; have hcz35_0 : w31.cell? ⟨gb223, 0, none⟩ = some (.int .i64 ((rd_T89 l0_1 x4_2).f0)) := (blk_cell BK223.out 0).trans rfl; have hcz35_1 : w31.cell? ⟨gb223, 1, none⟩ = some (.int .i64 ((rd_T89 l0_1 x4_2).f1)) := (blk_cell BK223.out 1).trans rfl; have hcz35_2 : w31.cell? ⟨gb223, 2, none⟩ = some (.int .i64 ((rd_T89 l0_1 x4_2).f2)) := (blk_cell BK223.out 2).trans rfl; have hcz35_3 : w31.cell? ⟨gb223, 3, none⟩ = some (.int .i64 ((rd_T89 l0_1 x4_2).f3)) := (blk_cell BK223.out 3).trans rfl; have hfz35_0 := blk_frozen BK223.out 0; have hfz35_1 := blk_frozen BK223.out 1; have hfz35_2 := blk_frozen BK223.out 2; have hfz35_3 := blk_frozen BK223.out 3))
                   go_ret
                   exact ⟨by first | rfl | (simp [errW_none, errW_some] <;> rfl) | (simp [*, errW_none, errW_some] <;> rfl), bq⟩
                  ·rw [if_neg c28] at H
                   have c28b0 : (((rd_T89 l0_1 x7_3).f2) == ((rd_T89 l0_1 x4_2).f2)) = false := beq_eq_false_iff_ne.mpr c28
                   have c28b1 : (((rd_T89 l0_1 x7_3).f2) != ((rd_T89 l0_1 x4_2).f2)) = true := bne_iff_ne.mpr c28
                   have H' := Aside0.mk H
                   clear H
                   have hnb36 := NB217_223.out
                   have hnc36 := NB223_217.out
                   have hcz37_0 : wr.cell? ⟨gb217, 0, none⟩ = some (.int .i64 a0_0) := (blk_cell BK217.out 0).trans rfl
                   have hcz37_1 : wr.cell? ⟨gb217, 1, none⟩ = some (.slice (some ad222) l0_1.length c0_1) := (blk_cell BK217.out 1).trans rfl
                   have hfz37_0 := blk_frozen BK217.out 0
                   have hfz37_1 := blk_frozen BK217.out 1
                   have p225 : 0 ≤ (x7_3 : Int) := of_decide_eq_true (by first | (with_reducible assumption) | assumption)
                   have q225 : x7_3 < (l0_1.length : Int) := of_decide_eq_true (by first | (with_reducible assumption) | assumption)
                   obtain ⟨ad225, e225, hx225_0, hx225_1, hx225_2, hx225_3⟩ := at_T89 HR0_1.out x7_3 p225 q225
                   obtain rfl : ad222 = ad225 := (by injection e225)
                   replace hx225_0 := (HB.out.cell (World.block_lt_of_cell? w _ hx225_0)).trans hx225_0
                   replace hx225_1 := (HB.out.cell (World.block_lt_of_cell? w _ hx225_1)).trans hx225_1
                   replace hx225_2 := (HB.out.cell (World.block_lt_of_cell? w _ hx225_2)).trans hx225_2
                   replace hx225_3 := (HB.out.cell (World.block_lt_of_cell? w _ hx225_3)).trans hx225_3
                   replace p225 := eq_true p225
                   replace q225 := eq_true q225
                   go_wp2_with (first | ((with_reducible refine gate_dst (N := 8) rfl ?_); (try (refine gate_guard (by rfl) ?_; dsimp only)); refine box_event ?hg (N := 8) ?hd (cs := #[.int .i64 0, .int .i64 0, .int .i64 0, .int .i64 0]) (t := 89) ?hr ?_; (case hd => rfl); (case hg => rfl); (case hr => first | (go_simp; done) | (go_simp; rfl)); intro gb226 hg w38 hbox hb; have n0_ := Aside0.mk (Kd.R_below (by (with_reducible repeat (first | apply Kd.R_alloc | apply Kd.R_drewN | apply Kd.R_drew)); exact HO_3.out) hb); have n1_ := Aside0.mk (blk_below (g := gb217) (o := .cells #[.int .i64 a0_0, .slice (some ad222) l0_1.length c0_1] 36 (0, 0)) kq hb); have n2_ := Aside0.mk (blk_below (g := gb223) (o := .cells #[.int .i64 ((rd_T89 l0_1 x4_2).f0), .int .i64 ((rd_T89 l0_1 x4_2).f1), .int .i64 ((rd_T89 l0_1 x4_2).f2), .int .i64 ((rd_T89 l0_1 x4_2).f3)] 89 (0, 0)) kq hb); have n3_ := Aside0.mk (below_step bq hb); have n4_ := Aside0.mk (hbox); have n5_ := Aside0.mk ((by rw [hg]; exact (below_size bq) : w.heap.size ≤ gb226)); have n6_ := Aside0.mk ((by rw [hg]; exact (below_size bq) : w.heap.size ≤ gb226)); have n7_ := Aside0.mk ((by rw [hg]; exact Nat.ne_of_lt (blk_lt (g := gb217) (o := .cells #[.int .i64 a0_0, .slice (some ad222) l0_1.length c0_1] 36 (0, 0)) kq) : gb217 ≠ gb226)); have n8_ := Aside0.mk ((by rw [hg]; exact Nat.ne_of_gt (blk_lt (g := gb217) (o := .cells #[.int .i64 a0_0, .slice (some ad222) l0_1.length c0_1] 36 (0, 0)) kq) : gb226 ≠ gb217)); have n9_ := Aside0.mk ((by rw [hg]; exact Nat.ne_of_lt (blk_lt (g := gb223) (o := .cells #[.int .i64 ((rd_T89 l0_1 x4_2).f0), .int .i64 ((rd_T89 l0_1 x4_2).f1), .int .i64 ((rd_T89 l0_1 x4_2).f2), .int .i64 ((rd_T89 l0_1 x4_2).f3)] 89 (0, 0)) kq) : gb223 ≠ gb226)); have n10_ := Aside0.mk ((by rw [hg]; exact Nat.ne_of_gt (blk_lt (g := gb223) (o := .cells #[.int .i64 ((rd_T89 l0_1 x4_2).f0), .int .i64 ((rd_T89 l0_1 x4_2).f1), .int .i64 ((rd_T89 l0_1 x4_2).f2), .int .i64 ((rd_T89 l0_1 x4_2).f3)] 89 (0, 0)) kq) : gb226 ≠ gb223)); clear HO_3; clear BK217; clear BK223; clear HB; have HO_3 := n0_; have BK217 := n1_; have BK223 := n2_; have HB := n3_; have BK226 := n4_; have GW226 := n5_; have GE226 := n6_; have NB217_226 := n7_; have NB226_217 := n8_; have NB223_226 := n9_; have NB226_223 := n10_; clear n0_ n1_ n2_ n3_ n4_ n5_ n6_ n7_ n8_ n9_ n10_; clear hb hbox hg; have hnb39 := NB226_217.out; have hnc39 := NB217_226.out; have hnb40 := NB226_223.out; have hnc40 := NB223_226.out; have hcz41_0 : w38.cell? ⟨gb226, 0, none⟩ = some (.int .i64 0) := (blk_cell BK226.out 0).trans rfl; have hcz41_1 : w38.cell? ⟨gb226, 1, none⟩ = some (.int .i64 0) := (blk_cell BK226.out 1).trans rfl; have hcz41_2 : w38.cell? ⟨gb226, 2, none⟩ = some (.int .i64 0) := (blk_cell BK226.out 2).trans rfl; have hcz41_3 : w38.cell? ⟨gb226, 3, none⟩ = some (.int .i64 0) := (blk_cell BK226.out 3).trans rfl; have hfz41_0 := blk_frozen BK226.out 0; have hfz41_1 := blk_frozen BK226.out 1; have hfz41_2 := blk_frozen BK226.out 2; have hfz41_3 := blk_frozen BK226.out 3; have hcz42_0 : w38.cell? ⟨gb223, 0, none⟩ = some (.int .i64 ((rd_T89 l0_1 x4_2).f0)) := (blk_cell BK223.out 0).trans rfl; have hcz42_1 : w38.cell? ⟨gb223, 1, none⟩ = some (.int .i64 ((rd_T89 l0_1 x4_2).f1)) := (blk_cell BK223.out 1).trans rfl; have hcz42_2 : w38.cell? ⟨gb223, 2, none⟩ = some (.int .i64 ((rd_T89 l0_1 x4_2).f2)) := (blk_cell BK223.out 2).trans rfl; have hcz42_3 : w38.cell? ⟨gb223, 3, none⟩ = some (.int .i64 ((rd_T89 l0_1 x4_2).f3)) := (blk_cell BK223.out 3).trans rfl; have hfz42_0 := blk_frozen BK223.out 0; have hfz42_1 := blk_frozen BK223.out 1; have hfz42_2 := blk_frozen BK223.out 2; have hfz42_3 := blk_frozen BK223.out 3))
                   go_roundg k3
                   case measure => have := HJ3.out; have := HK2.out; have := HK3.out; omega
                   case rel => exact ⟨(wrap64 (x7_3 + 1)), (by first | rfl | (simp; done) | (simp [*]; done)), H', ⟨by have := HJ3.out; have := HK2.out; have := HK3.out; omega⟩, ⟨by (with_reducible repeat (first | apply Kd.R_alloc | apply Kd.R_drewN | apply Kd.R_drew)); exact Kd.R_mono (Kd.R_far (p := ⟨gb226, 3, none⟩) (Kd.R_far (p := ⟨gb226, 2, none⟩) (Kd.R_far (p := ⟨gb226, 1, none⟩) (Kd.R_far (p := ⟨gb226, 0, none⟩) (Kd.R_types HO_3.out BK226.out (by decide)) (fun _ hk => hk.2) (.int .i64 ((rd_T89 l0_1 x7_3).f0))) (fun _ hk => hk.2) (.int .i64 ((rd_T89 l0_1 x7_3).f1))) (fun _ hk => hk.2) (.int .i64 ((rd_T89 l0_1 x7_3).f2))) (fun _ hk => hk.2) (.int .i64 ((rd_T89 l0_1 x7_3).f3))) (fun _ hk => trivial)⟩, ⟨by (with_reducible repeat (first | refine blk_drewN ?_ _ | refine blk_drew ?_ | refine blk_alloc ?_ _)); refine blk_far ?_ NB217_226.out _; (with_reducible repeat (first | refine blk_drewN ?_ _ | refine blk_drew ?_ | refine blk_alloc ?_ _)); refine blk_far ?_ NB217_226.out _; (with_reducible repeat (first | refine blk_drewN ?_ _ | refine blk_drew ?_ | refine blk_alloc ?_ _)); refine blk_far ?_ NB217_226.out _; (with_reducible repeat (first | refine blk_drewN ?_ _ | refine blk_drew ?_ | refine blk_alloc ?_ _)); refine blk_far ?_ NB217_226.out _; (with_reducible repeat (first | refine blk_drewN ?_ _ | refine blk_drew ?_ | refine blk_alloc ?_ _)); exact BK217.out⟩, ⟨by (with_reducible repeat (first | refine blk_drewN ?_ _ | refine blk_drew ?_ | refine blk_alloc ?_ _)); refine blk_far ?_ NB223_226.out _; (with_reducible repeat (first | refine blk_drewN ?_ _ | refine blk_drew ?_ | refine blk_alloc ?_ _)); refine blk_far ?_ NB223_226.out _; (with_reducible repeat (first | refine blk_drewN ?_ _ | refine blk_drew ?_ | refine blk_alloc ?_ _)); refine blk_far ?_ NB223_226.out _; (with_reducible repeat (first | refine blk_drewN ?_ _ | refine blk_drew ?_ | refine blk_alloc ?_ _)); refine blk_far ?_ NB223_226.out _; (with_reducible repeat (first | refine blk_drewN ?_ _ | refine blk_drew ?_ | refine blk_alloc ?_ _)); exact BK223.out⟩, ⟨bq⟩⟩
                 ·rw [if_neg c27] at H
                  have c27b0 : (((rd_T89 l0_1 x7_3).f1) == ((rd_T89 l0_1 x4_2).f1)) = false := beq_eq_false_iff_ne.mpr c27
                  have c27b1 : (((rd_T89 l0_1 x7_3).f1) != ((rd_T89 l0_1 x4_2).f1)) = true := bne_iff_ne.mpr c27
                  have H' := Aside0.mk H
                  clear H
                  have hnb43 := NB217_223.out
                  have hnc43 := NB223_217.out
                  have hcz44_0 : wr.cell? ⟨gb217, 0, none⟩ = some (.int .i64 a0_0) := (blk_cell BK217.out 0).trans rfl
                  have hcz44_1 : wr.cell? ⟨gb217, 1, none⟩ = some (.slice (some ad222) l0_1.length c0_1) := (blk_cell BK217.out 1).trans rfl
                  have hfz44_0 := blk_frozen BK217.out 0
                  have hfz44_1 := blk_frozen BK217.out 1
                  have p225 : 0 ≤ (x7_3 : Int) := of_decide_eq_true (by first | (with_reducible assumption) | assumption)
                  have q225 : x7_3 < (l0_1.length : Int) := of_decide_eq_true (by first | (with_reducible assumption) | assumption)
                  obtain ⟨ad225, e225, hx225_0, hx225_1, hx225_2, hx225_3⟩ := at_T89 HR0_1.out x7_3 p225 q225
                  obtain rfl : ad222 = ad225 := (by injection e225)
                  replace hx225_0 := (HB.out.cell (World.block_lt_of_cell? w _ hx225_0)).trans hx225_0
                  replace hx225_1 := (HB.out.cell (World.block_lt_of_cell? w _ hx225_1)).trans hx225_1
                  replace hx225_2 := (HB.out.cell (World.block_lt_of_cell? w _ hx225_2)).trans hx225_2
                  replace hx225_3 := (HB.out.cell (World.block_lt_of_cell? w _ hx225_3)).trans hx225_3
                  replace p225 := eq_true p225
                  replace q225 := eq_true q225
                  go_wp2_with (first | ((with_reducible refine gate_dst (N := 8) rfl ?_); (try (refine gate_guard (by rfl) ?_; dsimp only)); refine box_event ?hg (N := 8) ?hd (cs := #[.int .i64 0, .int .i64 0, .int .i64 0, .int .i64 0]) (t := 89) ?hr ?_; (case hd => rfl); (case hg => rfl); (case hr => first | (go_simp; done) | (go_simp; rfl)); intro gb226 hg w45 hbox hb; have n0_ := Aside0.mk (Kd.R_below (by (with_reducible repeat (first | apply Kd.R_alloc | apply Kd.R_drewN | apply Kd.R_drew)); exact HO_3.out) hb); have n1_ := Aside0.mk (blk_below (g := gb217) (o := .cells #[.int .i64 a0_0, .slice (some ad222) l0_1.length c0_1] 36 (0, 0)) kq hb); have n2_ := Aside0.mk (blk_below (g := gb223) (o := .cells #[.int .i64 ((rd_T89 l0_1 x4_2).f0), .int .i64 ((rd_T89 l0_1 x4_2).f1), .int .i64 ((rd_T89 l0_1 x4_2).f2), .int .i64 ((rd_T89 l0_1 x4_2).f3)] 89 (0, 0)) kq hb); have n3_ := Aside0.mk (below_step bq hb); have n4_ := Aside0.mk (hbox); have n5_ := Aside0.mk ((by rw [hg]; exact (below_size bq) : w.heap.size ≤ gb226)); have n6_ := Aside0.mk ((by rw [hg]; exact (below_size bq) : w.heap.size ≤ gb226)); have n7_ := Aside0.mk ((by rw [hg]; exact Nat.ne_of_lt (blk_lt (g := gb217) (o := .cells #[.int .i64 a0_0, .slice (some ad222) l0_1.length c0_1] 36 (0, 0)) kq) : gb217 ≠ gb226)); have n8_ := Aside0.mk ((by rw [hg]; exact Nat.ne_of_gt (blk_lt (g := gb217) (o := .cells #[.int .i64 a0_0, .slice (some ad222) l0_1.length c0_1] 36 (0, 0)) kq) : gb226 ≠ gb217)); have n9_ := Aside0.mk ((by rw [hg]; exact Nat.ne_of_lt (blk_lt (g := gb223) (o := .cells #[.int .i64 ((rd_T89 l0_1 x4_2).f0), .int .i64 ((rd_T89 l0_1 x4_2).f1), .int .i64 ((rd_T89 l0_1 x4_2).f2), .int .i64 ((rd_T89 l0_1 x4_2).f3)] 89 (0, 0)) kq) : gb223 ≠ gb226)); have n10_ := Aside0.mk ((by rw [hg]; exact Nat.ne_of_gt (blk_lt (g := gb223) (o := .cells #[.int .i64 ((rd_T89 l0_1 x4_2).f0), .int .i64 ((rd_T89 l0_1 x4_2).f1), .int .i64 ((rd_T89 l0_1 x4_2).f2), .int .i64 ((rd_T89 l0_1 x4_2).f3)] 89 (0, 0)) kq) : gb226 ≠ gb223)); clear HO_3; clear BK217; clear BK223; clear HB; have HO_3 := n0_; have BK217 := n1_; have BK223 := n2_; have HB := n3_; have BK226 := n4_; have GW226 := n5_; have GE226 := n6_; have NB217_226 := n7_; have NB226_217 := n8_; have NB223_226 := n9_; have NB226_223 := n10_; clear n0_ n1_ n2_ n3_ n4_ n5_ n6_ n7_ n8_ n9_ n10_; clear hb hbox hg; have hnb46 := NB226_217.out; have hnc46 := NB217_226.out; have hnb47 := NB226_223.out; have hnc47 := NB223_226.out; have hcz48_0 : w45.cell? ⟨gb226, 0, none⟩ = some (.int .i64 0) := (blk_cell BK226.out 0).trans rfl; have hcz48_1 : w45.cell? ⟨gb226, 1, none⟩ = some (.int .i64 0) := (blk_cell BK226.out 1).trans rfl; have hcz48_2 : w45.cell? ⟨gb226, 2, none⟩ = some (.int .i64 0) := (blk_cell BK226.out 2).trans rfl; have hcz48_3 : w45.cell? ⟨gb226, 3, none⟩ = some (.int .i64 0) := (blk_cell BK226.out 3).trans rfl; have hfz48_0 := blk_frozen BK226.out 0; have hfz48_1 := blk_frozen BK226.out 1; have hfz48_2 := blk_frozen BK226.out 2; have hfz48_3 := blk_frozen BK226.out 3; have hcz49_0 : w45.cell? ⟨gb223, 0, none⟩ = some (.int .i64 ((rd_T89 l0_1 x4_2).f0)) := (blk_cell BK223.out 0).trans rfl; have hcz49_1 : w45.cell? ⟨gb223, 1, none⟩ = some (.int .i64 ((rd_T89 l0_1 x4_2).f1)) := (blk_cell BK223.out 1).trans rfl; have hcz49_2 : w45.cell? ⟨gb223, 2, none⟩ = some (.int .i64 ((rd_T89 l0_1 x4_2).f2)) := (blk_cell BK223.out 2).trans rfl; have hcz49_3 : w45.cell? ⟨gb223, 3, none⟩ = some (.int .i64 ((rd_T89 l0_1 x4_2).f3)) := (blk_cell BK223.out 3).trans rfl; have hfz49_0 := blk_frozen BK223.out 0; have hfz49_1 := blk_frozen BK223.out 1; have hfz49_2 := blk_frozen BK223.out 2; have hfz49_3 := blk_frozen BK223.out 3))
                  go_roundg k3
                  case measure => have := HJ3.out; have := HK2.out; have := HK3.out; omega
                  case rel => exact ⟨(wrap64 (x7_3 + 1)), (by first | rfl | (simp; done) | (simp [*]; done)), H', ⟨by have := HJ3.out; have := HK2.out; have := HK3.out; omega⟩, ⟨by (with_reducible repeat (first | apply Kd.R_alloc | apply Kd.R_drewN | apply Kd.R_drew)); exact Kd.R_mono (Kd.R_far (p := ⟨gb226, 3, none⟩) (Kd.R_far (p := ⟨gb226, 2, none⟩) (Kd.R_far (p := ⟨gb226, 1, none⟩) (Kd.R_far (p := ⟨gb226, 0, none⟩) (Kd.R_types HO_3.out BK226.out (by decide)) (fun _ hk => hk.2) (.int .i64 ((rd_T89 l0_1 x7_3).f0))) (fun _ hk => hk.2) (.int .i64 ((rd_T89 l0_1 x7_3).f1))) (fun _ hk => hk.2) (.int .i64 ((rd_T89 l0_1 x7_3).f2))) (fun _ hk => hk.2) (.int .i64 ((rd_T89 l0_1 x7_3).f3))) (fun _ hk => trivial)⟩, ⟨by (with_reducible repeat (first | refine blk_drewN ?_ _ | refine blk_drew ?_ | refine blk_alloc ?_ _)); refine blk_far ?_ NB217_226.out _; (with_reducible repeat (first | refine blk_drewN ?_ _ | refine blk_drew ?_ | refine blk_alloc ?_ _)); refine blk_far ?_ NB217_226.out _; (with_reducible repeat (first | refine blk_drewN ?_ _ | refine blk_drew ?_ | refine blk_alloc ?_ _)); refine blk_far ?_ NB217_226.out _; (with_reducible repeat (first | refine blk_drewN ?_ _ | refine blk_drew ?_ | refine blk_alloc ?_ _)); refine blk_far ?_ NB217_226.out _; (with_reducible repeat (first | refine blk_drewN ?_ _ | refine blk_drew ?_ | refine blk_alloc ?_ _)); exact BK217.out⟩, ⟨by (with_reducible repeat (first | refine blk_drewN ?_ _ | refine blk_drew ?_ | refine blk_alloc ?_ _)); refine blk_far ?_ NB223_226.out _; (with_reducible repeat (first | refine blk_drewN ?_ _ | refine blk_drew ?_ | refine blk_alloc ?_ _)); refine blk_far ?_ NB223_226.out _; (with_reducible repeat (first | refine blk_drewN ?_ _ | refine blk_drew ?_ | refine blk_alloc ?_ _)); refine blk_far ?_ NB223_226.out _; (with_reducible repeat (first | refine blk_drewN ?_ _ | refine blk_drew ?_ | refine blk_alloc ?_ _)); refine blk_far ?_ NB223_226.out _; (with_reducible repeat (first | refine blk_drewN ?_ _ | refine blk_drew ?_ | refine blk_alloc ?_ _)); exact BK223.out⟩, ⟨bq⟩⟩
                ·rw [if_neg c26] at H
                 have c26b0 : (((rd_T89 l0_1 x7_3).f0) == ((rd_T89 l0_1 x4_2).f0)) = false := beq_eq_false_iff_ne.mpr c26
                 have c26b1 : (((rd_T89 l0_1 x7_3).f0) != ((rd_T89 l0_1 x4_2).f0)) = true := bne_iff_ne.mpr c26
                 have H' := Aside0.mk H
                 clear H
                 have hnb50 := NB217_223.out
                 have hnc50 := NB223_217.out
                 have hcz51_0 : wr.cell? ⟨gb217, 0, none⟩ = some (.int .i64 a0_0) := (blk_cell BK217.out 0).trans rfl
                 have hcz51_1 : wr.cell? ⟨gb217, 1, none⟩ = some (.slice (some ad222) l0_1.length c0_1) := (blk_cell BK217.out 1).trans rfl
                 have hfz51_0 := blk_frozen BK217.out 0
                 have hfz51_1 := blk_frozen BK217.out 1
                 have p225 : 0 ≤ (x7_3 : Int) := of_decide_eq_true (by first | (with_reducible assumption) | assumption)
                 have q225 : x7_3 < (l0_1.length : Int) := of_decide_eq_true (by first | (with_reducible assumption) | assumption)
                 obtain ⟨ad225, e225, hx225_0, hx225_1, hx225_2, hx225_3⟩ := at_T89 HR0_1.out x7_3 p225 q225
                 obtain rfl : ad222 = ad225 := (by injection e225)
                 replace hx225_0 := (HB.out.cell (World.block_lt_of_cell? w _ hx225_0)).trans hx225_0
                 replace hx225_1 := (HB.out.cell (World.block_lt_of_cell? w _ hx225_1)).trans hx225_1
                 replace hx225_2 := (HB.out.cell (World.block_lt_of_cell? w _ hx225_2)).trans hx225_2
                 replace hx225_3 := (HB.out.cell (World.block_lt_of_cell? w _ hx225_3)).trans hx225_3
                 replace p225 := eq_true p225
                 replace q225 := eq_true q225
                 go_wp2_with (first | ((with_reducible refine gate_dst (N := 8) rfl ?_); (try (refine gate_guard (by rfl) ?_; dsimp only)); refine box_event ?hg (N := 8) ?hd (cs := #[.int .i64 0, .int .i64 0, .int .i64 0, .int .i64 0]) (t := 89) ?hr ?_; (case hd => rfl); (case hg => rfl); (case hr => first | (go_simp; done) | (go_simp; rfl)); intro gb226 hg w52 hbox hb; have n0_ := Aside0.mk (Kd.R_below (by (with_reducible repeat (first | apply Kd.R_alloc | apply Kd.R_drewN | apply Kd.R_drew)); exact HO_3.out) hb); have n1_ := Aside0.mk (blk_below (g := gb217) (o := .cells #[.int .i64 a0_0, .slice (some ad222) l0_1.length c0_1] 36 (0, 0)) kq hb); have n2_ := Aside0.mk (blk_below (g := gb223) (o := .cells #[.int .i64 ((rd_T89 l0_1 x4_2).f0), .int .i64 ((rd_T89 l0_1 x4_2).f1), .int .i64 ((rd_T89 l0_1 x4_2).f2), .int .i64 ((rd_T89 l0_1 x4_2).f3)] 89 (0, 0)) kq hb); have n3_ := Aside0.mk (below_step bq hb); have n4_ := Aside0.mk (hbox); have n5_ := Aside0.mk ((by rw [hg]; exact (below_size bq) : w.heap.size ≤ gb226)); have n6_ := Aside0.mk ((by rw [hg]; exact (below_size bq) : w.heap.size ≤ gb226)); have n7_ := Aside0.mk ((by rw [hg]; exact Nat.ne_of_lt (blk_lt (g := gb217) (o := .cells #[.int .i64 a0_0, .slice (some ad222) l0_1.length c0_1] 36 (0, 0)) kq) : gb217 ≠ gb226)); have n8_ := Aside0.mk ((by rw [hg]; exact Nat.ne_of_gt (blk_lt (g := gb217) (o := .cells #[.int .i64 a0_0, .slice (some ad222) l0_1.length c0_1] 36 (0, 0)) kq) : gb226 ≠ gb217)); have n9_ := Aside0.mk ((by rw [hg]; exact Nat.ne_of_lt (blk_lt (g := gb223) (o := .cells #[.int .i64 ((rd_T89 l0_1 x4_2).f0), .int .i64 ((rd_T89 l0_1 x4_2).f1), .int .i64 ((rd_T89 l0_1 x4_2).f2), .int .i64 ((rd_T89 l0_1 x4_2).f3)] 89 (0, 0)) kq) : gb223 ≠ gb226)); have n10_ := Aside0.mk ((by rw [hg]; exact Nat.ne_of_gt (blk_lt (g := gb223) (o := .cells #[.int .i64 ((rd_T89 l0_1 x4_2).f0), .int .i64 ((rd_T89 l0_1 x4_2).f1), .int .i64 ((rd_T89 l0_1 x4_2).f2), .int .i64 ((rd_T89 l0_1 x4_2).f3)] 89 (0, 0)) kq) : gb226 ≠ gb223)); clear HO_3; clear BK217; clear BK223; clear HB; have HO_3 := n0_; have BK217 := n1_; have BK223 := n2_; have HB := n3_; have BK226 := n4_; have GW226 := n5_; have GE226 := n6_; have NB217_226 := n7_; have NB226_217 := n8_; have NB223_226 := n9_; have NB226_223 := n10_; clear n0_ n1_ n2_ n3_ n4_ n5_ n6_ n7_ n8_ n9_ n10_; clear hb hbox hg; have hnb53 := NB226_217.out; have hnc53 := NB217_226.out; have hnb54 := NB226_223.out; have hnc54 := NB223_226.out; have hcz55_0 : w52.cell? ⟨gb226, 0, none⟩ = some (.int .i64 0) := (blk_cell BK226.out 0).trans rfl; have hcz55_1 : w52.cell? ⟨gb226, 1, none⟩ = some (.int .i64 0) := (blk_cell BK226.out 1).trans rfl; have hcz55_2 : w52.cell? ⟨gb226, 2, none⟩ = some (.int .i64 0) := (blk_cell BK226.out 2).trans rfl; have hcz55_3 : w52.cell? ⟨gb226, 3, none⟩ = some (.int .i64 0) := (blk_cell BK226.out 3).trans rfl; have hfz55_0 := blk_frozen BK226.out 0; have hfz55_1 := blk_frozen BK226.out 1; have hfz55_2 := blk_frozen BK226.out 2; have hfz55_3 := blk_frozen BK226.out 3; have hcz56_0 : w52.cell? ⟨gb223, 0, none⟩ = some (.int .i64 ((rd_T89 l0_1 x4_2).f0)) := (blk_cell BK223.out 0).trans rfl; have hcz56_1 : w52.cell? ⟨gb223, 1, none⟩ = some (.int .i64 ((rd_T89 l0_1 x4_2).f1)) := (blk_cell BK223.out 1).trans rfl; have hcz56_2 : w52.cell? ⟨gb223, 2, none⟩ = some (.int .i64 ((rd_T89 l0_1 x4_2).f2)) := (blk_cell BK223.out 2).trans rfl; have hcz56_3 : w52.cell? ⟨gb223, 3, none⟩ = some (.int .i64 ((rd_T89 l0_1 x4_2).f3)) := (blk_cell BK223.out 3).trans rfl; have hfz56_0 := blk_frozen BK223.out 0; have hfz56_1 := blk_frozen BK223.out 1; have hfz56_2 := blk_frozen BK223.out 2; have hfz56_3 := blk_frozen BK223.out 3))
                 go_roundg k3
                 case measure => have := HJ3.out; have := HK2.out; have := HK3.out; omega
                 case rel => exact ⟨(wrap64 (x7_3 + 1)), (by first | rfl | (simp; done) | (simp [*]; done)), H', ⟨by have := HJ3.out; have := HK2.out; have := HK3.out; omega⟩, ⟨by (with_reducible repeat (first | apply Kd.R_alloc | apply Kd.R_drewN | apply Kd.R_drew)); exact Kd.R_mono (Kd.R_far (p := ⟨gb226, 3, none⟩) (Kd.R_far (p := ⟨gb226, 2, none⟩) (Kd.R_far (p := ⟨gb226, 1, none⟩) (Kd.R_far (p := ⟨gb226, 0, none⟩) (Kd.R_types HO_3.out BK226.out (by decide)) (fun _ hk => hk.2) (.int .i64 ((rd_T89 l0_1 x7_3).f0))) (fun _ hk => hk.2) (.int .i64 ((rd_T89 l0_1 x7_3).f1))) (fun _ hk => hk.2) (.int .i64 ((rd_T89 l0_1 x7_3).f2))) (fun _ hk => hk.2) (.int .i64 ((rd_T89 l0_1 x7_3).f3))) (fun _ hk => trivial)⟩, ⟨by (with_reducible repeat (first | refine blk_drewN ?_ _ | refine blk_drew ?_ | refine blk_alloc ?_ _)); refine blk_far ?_ NB217_226.out _; (with_reducible repeat (first | refine blk_drewN ?_ _ | refine blk_drew ?_ | refine blk_alloc ?_ _)); refine blk_far ?_ NB217_226.out _; (with_reducible repeat (first | refine blk_drewN ?_ _ | refine blk_drew ?_ | refine blk_alloc ?_ _)); refine blk_far ?_ NB217_226.out _; (with_reducible repeat (first | refine blk_drewN ?_ _ | refine blk_drew ?_ | refine blk_alloc ?_ _)); refine blk_far ?_ NB217_226.out _; (with_reducible repeat (first | refine blk_drewN ?_ _ | refine blk_drew ?_ | refine blk_alloc ?_ _)); exact BK217.out⟩, ⟨by (with_reducible repeat (first | refine blk_drewN ?_ _ | refine blk_drew ?_ | refine blk_alloc ?_ _)); refine blk_far ?_ NB223_226.out _; (with_reducible repeat (first | refine blk_drewN ?_ _ | refine blk_drew ?_ | refine blk_alloc ?_ _)); refine blk_far ?_ NB223_226.out _; (with_reducible repeat (first | refine blk_drewN ?_ _ | refine blk_drew ?_ | refine blk_alloc ?_ _)); refine blk_far ?_ NB223_226.out _; (with_reducible repeat (first | refine blk_drewN ?_ _ | refine blk_drew ?_ | refine blk_alloc ?_ _)); refine blk_far ?_ NB223_226.out _; (with_reducible repeat (first | refine blk_drewN ?_ _ | refine blk_drew ?_ | refine blk_alloc ?_ _)); exact BK223.out⟩, ⟨bq⟩⟩
               ·rw [if_neg c25] at H
                exact absurd H (by simp)
              ·rw [if_neg c24] at H
               exact absurd H (by simp)
             ·rw [if_neg c23] at H
              have c23b0 : decide (x7_3 < x4_2) = false := decide_eq_false c23
              clear c23
              by_cases c57 : 0 ≤ ((rd_T89 l0_1 x4_2).f2)
              ·rw [if_pos c57] at H
               have c57b0 : decide (0 ≤ ((rd_T89 l0_1 x4_2).f2)) = true := decide_eq_true c57
               clear c57
               by_cases c58 : ((rd_T89 l0_1 x4_2).f2) < (x3_2.length : Int)
               ·rw [if_pos c58] at H
                have c58b0 : decide (((rd_T89 l0_1 x4_2).f2) < (x3_2.length : Int)) = true := decide_eq_true c58
                clear c58
                obtain ⟨y228, hy228⟩ : ∃ y_ : List Int, y_ = (x3_2.set (((rd_T89 l0_1 x4_2).f2) : Int).toNat (wrap64 ((rd x3_2 ((rd_T89 l0_1 x4_2).f2)) + ((rd_T89 l0_1 x4_2).f3)))) := ⟨_, rfl⟩
                replace H : (spec_ContractFault.l0 k3 y228 (wrap64 (x4_2 + 1)) a0_0 l0_1) = some r := by first | (rw [hy228]; with_reducible exact H) | (have H2_ := (Option.bind_some _ _).symm.trans H; rw [hy228]; with_reducible exact H2_) | (have H2_ := (Option.bind_some _ _).symm.trans H; with_reducible exact H2_) | with_reducible exact H | (rw [hy228]; exact H) | exact H
                have Ny228 := Aside0.mk hy228
                clear hy228
                have H' := Aside0.mk H
                clear H
                try go_wp2
                have n0_ := Aside0.mk (Kd.R_drew HO_3.out)
                have n1_ := Aside0.mk (blk_drew BK217.out)
                have n2_ := Aside0.mk (blk_drew BK223.out)
                have n3_ := Aside0.mk (below_drew1 HB.out)
                clear HO_3
                clear BK217
                clear BK223
                clear HB
                have HO_3 := n0_
                have BK217 := n1_
                have BK223 := n2_
                have HB := n3_
                clear n0_ n1_ n2_ n3_
                obtain ⟨Ao61, co61, eo61⟩ := Kd.R_slice HO_3.out
                (first | subst eo61 | (injection eo61 with f1_ f2_ f3_; have f4_ := f1_.symm; have f5_ := f3_.symm; clear f1_ f2_ f3_; subst f4_; subst f5_))
                have p227 : 0 ≤ (((rd_T89 l0_1 x4_2).f2) : Int) := of_decide_eq_true (by first | (with_reducible assumption) | assumption)
                have q227 : ((rd_T89 l0_1 x4_2).f2) < (x3_2.length : Int) := of_decide_eq_true (by first | (with_reducible assumption) | assumption)
                obtain ⟨ad227, e227, hx227_0⟩ := Kd.at_int (Kd.R_reads' HO_3.out).2.2 ((rd_T89 l0_1 x4_2).f2) p227 q227
                cases e227
                replace p227 := eq_true p227
                replace q227 := eq_true q227
                have p59 : 0 ≤ (((rd_T89 l0_1 x4_2).f2) : Int) := of_decide_eq_true (by first | (with_reducible assumption) | assumption)
                have q59 : (((rd_T89 l0_1 x4_2).f2) : Int) < ((x3_2.length : Int) : Int) := of_decide_eq_true (by first | (with_reducible assumption) | assumption)
                obtain ⟨go59, co59, eo59, gb59, gl59, cl59, HG59⟩ := Kd.R_form HO_3.out (by omega)
                (first | cases eo59 | (injection eo59 with ea_ en_ ec_; (first | subst ea_ | (injection ea_ with ea_; subst ea_)); subst ec_; clear en_))
                have GB59 := Aside0.mk gb59
                have GG59 := Aside0.mk HG59
                clear gb59 gl59 HG59
                (first | simp only [add_plain] at hx227_0 | skip)
                obtain ⟨hx59_0, hf59_0⟩ := Kd.R_celln 0 HO_3.out (((rd_T89 l0_1 x4_2).f2) : Int) p59 q59
                replace p59 := eq_true p59
                replace q59 := eq_true q59
                have HP62 := Kd.R_putn HO_3.out (((rd_T89 l0_1 x4_2).f2) : Int) (wrap64 ((rd x3_2 ((rd_T89 l0_1 x4_2).f2)) + ((rd_T89 l0_1 x4_2).f3)))
                rw [← Ny228.out] at HP62
                have HQ62 := Aside0.mk HP62
                clear HP62
                refine start_ (n := 13) (S := fun w' => w'.cell? ⟨gb223, 0, none⟩ = some (.int .i64 ((rd_T89 l0_1 x4_2).f0)) ∧ w'.cell? ⟨gb223, 1, none⟩ = some (.int .i64 ((rd_T89 l0_1 x4_2).f1)) ∧ w'.cell? ⟨gb223, 2, none⟩ = some (.int .i64 ((rd_T89 l0_1 x4_2).f2)) ∧ w'.cell? ⟨gb223, 3, none⟩ = some (.int .i64 ((rd_T89 l0_1 x4_2).f3)) ∧ w'.cell? ((⟨go59, (((rd_T89 l0_1 x4_2).f2)).toNat, none⟩ : Addr)) = some (.int .i64 (rd x3_2 ((rd_T89 l0_1 x4_2).f2)))) (ds := [12]) #[false, false, false, false, false, false, false, false, false, false, false, false, false] (by kernel_rfl) rfl rfl ⟨(blk_cell BK223.out 0).trans rfl, (blk_cell BK223.out 1).trans rfl, (blk_cell BK223.out 2).trans rfl, (blk_cell BK223.out 3).trans rfl, hx227_0⟩ (fun hHeld => ?_); refine with_tabW spec_ContractFault.tab19 spec_ContractFault.bits19 (fun HT_ HW_ => ?_)
                generalize wr.drew = w60 at HO_3 BK217 BK223 HB GG59 HQ62 hf59_0 hx227_0 hx59_0 hHeld ⊢
                refine pure_ (i := 0) (N := some 71) (v := ?_) (a' := ?_) #[true, false, false, false, false, false, false, false, false, false, false, false, false] rfl rfl (any_of HT_.out (by kernel_rfl)) (fun _ _ _ h => h) (Or.inl ⟨by rfl, ?_⟩) ?_ ?_
                rotate_left
                ·intro w'
                 go_simp
                 with_reducible rfl
                rotate_left
                ·simp only [Act.put, List.setIfInBounds_toArray, List.set_cons_zero, List.set_cons_succ, i64_w, i32_w]
                 rfl
                refine pure_ (i := 1) (N := some 72) (v := ?_) (a' := ?_) #[true, true, false, false, false, false, false, false, false, false, false, false, false] rfl rfl (any_of HT_.out (by kernel_rfl)) (fun _ _ _ h => h) (Or.inl ⟨by rfl, ?_⟩) ?_ ?_
                rotate_left
                ·intro w'
                 go_simp
                 with_reducible rfl
                rotate_left
                ·simp only [Act.put, List.setIfInBounds_toArray, List.set_cons_zero, List.set_cons_succ, i64_w, i32_w]
                 rfl
                refine pure_ (i := 3) (N := some 74) (v := ?_) (a' := ?_) #[true, true, false, true, false, false, false, false, false, false, false, false, false] rfl rfl (any_of HT_.out (by kernel_rfl)) (fun _ _ _ h => h) (Or.inl ⟨by rfl, ?_⟩) ?_ ?_
                rotate_left
                ·intro w'
                 go_simp
                 with_reducible rfl
                rotate_left
                ·simp only [Act.put, List.setIfInBounds_toArray, List.set_cons_zero, List.set_cons_succ, i64_w, i32_w]
                 rfl
                refine pure_ (i := 4) (N := some 75) (v := ?_) (a' := ?_) #[true, true, false, true, true, false, false, false, false, false, false, false, false] rfl rfl (any_of HT_.out (by kernel_rfl)) (fun _ _ _ h => h) (Or.inl ⟨by rfl, ?_⟩) ?_ ?_
                rotate_left
                ·intro w'
                 go_simp
                 with_reducible rfl
                rotate_left
                ·simp only [Act.put, List.setIfInBounds_toArray, List.set_cons_zero, List.set_cons_succ, i64_w, i32_w]
                 rfl
                refine pure_ (i := 8) (N := some 79) (v := ?_) (a' := ?_) #[true, true, false, true, true, false, false, false, true, false, false, false, false] rfl rfl (any_of HT_.out (by kernel_rfl)) (fun _ _ _ h => h) (Or.inl ⟨by rfl, ?_⟩) ?_ ?_
                rotate_left
                ·intro w'
                 go_simp
                 with_reducible rfl
                rotate_left
                ·simp only [Act.put, List.setIfInBounds_toArray, List.set_cons_zero, List.set_cons_succ, i64_w, i32_w]
                 rfl
                refine take_ (i := 2) (N := some 73) (v := ?_) (a' := ?_) #[true, true, true, true, true, false, false, false, true, false, false, false, false] rfl rfl (take_ofW HT_.out HW_.out (by kernel_rfl)) (fun _ _ _ h => h) (Or.inl ⟨by rfl, ?_⟩) hHeld ?_ ?_
                rotate_left
                ·rintro w' ⟨s0, s1, s2, s3, s4⟩
                 go_simp
                 with_reducible rfl
                rotate_left
                ·simp only [Act.put, List.setIfInBounds_toArray, List.set_cons_zero, List.set_cons_succ, i64_w, i32_w]
                 rfl
                refine take_ (i := 5) (N := some 76) (v := ?_) (a' := ?_) #[true, true, true, true, true, true, false, false, true, false, false, false, false] rfl rfl (take_ofW HT_.out HW_.out (by kernel_rfl)) (fun _ _ _ h => h) (Or.inl ⟨by rfl, ?_⟩) hHeld ?_ ?_
                rotate_left
                ·rintro w' ⟨s0, s1, s2, s3, s4⟩
                 go_simp
                 with_reducible rfl
                rotate_left
                ·simp only [Act.put, List.setIfInBounds_toArray, List.set_cons_zero, List.set_cons_succ, i64_w, i32_w]
                 rfl
                refine pure_ (i := 6) (N := some 77) (v := ?_) (a' := ?_) #[true, true, true, true, true, true, true, false, true, false, false, false, false] rfl rfl (any_of HT_.out (by kernel_rfl)) (fun _ _ _ h => h) (Or.inl ⟨by rfl, ?_⟩) ?_ ?_
                rotate_left
                ·intro w'
                 go_simp
                 with_reducible rfl
                rotate_left
                ·simp only [Act.put, List.setIfInBounds_toArray, List.set_cons_zero, List.set_cons_succ, i64_w, i32_w]
                 rfl
                refine take_ (i := 7) (N := some 78) (v := ?_) (a' := ?_) #[true, true, true, true, true, true, true, true, true, false, false, false, false] rfl rfl (take_ofW HT_.out HW_.out (by kernel_rfl)) (fun _ _ _ h => h) (Or.inl ⟨by rfl, ?_⟩) hHeld ?_ ?_
                rotate_left
                ·rintro w' ⟨s0, s1, s2, s3, s4⟩
                 go_simp
                 with_reducible rfl
                rotate_left
                ·simp only [Act.put, List.setIfInBounds_toArray, List.set_cons_zero, List.set_cons_succ, i64_w, i32_w]
                 rfl
                refine take_ (i := 9) (N := some 80) (v := ?_) (a' := ?_) #[true, true, true, true, true, true, true, true, true, true, false, false, false] rfl rfl (take_ofW HT_.out HW_.out (by kernel_rfl)) (fun _ _ _ h => h) (Or.inl ⟨by rfl, ?_⟩) hHeld ?_ ?_
                rotate_left
                ·rintro w' ⟨s0, s1, s2, s3, s4⟩
                 go_simp
                 with_reducible rfl
                rotate_left
                ·simp only [Act.put, List.setIfInBounds_toArray, List.set_cons_zero, List.set_cons_succ, i64_w, i32_w]
                 rfl
                refine pure_ (i := 10) (N := some 81) (v := ?_) (a' := ?_) #[true, true, true, true, true, true, true, true, true, true, true, false, false] rfl rfl (any_of HT_.out (by kernel_rfl)) (fun _ _ _ h => h) (Or.inl ⟨by rfl, ?_⟩) ?_ ?_
                rotate_left
                ·intro w'
                 go_simp
                 with_reducible rfl
                rotate_left
                ·simp only [Act.put, List.setIfInBounds_toArray, List.set_cons_zero, List.set_cons_succ, i64_w, i32_w]
                 rfl
                refine pure_ (i := 11) (N := some 82) (v := ?_) (a' := ?_) #[true, true, true, true, true, true, true, true, true, true, true, true, false] rfl rfl (any_of HT_.out (by kernel_rfl)) (fun _ _ _ h => h) (Or.inl ⟨by rfl, ?_⟩) ?_ ?_
                rotate_left
                ·intro w'
                 go_simp
                 with_reducible rfl
                rotate_left
                ·simp only [Act.put, List.setIfInBounds_toArray, List.set_cons_zero, List.set_cons_succ, i64_w, i32_w]
                 rfl
                refine last_ (i := 12) (N := none) #[true, true, true, true, true, true, true, true, true, true, true, true, true] rfl rfl (one_of HT_.out (by kernel_rfl)) (by decide) (fun K hK => ?_)
                refine skip_ (w1 := ?_) (by rfl) rfl ?_ ?_
                rotate_left
                ·go_simp
                 rfl
                refine hK.out _ _ ?_
                clear hK K
                refine done_ (done_of HT_.out (by kernel_rfl)) ?_
                try go_wp2
                go_roundg k3
                case measure => have := HJ3.out; have := HK2.out; have := HK3.out; omega
                case rel => exact ⟨(y228), (wrap64 (x4_2 + 1)), (by first | rfl | (simp; done) | (simp [*]; done)), H', ⟨by have := HJ3.out; have := HK2.out; have := HK3.out; omega⟩, ⟨by (with_reducible repeat (first | apply Kd.R_alloc | apply Kd.R_drewN | apply Kd.R_drew)); exact HQ62.out⟩, ⟨by (with_reducible repeat (first | refine blk_drewN ?_ _ | refine blk_drew ?_ | refine blk_alloc ?_ _)); refine blk_far ?_ (by have h_ := Kd.R_ne HO_3.out BK217.out (by decide); intro e_; exact h_ (by rw [e_]; rfl)) _; (with_reducible repeat (first | refine blk_drewN ?_ _ | refine blk_drew ?_ | refine blk_alloc ?_ _)); exact BK217.out⟩, ⟨bq⟩⟩
               ·rw [if_neg c58] at H
                exact absurd H (by simp)
              ·rw [if_neg c57] at H
               exact absurd H (by simp)
          ·rw [if_neg c17] at H
           have c17b0 : (t224 == 0) = false := beq_eq_false_iff_ne.mpr c17
           have c17b1 : (t224 != 0) = true := bne_iff_ne.mpr c17
           obtain rfl := Option.some.inj H
           have hcz63_0 : wr.cell? ⟨gb217, 0, none⟩ = some (.int .i64 a0_0) := (blk_cell BK217.out 0).trans rfl
           have hcz63_1 : wr.cell? ⟨gb217, 1, none⟩ = some (.slice A0_1 l0_1.length c0_1) := (blk_cell BK217.out 1).trans rfl
           have hfz63_0 := blk_frozen BK217.out 0
           have hfz63_1 := blk_frozen BK217.out 1
           have p222 : 0 ≤ (x4_2 : Int) := of_decide_eq_true (by first | (with_reducible assumption) | assumption)
           have q222 : x4_2 < (l0_1.length : Int) := of_decide_eq_true (by first | (with_reducible assumption) | assumption)
           obtain ⟨ad222, e222, hx222_0, hx222_1, hx222_2, hx222_3⟩ := at_T89 HR0_1.out x4_2 p222 q222
           cases e222
           replace hx222_0 := (HB.out.cell (World.block_lt_of_cell? w _ hx222_0)).trans hx222_0
           replace hx222_1 := (HB.out.cell (World.block_lt_of_cell? w _ hx222_1)).trans hx222_1
           replace hx222_2 := (HB.out.cell (World.block_lt_of_cell? w _ hx222_2)).trans hx222_2
           replace hx222_3 := (HB.out.cell (World.block_lt_of_cell? w _ hx222_3)).trans hx222_3
           replace p222 := eq_true p222
           replace q222 := eq_true q222
           go_wp2_with (first | ((with_reducible refine gate_dst (N := 5) rfl ?_); (try (refine gate_guard (by rfl) ?_; dsimp only)); refine box_event ?hg (N := 5) ?hd (cs := #[.int .i64 0, .int .i64 0, .int .i64 0, .int .i64 0]) (t := 89) ?hr ?_; (case hd => rfl); (case hg => rfl); (case hr => first | (go_simp; done) | (go_simp; rfl)); intro gb223 hg w64 hbox hb; have n0_ := Aside0.mk (Kd.R_below (by (with_reducible repeat (first | apply Kd.R_alloc | apply Kd.R_drewN | apply Kd.R_drew)); exact HO_3.out) hb); have n1_ := Aside0.mk (blk_below (g := gb217) (o := .cells #[.int .i64 a0_0, .slice (some ad222) l0_1.length c0_1] 36 (0, 0)) kq hb); have n2_ := Aside0.mk (below_step bq hb); have n3_ := Aside0.mk (hbox); have n4_ := Aside0.mk ((by rw [hg]; exact (below_size bq) : w.heap.size ≤ gb223)); have n5_ := Aside0.mk ((by rw [hg]; exact (below_size bq) : w.heap.size ≤ gb223)); have n6_ := Aside0.mk ((by rw [hg]; exact Nat.ne_of_lt (blk_lt (g := gb217) (o := .cells #[.int .i64 a0_0, .slice (some ad222) l0_1.length c0_1] 36 (0, 0)) kq) : gb217 ≠ gb223)); have n7_ := Aside0.mk ((by rw [hg]; exact Nat.ne_of_gt (blk_lt (g := gb217) (o := .cells #[.int .i64 a0_0, .slice (some ad222) l0_1.length c0_1] 36 (0, 0)) kq) : gb223 ≠ gb217)); clear HO_3; clear BK217; clear HB; have HO_3 := n0_; have BK217 := n1_; have HB := n2_; have BK223 := n3_; have GW223 := n4_; have GE223 := n5_; have NB217_223 := n6_; have NB223_217 := n7_; clear n0_ n1_ n2_ n3_ n4_ n5_ n6_ n7_; clear hb hbox hg; have hnb65 := NB223_217.out; have hnc65 := NB217_223.out; have hcz66_0 : w64.cell? ⟨gb223, 0, none⟩ = some (.int .i64 0) := (blk_cell BK223.out 0).trans rfl; have hcz66_1 : w64.cell? ⟨gb223, 1, none⟩ = some (.int .i64 0) := (blk_cell BK223.out 1).trans rfl; have hcz66_2 : w64.cell? ⟨gb223, 2, none⟩ = some (.int .i64 0) := (blk_cell BK223.out 2).trans rfl; have hcz66_3 : w64.cell? ⟨gb223, 3, none⟩ = some (.int .i64 0) := (blk_cell BK223.out 3).trans rfl; have hfz66_0 := blk_frozen BK223.out 0; have hfz66_1 := blk_frozen BK223.out 1; have hfz66_2 := blk_frozen BK223.out 2; have hfz66_3 := blk_frozen BK223.out 3) | ((with_reducible refine gate_callee (f := 71) rfl ?_); refine goesLq (some 38) rfl rfl Try.func71 (by kernel_rfl) rfl #[.agg #[.int .i64 ((rd_T89 l0_1 x4_2).f0), .int .i64 ((rd_T89 l0_1 x4_2).f1), .int .i64 ((rd_T89 l0_1 x4_2).f2), .int .i64 ((rd_T89 l0_1 x4_2).f3)]] rfl ?_; (with_reducible refine (spec_LegFault.calls k2 ((rd_T89 l0_1 x4_2).f0) ((rd_T89 l0_1 x4_2).f1) ((rd_T89 l0_1 x4_2).f2) ((rd_T89 l0_1 x4_2).f3) t224 _ A16.out).mono ?_); rintro e w67 ⟨rfl, hb⟩; refine ⟨_, rfl, ?_⟩; have n0_ := Aside0.mk (Kd.R_below (by (with_reducible repeat (first | apply Kd.R_alloc | apply Kd.R_drewN | apply Kd.R_drew)); exact (Kd.R_mono (Kd.R_far (p := ⟨gb223, 3, none⟩) (Kd.R_far (p := ⟨gb223, 2, none⟩) (Kd.R_far (p := ⟨gb223, 1, none⟩) (Kd.R_far (p := ⟨gb223, 0, none⟩) (Kd.R_types HO_3.out BK223.out (by decide)) (fun _ hk => hk.2) (.int .i64 ((rd_T89 l0_1 x4_2).f0))) (fun _ hk => hk.2) (.int .i64 ((rd_T89 l0_1 x4_2).f1))) (fun _ hk => hk.2) (.int .i64 ((rd_T89 l0_1 x4_2).f2))) (fun _ hk => hk.2) (.int .i64 ((rd_T89 l0_1 x4_2).f3))) (fun _ h_ => h_.1))) hb); have n1_ := Aside0.mk (blk_below (g := gb217) (o := .cells #[.int .i64 a0_0, .slice (some ad222) l0_1.length c0_1] 36 (0, 0)) (by (with_reducible repeat (first | refine blk_drewN ?_ _ | refine blk_drew ?_ | refine blk_alloc ?_ _)); refine blk_far ?_ NB217_223.out _; (with_reducible repeat (first | refine blk_drewN ?_ _ | refine blk_drew ?_ | refine blk_alloc ?_ _)); refine blk_far ?_ NB217_223.out _; (with_reducible repeat (first | refine blk_drewN ?_ _ | refine blk_drew ?_ | refine blk_alloc ?_ _)); refine blk_far ?_ NB217_223.out _; (with_reducible repeat (first | refine blk_drewN ?_ _ | refine blk_drew ?_ | refine blk_alloc ?_ _)); refine blk_far ?_ NB217_223.out _; (with_reducible repeat (first | refine blk_drewN ?_ _ | refine blk_drew ?_ | refine blk_alloc ?_ _)); exact BK217.out) hb); have n2_ := Aside0.mk (blk_below (g := gb223) (o := .cells #[.int .i64 ((rd_T89 l0_1 x4_2).f0), .int .i64 ((rd_T89 l0_1 x4_2).f1), .int .i64 ((rd_T89 l0_1 x4_2).f2), .int .i64 ((rd_T89 l0_1 x4_2).f3)] 89 (0, 0)) (by (with_reducible repeat (first | refine blk_drewN ?_ _ | refine blk_drew ?_ | refine blk_alloc ?_ _)); refine blk_put (cs := #[.int .i64 ((rd_T89 l0_1 x4_2).f0), .int .i64 ((rd_T89 l0_1 x4_2).f1), .int .i64 ((rd_T89 l0_1 x4_2).f2), .int .i64 0]) ?_ 3 _ rfl; (with_reducible repeat (first | refine blk_drewN ?_ _ | refine blk_drew ?_ | refine blk_alloc ?_ _)); refine blk_put (cs := #[.int .i64 ((rd_T89 l0_1 x4_2).f0), .int .i64 ((rd_T89 l0_1 x4_2).f1), .int .i64 0, .int .i64 0]) ?_ 2 _ rfl; (with_reducible repeat (first | refine blk_drewN ?_ _ | refine blk_drew ?_ | refine blk_alloc ?_ _)); refine blk_put (cs := #[.int .i64 ((rd_T89 l0_1 x4_2).f0), .int .i64 0, .int .i64 0, .int .i64 0]) ?_ 1 _ rfl; (with_reducible repeat (first | refine blk_drewN ?_ _ | refine blk_drew ?_ | refine blk_alloc ?_ _)); refine blk_put (cs := #[.int .i64 0, .int .i64 0, .int .i64 0, .int .i64 0]) ?_ 0 _ rfl; (with_reducible repeat (first | refine blk_drewN ?_ _ | refine blk_drew ?_ | refine blk_alloc ?_ _)); exact BK223.out) hb); have n3_ := Aside0.mk (below_step bq hb); clear HO_3; clear BK217; clear BK223; clear HB; have HO_3 := n0_; have BK217 := n1_; have BK223 := n2_; have HB := n3_; clear n0_ n1_ n2_ n3_; (try clear hb); (try clear hb2); (try clear hk); (try clear hi)))
           go_ret
           exact ⟨by first | rfl | (simp [errW_none, errW_some] <;> rfl) | (simp [*, errW_none, errW_some] <;> rfl), bq⟩
         ·rw [if_neg c15] at H
          exact absurd H (by simp)
        ·rw [if_neg c14] at H
         have c14b0 : decide (x4_2 < (l0_1.length : Int)) = false := decide_eq_false c14
         clear c14
         have H' := Aside0.mk H
         clear H
         have hcz68_0 : wr.cell? ⟨gb217, 0, none⟩ = some (.int .i64 a0_0) := (blk_cell BK217.out 0).trans rfl
         have hcz68_1 : wr.cell? ⟨gb217, 1, none⟩ = some (.slice A0_1 l0_1.length c0_1) := (blk_cell BK217.out 1).trans rfl
         have hfz68_0 := blk_frozen BK217.out 0
         have hfz68_1 := blk_frozen BK217.out 1
         go_wp2
         go_loopg [9] k2 (fun kq v9 w' => ∃ (x9_3 : Int), v9 = .int .i64 x9_3 ∧ Aside0 (spec_ContractFault.l2 kq x3_2 x9_3 = some r) ∧ Aside0 (kq ≤ k2) ∧ Aside0 (Kd.R (Kd.int .i64) 2 w' w.heap.size (fun _ => True) v220 x3_2) ∧ Aside0 (w'.heap[gb217]? = some (.cells #[.int .i64 a0_0, (.slice A0_1 l0_1.length c0_1)] 36 (0, 0))) ∧ Aside0 (Below w.heap.size w w'))
         case atStart => exact ⟨(0), (by first | rfl | (simp; done) | (simp [*]; done)), H', ⟨Nat.le_refl _⟩, ⟨by (with_reducible repeat (first | apply Kd.R_alloc | apply Kd.R_drewN | apply Kd.R_drew)); exact HO_3.out⟩, ⟨by (with_reducible repeat (first | refine blk_drewN ?_ _ | refine blk_drew ?_ | refine blk_alloc ?_ _)); exact BK217.out⟩, ⟨bq⟩⟩
         case round =>
          clear H'
          (try clear c1); (try clear c2); (try clear p2); (try clear q2); (try clear hx2); (try clear c3); (try clear c4); (try clear c5); (try clear p5); (try clear q5); (try clear hx5); (try clear hf5)
          (try clear c6); (try clear p6); (try clear c7); (try clear c7b0); (try clear c7b1); (try clear c10); (try clear c11); (try clear c11b0); (try clear c11b1); (try clear c14); (try clear c14b0)
          (try clear c15); (try clear c15b0); (try clear c17); (try clear c17b0); (try clear c17b1); (try clear c20); (try clear p22); (try clear q22); (try clear hx22); (try clear c23); (try clear c23b0)
          (try clear c24); (try clear c24b0); (try clear c25); (try clear c25b0); (try clear c26); (try clear c26b0); (try clear c26b1); (try clear c27); (try clear c27b0); (try clear c27b1); (try clear c28)
          (try clear c28b0); (try clear c28b1); (try clear c29); (try clear c32); (try clear c33); (try clear c36); (try clear c39); (try clear c40); (try clear c43); (try clear c46); (try clear c47); (try clear c50)
          (try clear c53); (try clear c54); (try clear c57); (try clear c57b0); (try clear c58); (try clear c58b0); (try clear p59); (try clear q59); (try clear hx59); (try clear hf59); (try clear p64)
          (try clear c65); (try clear hcz18_0); (try clear hcz18_1); (try clear hcz21_0); (try clear hcz21_1); (try clear hcz21_2); (try clear hcz21_3); (try clear hcz30_0); (try clear hcz30_1); (try clear hcz34_0)
          (try clear hcz34_1); (try clear hcz34_2); (try clear hcz34_3); (try clear hcz35_0); (try clear hcz35_1); (try clear hcz35_2); (try clear hcz35_3); (try clear hcz37_0); (try clear hcz37_1); (try clear hcz41_0)
          (try clear hcz41_1); (try clear hcz41_2); (try clear hcz41_3); (try clear hcz42_0); (try clear hcz42_1); (try clear hcz42_2); (try clear hcz42_3); (try clear hcz44_0); (try clear hcz44_1); (try clear hcz48_0)
          (try clear hcz48_1); (try clear hcz48_2); (try clear hcz48_3); (try clear hcz49_0); (try clear hcz49_1); (try clear hcz49_2); (try clear hcz49_3); (try clear hcz51_0); (try clear hcz51_1); (try clear hcz55_0)
          (try clear hcz55_1); (try clear hcz55_2); (try clear hcz55_3); (try clear hcz56_0); (try clear hcz56_1); (try clear hcz56_2); (try clear hcz56_3); (try clear hcz63_0); (try clear hcz63_1); (try clear hcz66_0)
          (try clear hcz66_1); (try clear hcz66_2); (try clear hcz66_3); (try clear hcz68_0); (try clear hcz68_1); (try clear hcz6_0); (try clear hcz6_1); (try clear hcz8_0); (try clear hcz8_1); (try clear hcz9_0)
          (try clear hcz9_1); (try clear hfz18_0); (try clear hfz18_1); (try clear hfz21_0); (try clear hfz21_1); (try clear hfz21_2); (try clear hfz21_3); (try clear hfz30_0); (try clear hfz30_1); (try clear hfz34_0)
          (try clear hfz34_1); (try clear hfz34_2); (try clear hfz34_3); (try clear hfz35_0); (try clear hfz35_1); (try clear hfz35_2); (try clear hfz35_3); (try clear hfz37_0); (try clear hfz37_1); (try clear hfz41_0)
          (try clear hfz41_1); (try clear hfz41_2); (try clear hfz41_3); (try clear hfz42_0); (try clear hfz42_1); (try clear hfz42_2); (try clear hfz42_3); (try clear hfz44_0); (try clear hfz44_1); (try clear hfz48_0)
          (try clear hfz48_1); (try clear hfz48_2); (try clear hfz48_3); (try clear hfz49_0); (try clear hfz49_1); (try clear hfz49_2); (try clear hfz49_3); (try clear hfz51_0); (try clear hfz51_1); (try clear hfz55_0)
          (try clear hfz55_1); (try clear hfz55_2); (try clear hfz55_3); (try clear hfz56_0); (try clear hfz56_1); (try clear hfz56_2); (try clear hfz56_3); (try clear hfz63_0); (try clear hfz63_1); (try clear hfz66_0)
          (try clear hfz66_1); (try clear hfz66_2); (try clear hfz66_3); (try clear hfz68_0); (try clear hfz68_1); (try clear hfz6_0); (try clear hfz6_1); (try clear hfz8_0); (try clear hfz8_1); (try clear hfz9_0)
          (try clear hfz9_1); (try clear hx222_0); (try clear hx222_1); (try clear hx222_2); (try clear hx222_3); (try clear hx225_0); (try clear hx225_1); (try clear hx225_2); (try clear hx225_3); (try clear hx227_0)
          (try clear hx59_0); (try clear p2); (try clear p22); (try clear p222); (try clear p225); (try clear p227); (try clear p59); (try clear q2); (try clear q22); (try clear q222); (try clear q225)
          (try clear q227); (try clear q59)
          obtain ⟨x9_3, rfl, HA, HK3, HO_3, BK217, HB⟩ := hrel
          cases gk with
          | zero => exact absurd HA.out (by simp [spec_ContractFault.l2])
          | succ k3 =>
           have H := HA.out
           clear HA
           simp only [spec_ContractFault.l2] at H
           by_cases c69 : x9_3 < (x3_2.length : Int)
           ·rw [if_pos c69] at H
            have c69b0 : decide (x9_3 < (x3_2.length : Int)) = true := decide_eq_true c69
            clear c69
            by_cases c70 : 0 ≤ x9_3
            ·rw [if_pos c70] at H
             have c70b0 : decide (0 ≤ x9_3) = true := decide_eq_true c70
             clear c70
             by_cases c71 : (rd x3_2 x9_3) = 0
             ·rw [if_pos c71] at H
              have c71b0 : ((rd x3_2 x9_3) == 0) = true := beq_iff_eq.mpr c71
              have c71b1 : ((rd x3_2 x9_3) != 0) = false := bne_eq_false_iff_eq.mpr c71
              clear c71
              have H' := Aside0.mk H
              clear H
              obtain ⟨Ao72, co72, eo72⟩ := Kd.R_slice HO_3.out
              subst eo72
              have p229 : 0 ≤ (x9_3 : Int) := of_decide_eq_true (by first | (with_reducible assumption) | assumption)
              have q229 : x9_3 < (x3_2.length : Int) := of_decide_eq_true (by first | (with_reducible assumption) | assumption)
              obtain ⟨ad229, e229, hx229_0⟩ := Kd.at_int (Kd.R_reads' HO_3.out).2.2 x9_3 p229 q229
              cases e229
              replace p229 := eq_true p229
              replace q229 := eq_true q229
              go_wp2
              go_roundg k3
              case measure => have := HJ3.out; have := HK2.out; have := HK3.out; omega
              case rel => exact ⟨(wrap64 (x9_3 + 1)), (by first | rfl | (simp; done) | (simp [*]; done)), H', ⟨by have := HJ3.out; have := HK2.out; have := HK3.out; omega⟩, ⟨by (with_reducible repeat (first | apply Kd.R_alloc | apply Kd.R_drewN | apply Kd.R_drew)); exact HO_3.out⟩, ⟨by (with_reducible repeat (first | refine blk_drewN ?_ _ | refine blk_drew ?_ | refine blk_alloc ?_ _)); exact BK217.out⟩, ⟨bq⟩⟩
             ·rw [if_neg c71] at H
              have c71b0 : ((rd x3_2 x9_3) == 0) = false := beq_eq_false_iff_ne.mpr c71
              have c71b1 : ((rd x3_2 x9_3) != 0) = true := bne_iff_ne.mpr c71
              obtain rfl := Option.some.inj H
              obtain ⟨Ao73, co73, eo73⟩ := Kd.R_slice HO_3.out
              subst eo73
              have p229 : 0 ≤ (x9_3 : Int) := of_decide_eq_true (by first | (with_reducible assumption) | assumption)
              have q229 : x9_3 < (x3_2.length : Int) := of_decide_eq_true (by first | (with_reducible assumption) | assumption)
              obtain ⟨ad229, e229, hx229_0⟩ := Kd.at_int (Kd.R_reads' HO_3.out).2.2 x9_3 p229 q229
              cases e229
              replace p229 := eq_true p229
              replace q229 := eq_true q229
              go_wp2
              go_ret
              exact ⟨by first | rfl | (simp [errW_none, errW_some] <;> rfl) | (simp [*, errW_none, errW_some] <;> rfl), bq⟩
            ·rw [if_neg c70] at H
             exact absurd H (by simp)
           ·rw [if_neg c69] at H
            have c69b0 : decide (x9_3 < (x3_2.length : Int)) = false := decide_eq_false c69
            clear c69
            obtain rfl := Option.some.inj H
            obtain ⟨Ao74, co74, eo74⟩ := Kd.R_slice HO_3.out
            subst eo74
            go_wp2
            go_ret
            exact ⟨by first | rfl | (simp [errW_none, errW_some] <;> rfl) | (simp [*, errW_none, errW_some] <;> rfl), bq⟩
     ·rw [if_neg c11] at H
      exact absurd H (by simp)
 ·replace c3 := Bool.eq_false_iff.mpr c3
  subst c3
  have H1 : (some 3) = some r := by rw [if_neg (show ¬ (false = true) by decide)] at H; exact H
  clear H
  have H := H1
  clear H1
  obtain rfl := Option.some.inj H
  go_enter Try.func25, Try.ntmps25
  go_wp2_with (first | ((with_reducible refine gate_dst (N := 1) rfl ?_); (try (refine gate_guard (by rfl) ?_; dsimp only)); refine box_event ?hg (N := 1) ?hd (cs := #[.int .i64 a0_0, .slice A0_1 l0_1.length c0_1]) (t := 36) ?hr ?_; (case hd => rfl); (case hg => rfl); (case hr => first | (go_simp; done) | (go_simp; rfl)); intro gb217 hg w75 hbox hb; have n0_ := Aside0.mk (below_step bq hb); have n1_ := Aside0.mk (hbox); have n2_ := Aside0.mk ((by rw [hg]; exact (below_size bq) : w.heap.size ≤ gb217)); have n3_ := Aside0.mk ((by rw [hg]; exact (below_size bq) : w.heap.size ≤ gb217)); clear HB; have HB := n0_; have BK217 := n1_; have GW217 := n2_; have GE217 := n3_; clear n0_ n1_ n2_ n3_; clear hb hbox hg; have hcz76_0 : w75.cell? ⟨gb217, 0, none⟩ = some (.int .i64 a0_0) := (blk_cell BK217.out 0).trans rfl; have hcz76_1 : w75.cell? ⟨gb217, 1, none⟩ = some (.slice A0_1 l0_1.length c0_1) := (blk_cell BK217.out 1).trans rfl; have hfz76_0 := blk_frozen BK217.out 0; have hfz76_1 := blk_frozen BK217.out 1) | ((with_reducible refine gate_callee (f := 70) rfl ?_); refine goesLq (some 12) rfl rfl Try.func70 (by kernel_rfl) rfl #[.int .i64 a0_0] rfl ?_; (with_reducible refine (spec_l1Id.calls a0_0 false _ A2.out).mono ?_); rintro e w' ⟨rfl, ⟨nd, rfl⟩⟩; refine ⟨_, rfl, ?_⟩))
  go_ret
  exact ⟨by first | rfl | (simp [errW_none, errW_some] <;> rfl) | (simp [*, errW_none, errW_some] <;> rfl), bq⟩

end Go.Proofs.Ytooiamkaipdmpaa.PFnExactShardsOf
