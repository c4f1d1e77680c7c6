/- The functions that a law reaches, each as a plain Lean function with the proof that the machine comes to its answer: written by program (the kit's print, turned by wip/gen). No conditions. -/
import Derived.Test.YtooiamkaipdmpaaPFnExactShardsOfx0
import Derived.Test.YtooiamkaipdmpaaPFnExactShardsOfx5
namespace Go.Proofs.Ytooiamkaipdmpaa.PFnExactShardsOf
open Go.RowKit Go.Proofs.YtooiamkaipdmpaaW.PrintWords Go.Proofs.YtooiamkaipdmpaaW.PrintLast Go.Proofs.YtooiamkaipdmpaaW.PrintMore
attribute [local go_sem] max2_int min2_int max_two min_two max_three min_three max_four min_four   -- for this text's walks alone
set_option linter.unusedVariables false
set_option linter.unusedSimpArgs false

/-! ### spec_LegFault: function 71 -/
def spec_LegFault.j0 : Nat → Bool → Int → Int → Int → Int → Option (Int)
  | 0, _, _, _, _, _ => none
  | k + 1, x24, x213000, x213001, x213002, x213003 => if x24 = true then (some 3) else (if x213003 = 0 then (some 1) else (some 0))
def spec_LegFault.f (k : Nat) (a0_0 : Int) (a0_1 : Int) (a0_2 : Int) (a0_3 : Int) : Option (Int) := (spec_l1In.f a0_0 0 2).bind fun t213 => (if t213 = true then ((spec_l1In.f a0_1 0 5).bind fun t214 => (if t214 = true then ((spec_l1In.f a0_2 0 2).bind fun t215 => (if t215 = true then ((spec_l1In.f a0_3 (-1000000000000) 1000000000000).bind fun t216 => (spec_LegFault.j0 k (!t216) a0_0 a0_1 a0_2 a0_3)) else (spec_LegFault.j0 k true a0_0 a0_1 a0_2 a0_3))) else (spec_LegFault.j0 k true a0_0 a0_1 a0_2 a0_3))) else (spec_LegFault.j0 k true a0_0 a0_1 a0_2 a0_3))
theorem spec_LegFault.mono_l : ∀ k, (∀ y0 y1 y2 y3 y4, LeO (spec_LegFault.j0 k y0 y1 y2 y3 y4) (spec_LegFault.j0 (k + 1) y0 y1 y2 y3 y4))
  | 0 => fun _ _ _ _ _ r h => by simp [spec_LegFault.j0] at h
  | k + 1 => by
    have ih0 := spec_LegFault.mono_l k
    · intro y0 y1 y2 y3 y4
      unfold spec_LegFault.j0
      repeat' first
      | (with_reducible exact ih0 _ _ _ _ _)
      | (with_reducible exact LeO.refl _)
      | (with_reducible exact LeO.none _)
      | (with_reducible refine LeO.ite ?_ ?_)
      | (with_reducible refine LeO.bind ?_ (fun _ => ?_))
      | exact ih0 _ _ _ _ _
      | exact LeO.none _
      | refine LeO.ite ?_ ?_
      | refine LeO.bind ?_ (fun _ => ?_)
theorem spec_LegFault.mono : ∀ a0 a1 a2 a3 k, LeO (spec_LegFault.f k a0 a1 a2 a3) (spec_LegFault.f (k + 1) a0 a1 a2 a3) := by
  intro a0 a1 a2 a3 k
  have ih0 := spec_LegFault.mono_l k
  unfold spec_LegFault.f
  repeat' first
      | (with_reducible exact ih0 _ _ _ _ _)
      | (with_reducible exact LeO.refl _)
      | (with_reducible exact LeO.none _)
      | (with_reducible refine LeO.ite ?_ ?_)
      | (with_reducible refine LeO.bind ?_ (fun _ => ?_))
      | exact ih0 _ _ _ _ _
      | exact LeO.none _
      | refine LeO.ite ?_ ?_
      | refine LeO.bind ?_ (fun _ => ?_)
set_option maxHeartbeats 8000000 in
set_option maxRecDepth 100000 in
theorem spec_LegFault.calls (k : Nat) (a0_0 : Int) (a0_1 : Int) (a0_2 : Int) (a0_3 : Int) (r : Int) (w : World) (h : spec_LegFault.f k a0_0 a0_1 a0_2 a0_3 = some r) :
  Calls Try.prog 71 #[.agg #[.int .i64 a0_0, .int .i64 a0_1, .int .i64 a0_2, .int .i64 a0_3]] w fun e w' => e = .returned (.int .i64 r) ∧ Below w.heap.size w w' := by
 have hu89 := Try.underlying89
 have HB := Aside0.mk (Below.refl w.heap.size w)
 have H : ((spec_l1In.f a0_0 0 2).bind fun t213 => (if t213 = true then ((spec_l1In.f a0_1 0 5).bind fun t214 => (if t214 = true then ((spec_l1In.f a0_2 0 2).bind fun t215 => (if t215 = true then ((spec_l1In.f a0_3 (-1000000000000) 1000000000000).bind fun t216 => (spec_LegFault.j0 k (!t216) a0_0 a0_1 a0_2 a0_3)) else (spec_LegFault.j0 k true a0_0 a0_1 a0_2 a0_3))) else (spec_LegFault.j0 k true a0_0 a0_1 a0_2 a0_3))) else (spec_LegFault.j0 k true a0_0 a0_1 a0_2 a0_3))) = some r := h
 clear h
 have HC2 := Aside0.mk H
 clear H
 go_enter Try.func71, Try.ntmps71
 go_upto_region 1 with (first | ((with_reducible refine gate_dst (N := 1) rfl ?_); refine box_event ?hg (N := 1) ?hd (cs := #[.int .i64 a0_0, .int .i64 a0_1, .int .i64 a0_2, .int .i64 a0_3]) (t := 89) ?hr ?_; (case hd => rfl); (case hg => rfl); (case hr => first | (go_simp; done) | (go_simp; rfl)); intro gb212 hg w3 hbox hb; have n0_ := Aside0.mk (below_step bq hb); have n1_ := Aside0.mk (hbox); have n2_ := Aside0.mk ((by rw [hg]; exact (below_size bq) : w.heap.size ≤ gb212)); have n3_ := Aside0.mk ((by rw [hg]; exact (below_size bq) : w.heap.size ≤ gb212)); clear HB; have HB := n0_; have BK212 := n1_; have GW212 := n2_; have GE212 := n3_; clear n0_ n1_ n2_ n3_; clear hb hbox hg))
 (try simp only [Act.put, List.setIfInBounds_toArray, List.set_cons_zero, List.set_cons_succ])
 go_cut [24] (fun v24 wc => ∃ (kq : Nat) (x24_1 : Bool), v24 = .bool x24_1 ∧ Aside0 (spec_LegFault.j0 kq x24_1 a0_0 a0_1 a0_2 a0_3 = some r) ∧ Aside0 (kq ≤ k) ∧ Aside0 (wc.heap[gb212]? = some (.cells #[.int .i64 a0_0, .int .i64 a0_1, .int .i64 a0_2, .int .i64 a0_3] 89 (0, 0))) ∧ Aside0 (Below w.heap.size w wc))
 case first =>
  have H := HC2.out
  clear HC2
  replace H := Option.bind_eq_some_iff.mp H
  obtain ⟨t213, A40, H⟩ := H
  replace H : (if t213 = true then ((spec_l1In.f a0_1 0 5).bind fun t214 => (if t214 = true then ((spec_l1In.f a0_2 0 2).bind fun t215 => (if t215 = true then ((spec_l1In.f a0_3 (-1000000000000) 1000000000000).bind fun t216 => (spec_LegFault.j0 k (!t216) a0_0 a0_1 a0_2 a0_3)) else (spec_LegFault.j0 k true a0_0 a0_1 a0_2 a0_3))) else (spec_LegFault.j0 k true a0_0 a0_1 a0_2 a0_3))) else (spec_LegFault.j0 k true a0_0 a0_1 a0_2 a0_3)) = some r := H
  have A4 := Aside0.mk A40
  clear A40
  by_cases c5 : t213 = true
  ·subst c5
   have H1 : ((spec_l1In.f a0_1 0 5).bind fun t214 => (if t214 = true then ((spec_l1In.f a0_2 0 2).bind fun t215 => (if t215 = true then ((spec_l1In.f a0_3 (-1000000000000) 1000000000000).bind fun t216 => (spec_LegFault.j0 k (!t216) a0_0 a0_1 a0_2 a0_3)) else (spec_LegFault.j0 k true a0_0 a0_1 a0_2 a0_3))) else (spec_LegFault.j0 k true a0_0 a0_1 a0_2 a0_3))) = some r := by rw [if_pos rfl] at H; exact H
   clear H
   have H := H1
   clear H1
   replace H := Option.bind_eq_some_iff.mp H
   obtain ⟨t214, A60, H⟩ := H
   replace H : (if t214 = true then ((spec_l1In.f a0_2 0 2).bind fun t215 => (if t215 = true then ((spec_l1In.f a0_3 (-1000000000000) 1000000000000).bind fun t216 => (spec_LegFault.j0 k (!t216) a0_0 a0_1 a0_2 a0_3)) else (spec_LegFault.j0 k true a0_0 a0_1 a0_2 a0_3))) else (spec_LegFault.j0 k true a0_0 a0_1 a0_2 a0_3)) = some r := H
   have A6 := Aside0.mk A60
   clear A60
   by_cases c7 : t214 = true
   ·subst c7
    have H1 : ((spec_l1In.f a0_2 0 2).bind fun t215 => (if t215 = true then ((spec_l1In.f a0_3 (-1000000000000) 1000000000000).bind fun t216 => (spec_LegFault.j0 k (!t216) a0_0 a0_1 a0_2 a0_3)) else (spec_LegFault.j0 k true a0_0 a0_1 a0_2 a0_3))) = some r := by rw [if_pos rfl] at H; exact H
    clear H
    have H := H1
    clear H1
    replace H := Option.bind_eq_some_iff.mp H
    obtain ⟨t215, A80, H⟩ := H
    replace H : (if t215 = true then ((spec_l1In.f a0_3 (-1000000000000) 1000000000000).bind fun t216 => (spec_LegFault.j0 k (!t216) a0_0 a0_1 a0_2 a0_3)) else (spec_LegFault.j0 k true a0_0 a0_1 a0_2 a0_3)) = some r := H
    have A8 := Aside0.mk A80
    clear A80
    by_cases c9 : t215 = true
    ·subst c9
     have H1 : ((spec_l1In.f a0_3 (-1000000000000) 1000000000000).bind fun t216 => (spec_LegFault.j0 k (!t216) a0_0 a0_1 a0_2 a0_3)) = some r := by rw [if_pos rfl] at H; exact H
     clear H
     have H := H1
     clear H1
     replace H := Option.bind_eq_some_iff.mp H
     obtain ⟨t216, A100, H⟩ := H
     replace H : (spec_LegFault.j0 k (!t216) a0_0 a0_1 a0_2 a0_3) = some r := H
     have A10 := Aside0.mk A100
     clear A100
     have H' := Aside0.mk H
     clear H
     have hcz11_0 : w3.cell? ⟨gb212, 0, none⟩ = some (.int .i64 a0_0) := (blk_cell BK212.out 0).trans rfl
     have hcz11_1 : w3.cell? ⟨gb212, 1, none⟩ = some (.int .i64 a0_1) := (blk_cell BK212.out 1).trans rfl
     have hcz11_2 : w3.cell? ⟨gb212, 2, none⟩ = some (.int .i64 a0_2) := (blk_cell BK212.out 2).trans rfl
     have hcz11_3 : w3.cell? ⟨gb212, 3, none⟩ = some (.int .i64 a0_3) := (blk_cell BK212.out 3).trans rfl
     have hfz11_0 := blk_frozen BK212.out 0
     have hfz11_1 := blk_frozen BK212.out 1
     have hfz11_2 := blk_frozen BK212.out 2
     have hfz11_3 := blk_frozen BK212.out 3
     go_wp2_with (first | ((with_reducible refine gate_callee (f := 79) rfl ?_); refine goesLq (some 5) rfl rfl Try.func79 (by kernel_rfl) rfl #[.int .i64 a0_0, .int .i64 0, .int .i64 2] rfl ?_; (with_reducible refine (spec_l1In.calls a0_0 0 2 true _ A4.out).mono ?_); rintro e w' ⟨rfl, ⟨nd, rfl⟩⟩; refine ⟨_, rfl, ?_⟩) | (go_at_call 79; (with_reducible refine (spec_l1In.calls a0_1 0 5 true _ A6.out).mono ?_); rintro e w' ⟨rfl, ⟨nd, rfl⟩⟩) | (go_at_call 79; (with_reducible refine (spec_l1In.calls a0_2 0 2 true _ A8.out).mono ?_); rintro e w' ⟨rfl, ⟨nd, rfl⟩⟩) | (go_at_call 79; (with_reducible refine (spec_l1In.calls a0_3 (-1000000000000) 1000000000000 t216 _ A10.out).mono ?_); rintro e w' ⟨rfl, ⟨nd, rfl⟩⟩))
     go_meet
     case rel => exact ⟨_, (!t216), (by first | rfl | (simp; done) | (simp [*]; done)), H', ⟨by first | omega | exact Nat.le_refl _⟩, ⟨by (with_reducible repeat (first | refine blk_drewN ?_ _ | refine blk_drew ?_ | refine blk_alloc ?_ _)); exact BK212.out⟩, ⟨bq⟩⟩
    ·replace c9 := Bool.eq_false_iff.mpr c9
     subst c9
     have H1 : (spec_LegFault.j0 k true a0_0 a0_1 a0_2 a0_3) = some r := by rw [if_neg (show ¬ (false = true) by decide)] at H; exact H
     clear H
     have H := H1
     clear H1
     have H' := Aside0.mk H
     clear H
     have hcz12_0 : w3.cell? ⟨gb212, 0, none⟩ = some (.int .i64 a0_0) := (blk_cell BK212.out 0).trans rfl
     have hcz12_1 : w3.cell? ⟨gb212, 1, none⟩ = some (.int .i64 a0_1) := (blk_cell BK212.out 1).trans rfl
     have hcz12_2 : w3.cell? ⟨gb212, 2, none⟩ = some (.int .i64 a0_2) := (blk_cell BK212.out 2).trans rfl
     have hcz12_3 : w3.cell? ⟨gb212, 3, none⟩ = some (.int .i64 a0_3) := (blk_cell BK212.out 3).trans rfl
     have hfz12_0 := blk_frozen BK212.out 0
     have hfz12_1 := blk_frozen BK212.out 1
     have hfz12_2 := blk_frozen BK212.out 2
     have hfz12_3 := blk_frozen BK212.out 3
     go_wp2_with (first | ((with_reducible refine gate_callee (f := 79) rfl ?_); refine goesLq (some 5) rfl rfl Try.func79 (by kernel_rfl) rfl #[.int .i64 a0_0, .int .i64 0, .int .i64 2] rfl ?_; (with_reducible refine (spec_l1In.calls a0_0 0 2 true _ A4.out).mono ?_); rintro e w' ⟨rfl, ⟨nd, rfl⟩⟩; refine ⟨_, rfl, ?_⟩) | (go_at_call 79; (with_reducible refine (spec_l1In.calls a0_1 0 5 true _ A6.out).mono ?_); rintro e w' ⟨rfl, ⟨nd, rfl⟩⟩) | (go_at_call 79; (with_reducible refine (spec_l1In.calls a0_2 0 2 false _ A8.out).mono ?_); rintro e w' ⟨rfl, ⟨nd, rfl⟩⟩))
     go_meet
     case rel => exact ⟨_, (true), (by first | rfl | (simp; done) | (simp [*]; done)), H', ⟨by first | omega | exact Nat.le_refl _⟩, ⟨by (with_reducible repeat (first | refine blk_drewN ?_ _ | refine blk_drew ?_ | refine blk_alloc ?_ _)); exact BK212.out⟩, ⟨bq⟩⟩
   ·replace c7 := Bool.eq_false_iff.mpr c7
    subst c7
    have H1 : (spec_LegFault.j0 k true a0_0 a0_1 a0_2 a0_3) = some r := by rw [if_neg (show ¬ (false = true) by decide)] at H; exact H
    clear H
    have H := H1
    clear H1
    have H' := Aside0.mk H
    clear H
    have hcz13_0 : w3.cell? ⟨gb212, 0, none⟩ = some (.int .i64 a0_0) := (blk_cell BK212.out 0).trans rfl
    have hcz13_1 : w3.cell? ⟨gb212, 1, none⟩ = some (.int .i64 a0_1) := (blk_cell BK212.out 1).trans rfl
    have hcz13_2 : w3.cell? ⟨gb212, 2, none⟩ = some (.int .i64 a0_2) := (blk_cell BK212.out 2).trans rfl
    have hcz13_3 : w3.cell? ⟨gb212, 3, none⟩ = some (.int .i64 a0_3) := (blk_cell BK212.out 3).trans rfl
    have hfz13_0 := blk_frozen BK212.out 0
    have hfz13_1 := blk_frozen BK212.out 1
    have hfz13_2 := blk_frozen BK212.out 2
    have hfz13_3 := blk_frozen BK212.out 3
    go_wp2_with (first | ((with_reducible refine gate_callee (f := 79) rfl ?_); refine goesLq (some 5) rfl rfl Try.func79 (by kernel_rfl) rfl #[.int .i64 a0_0, .int .i64 0, .int .i64 2] rfl ?_; (with_reducible refine (spec_l1In.calls a0_0 0 2 true _ A4.out).mono ?_); rintro e w' ⟨rfl, ⟨nd, rfl⟩⟩; refine ⟨_, rfl, ?_⟩) | (go_at_call 79; (with_reducible refine (spec_l1In.calls a0_1 0 5 false _ A6.out).mono ?_); rintro e w' ⟨rfl, ⟨nd, rfl⟩⟩))
    go_meet
    case rel => exact ⟨_, (true), (by first | rfl | (simp; done) | (simp [*]; done)), H', ⟨by first | omega | exact Nat.le_refl _⟩, ⟨by (with_reducible repeat (first | refine blk_drewN ?_ _ | refine blk_drew ?_ | refine blk_alloc ?_ _)); exact BK212.out⟩, ⟨bq⟩⟩
  ·replace c5 := Bool.eq_false_iff.mpr c5
   subst c5
   have H1 : (spec_LegFault.j0 k true a0_0 a0_1 a0_2 a0_3) = some r := by rw [if_neg (show ¬ (false = true) by decide)] at H; exact H
   clear H
   have H := H1
   clear H1
   have H' := Aside0.mk H
   clear H
   have hcz14_0 : w3.cell? ⟨gb212, 0, none⟩ = some (.int .i64 a0_0) := (blk_cell BK212.out 0).trans rfl
   have hcz14_1 : w3.cell? ⟨gb212, 1, none⟩ = some (.int .i64 a0_1) := (blk_cell BK212.out 1).trans rfl
   have hcz14_2 : w3.cell? ⟨gb212, 2, none⟩ = some (.int .i64 a0_2) := (blk_cell BK212.out 2).trans rfl
   have hcz14_3 : w3.cell? ⟨gb212, 3, none⟩ = some (.int .i64 a0_3) := (blk_cell BK212.out 3).trans rfl
   have hfz14_0 := blk_frozen BK212.out 0
   have hfz14_1 := blk_frozen BK212.out 1
   have hfz14_2 := blk_frozen BK212.out 2
   have hfz14_3 := blk_frozen BK212.out 3
   go_wp2_with (first | ((with_reducible refine gate_callee (f := 79) rfl ?_); refine goesLq (some 5) rfl rfl Try.func79 (by kernel_rfl) rfl #[.int .i64 a0_0, .int .i64 0, .int .i64 2] rfl ?_; (with_reducible refine (spec_l1In.calls a0_0 0 2 false _ A4.out).mono ?_); rintro e w' ⟨rfl, ⟨nd, rfl⟩⟩; refine ⟨_, rfl, ?_⟩))
   go_meet
   case rel => exact ⟨_, (true), (by first | rfl | (simp; done) | (simp [*]; done)), H', ⟨by first | omega | exact Nat.le_refl _⟩, ⟨by (with_reducible repeat (first | refine blk_drewN ?_ _ | refine blk_drew ?_ | refine blk_alloc ?_ _)); exact BK212.out⟩, ⟨bq⟩⟩
 case rest =>
  clear HC2
  (try clear p2); (try clear c5); (try clear c7); (try clear c9); (try clear hcz11_0); (try clear hcz11_1); (try clear hcz11_2); (try clear hcz11_3); (try clear hcz12_0); (try clear hcz12_1); (try clear hcz12_2)
  (try clear hcz12_3); (try clear hcz13_0); (try clear hcz13_1); (try clear hcz13_2); (try clear hcz13_3); (try clear hcz14_0); (try clear hcz14_1); (try clear hcz14_2); (try clear hcz14_3); (try clear hfz11_0)
  (try clear hfz11_1); (try clear hfz11_2); (try clear hfz11_3); (try clear hfz12_0); (try clear hfz12_1); (try clear hfz12_2); (try clear hfz12_3); (try clear hfz13_0); (try clear hfz13_1); (try clear hfz13_2)
  (try clear hfz13_3); (try clear hfz14_0); (try clear hfz14_1); (try clear hfz14_2); (try clear hfz14_3)
  obtain ⟨kq, x24_1, rfl, HA, HJ1, BK212, HB⟩ := hcut
  cases kq with
  | zero => exact absurd HA.out (by simp [spec_LegFault.j0])
  | succ kj1 =>
   have H := HA.out
   clear HA
   simp only [spec_LegFault.j0] at H
   by_cases c15 : x24_1 = true
   ·subst c15
    have H1 : (some 3) = some r := by rw [if_pos rfl] at H; exact H
    clear H
    have H := H1
    clear H1
    obtain rfl := Option.some.inj H
    go_wp2
    go_ret
    exact ⟨by first | rfl | (simp [errW_none, errW_some] <;> rfl) | (simp [*, errW_none, errW_some] <;> rfl), bq⟩
   ·replace c15 := Bool.eq_false_iff.mpr c15
    subst c15
    have H1 : (if a0_3 = 0 then (some 1) else (some 0)) = some r := by rw [if_neg (show ¬ (false = true) by decide)] at H; exact H
    clear H
    have H := H1
    clear H1
    by_cases c16 : a0_3 = 0
    ·rw [if_pos c16] at H
     have c16b0 : (a0_3 == 0) = true := beq_iff_eq.mpr c16
     have c16b1 : (a0_3 != 0) = false := bne_eq_false_iff_eq.mpr c16
     clear c16
     obtain rfl := Option.some.inj H
     have hcz17_0 : wc.cell? ⟨gb212, 0, none⟩ = some (.int .i64 a0_0) := (blk_cell BK212.out 0).trans rfl
     have hcz17_1 : wc.cell? ⟨gb212, 1, none⟩ = some (.int .i64 a0_1) := (blk_cell BK212.out 1).trans rfl
     have hcz17_2 : wc.cell? ⟨gb212, 2, none⟩ = some (.int .i64 a0_2) := (blk_cell BK212.out 2).trans rfl
     have hcz17_3 : wc.cell? ⟨gb212, 3, none⟩ = some (.int .i64 a0_3) := (blk_cell BK212.out 3).trans rfl
     have hfz17_0 := blk_frozen BK212.out 0
     have hfz17_1 := blk_frozen BK212.out 1
     have hfz17_2 := blk_frozen BK212.out 2
     have hfz17_3 := blk_frozen BK212.out 3
     go_wp2
     go_ret
     exact ⟨by first | rfl | (simp [errW_none, errW_some] <;> rfl) | (simp [*, errW_none, errW_some] <;> rfl), bq⟩
    ·rw [if_neg c16] at H
     have c16b0 : (a0_3 == 0) = false := beq_eq_false_iff_ne.mpr c16
     have c16b1 : (a0_3 != 0) = true := bne_iff_ne.mpr c16
     obtain rfl := Option.some.inj H
     have hcz18_0 : wc.cell? ⟨gb212, 0, none⟩ = some (.int .i64 a0_0) := (blk_cell BK212.out 0).trans rfl
     have hcz18_1 : wc.cell? ⟨gb212, 1, none⟩ = some (.int .i64 a0_1) := (blk_cell BK212.out 1).trans rfl
     have hcz18_2 : wc.cell? ⟨gb212, 2, none⟩ = some (.int .i64 a0_2) := (blk_cell BK212.out 2).trans rfl
     have hcz18_3 : wc.cell? ⟨gb212, 3, none⟩ = some (.int .i64 a0_3) := (blk_cell BK212.out 3).trans rfl
     have hfz18_0 := blk_frozen BK212.out 0
     have hfz18_1 := blk_frozen BK212.out 1
     have hfz18_2 := blk_frozen BK212.out 2
     have hfz18_3 := blk_frozen BK212.out 3
     go_wp2
     go_ret
     exact ⟨by first | rfl | (simp [errW_none, errW_some] <;> rfl) | (simp [*, errW_none, errW_some] <;> rfl), bq⟩

end Go.Proofs.Ytooiamkaipdmpaa.PFnExactShardsOf
