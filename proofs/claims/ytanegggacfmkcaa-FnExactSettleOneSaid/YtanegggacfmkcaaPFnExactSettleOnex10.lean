/- The functions that a law reaches, each as a plain Lean function with the proof that the machine comes to its answer: written by program (the kit's print, turned by wip/gen). No conditions. -/
import Derived.Test.YtanegggacfmkcaaPFnExactSettleOnex0
import Derived.Test.YtanegggacfmkcaaPFnExactSettleOnex7
import Derived.Test.YtanegggacfmkcaaPFnExactSettleOnex9
namespace Go.Proofs.Ytanegggacfmkcaa.PFnExactSettleOne
open Go.RowKit Go.Proofs.YtanegggacfmkcaaW.PrintWords Go.Proofs.YtanegggacfmkcaaW.PrintLast Go.Proofs.YtanegggacfmkcaaW.PrintMore
attribute [local go_sem] max2_int min2_int max_two min_two max_three min_three max_four min_four   -- for this text's walks alone
set_option linter.unusedVariables false
set_option linter.unusedSimpArgs false

/-! ### impl_settled: function 62 -/
def impl_settled.l0 : Nat → List (S86) → Int → Int → List (List (S104)) → Option ((List (List (S104))))
  | 0, _, _, _, _ => none
  | k + 1, x11, x12, x13, x223000 => if x13 < x12 then (if 0 ≤ x13 then (if x13 < (x11.length : Int) then (if 0 ≤ ((rd_T86 x11 x13).f0) then (if ((rd_T86 x11 x13).f0) < (x223000.length : Int) then ((impl_added.f k (rd_L2 x223000 ((rd_T86 x11 x13).f0)) ((rd_T86 x11 x13).f0) ((rd_T86 x11 x13).f1) ((rd_T86 x11 x13).f2) ((rd_T86 x11 x13).f3)).bind fun t226 => (impl_settled.l0 k x11 x12 (wrap64 (x13 + 1)) (x223000.set (((rd_T86 x11 x13).f0) : Int).toNat t226))) else (none)) else (none)) else (none)) else (none)) else (some x223000)
def impl_settled.f (k : Nat) (l0_0 : List (List (S104))) (a1_0 : Int) (l1_1 : List (S86)) : Option ((List (List (S104)))) := (impl_copyLedger.f k l0_0).bind fun t219 => (impl_settled.l0 k l1_1 (l1_1.length : Int) 0 t219)
def impl_settled.T5 : Bool × List (List Nat × List Nat) := (true, [([], []), ([0], [0]), ([], []), ([2], [2]), ([], []), ([4], [4]), ([], []), ([6], [6]), ([5, 7], [5, 7]), ([8], [8]), ([], []), ([9, 10], [9, 10]), ([1, 3, 0, 1, 2, 3, 4, 5, 6, 7, 8, 9, 10, 11], [1, 3]), ([12, 11, 11, 0, 1, 2, 3, 4, 5, 6, 7, 8, 9, 10, 11], [11, 12])])
def impl_settled.B5 : List Nat := [0, 1, 0, 4, 0, 16, 0, 64, 240, 496, 0, 2032, 4095, 8191]
theorem impl_settled.tab5 : rtab .any (opsOf Try.f62 5) = impl_settled.T5 := by kernel_rfl
theorem impl_settled.bits5 : waitsOk impl_settled.T5.2 impl_settled.B5 = true := by kernel_rfl
set_option maxHeartbeats 8000000 in
set_option maxRecDepth 100000 in
theorem impl_settled.calls (k : Nat) (A0_0 : Option Addr) (c0_0 : Nat) (l0_0 : List (List (S104))) (a1_0 : Int) (A1_1 : Option Addr) (c1_1 : Nat) (l1_1 : List (S86)) (r : List (List (S104))) (w : World) (hr0_0 : Kd.C (Kd.slice 104 k104) w A0_0 l0_0.length l0_0) (hc0_0 : l0_0.length ≤ c0_0) (hr1_1 : Kd.C k86 w A1_1 l1_1.length l1_1) (hc1_1 : l1_1.length ≤ c1_1) (h : impl_settled.f k l0_0 a1_0 l1_1 = some r) :
  Calls Try.prog 62 #[.agg #[.slice A0_0 l0_0.length c0_0], .agg #[.int .i64 a1_0, .slice A1_1 l1_1.length c1_1]] w fun e w' => ∃ v0_ : Value, e = .returned (.agg #[v0_]) ∧ Kd.S (Kd.slice 104 k104) 64 w' w.heap.size (fun _ => True) v0_ r ∧ Below w.heap.size w w' := by
 have hu26 := Try.underlying26
 have hu40 := Try.underlying40
 have hu86 := Try.underlying86
 have HR0_0 := Aside0.mk hr0_0
 have HC0_0 := Aside0.mk hc0_0
 clear hr0_0 hc0_0
 have HR1_1 := Aside0.mk hr1_1
 have HC1_1 := Aside0.mk hc1_1
 clear hr1_1 hc1_1
 have HB := Aside0.mk (Below.refl w.heap.size w)
 have H : ((impl_copyLedger.f k l0_0).bind fun t219 => (impl_settled.l0 k l1_1 (l1_1.length : Int) 0 t219)) = some r := h
 clear h
 replace H := Option.bind_eq_some_iff.mp H
 obtain ⟨t219, A30, H⟩ := H
 replace H : (impl_settled.l0 k l1_1 (l1_1.length : Int) 0 t219) = some r := H
 have A3 := Aside0.mk A30
 clear A30
 have H' := Aside0.mk H
 clear H
 go_enter Try.func62, Try.ntmps62
 go_wp2_with (first | ((with_reducible refine gate_dst (N := 2) rfl ?_); refine q_box (N := 2) (cs := #[.slice A0_0 l0_0.length c0_0]) (t := 26) ?_; intro gb216 hg w4 hbox hb; have n0_ := Aside0.mk (below_step bq hb); have n1_ := Aside0.mk (hbox); have n2_ := Aside0.mk ((q_g hg bq : w.heap.size ≤ gb216)); have n3_ := Aside0.mk ((q_g hg bq : w.heap.size ≤ gb216)); revert n0_ n1_ n2_ n3_; clear HB; intro HB BK216 GW216 GE216; clear hb hbox hg) | ((with_reducible refine gate_dst (N := 3) rfl ?_); refine q_box (N := 3) (cs := #[.int .i64 a1_0, .slice A1_1 l1_1.length c1_1]) (t := 40) ?_; intro gb217 hg w5 hbox hb; have n0_ := Aside0.mk (blk_below (q_b BK216.out) hb); have n1_ := Aside0.mk (below_step bq hb); have n2_ := Aside0.mk (hbox); have n3_ := Aside0.mk ((q_g hg bq : w.heap.size ≤ gb217)); have n4_ := Aside0.mk ((q_g hg bq : w.heap.size ≤ gb217)); have n5_ := Aside0.mk ((q_n hg (q_b BK216.out) : gb216 ≠ gb217)); have n6_ := Aside0.mk ((q_m hg (q_b BK216.out) : gb217 ≠ gb216)); revert n0_ n1_ n2_ n3_ n4_ n5_ n6_; clear BK216 HB; intro BK216 HB BK217 GW217 GE217 NB216_217 NB217_216; clear hb hbox hg) | ((with_reducible refine gate_dst (N := 4) rfl ?_); refine q_box (N := 4) (cs := #[.slice none 0 0]) (t := 26) ?_; intro gb218 hg w6 hbox hb; have n0_ := Aside0.mk (blk_below (q_b BK216.out) hb); have n1_ := Aside0.mk (blk_below (q_b BK217.out) hb); have n2_ := Aside0.mk (below_step bq hb); have n3_ := Aside0.mk (hbox); have n4_ := Aside0.mk ((q_g hg bq : w.heap.size ≤ gb218)); have n5_ := Aside0.mk ((q_g hg bq : w.heap.size ≤ gb218)); have n6_ := Aside0.mk ((q_n hg (q_b BK216.out) : gb216 ≠ gb218)); have n7_ := Aside0.mk ((q_m hg (q_b BK216.out) : gb218 ≠ gb216)); have n8_ := Aside0.mk ((q_n hg (q_b BK217.out) : gb217 ≠ gb218)); have n9_ := Aside0.mk ((q_m hg (q_b BK217.out) : gb218 ≠ gb217)); revert n0_ n1_ n2_ n3_ n4_ n5_ n6_ n7_ n8_ n9_; clear BK216 BK217 HB; intro BK216 BK217 HB BK218 GW218 GE218 NB216_218 NB218_216 NB217_218 NB218_217; clear hb hbox hg; have hnb7 := NB216_217.out; have hnc7 := NB217_216.out; have hnb8 := NB216_218.out; have hnc8 := NB218_216.out; obtain ⟨hcz9_0, hfz9_0⟩ := q_1 BK216.out) | ((with_reducible refine gate_callee (f := 60) rfl ?_); refine goesLq (some 9) rfl rfl Try.func60 (by kernel_rfl) rfl #[.agg #[.slice A0_0 l0_0.length c0_0]] rfl ?_; (with_reducible refine (impl_copyLedger.calls k _ _ l0_0 t219 _ ?side1 ?side2 A3.out).mono ?_); (case side1 => exact q_c ((Kd.C_below HR0_0.out HB.out))); (case side2 => exact HC0_0.out); rintro e w10 ⟨v220, rfl, ho0, hb⟩; refine ⟨_, rfl, ?_⟩; have n0_ := Aside0.mk (Kd.S_lower (Kd.S_mono (ok' := fun k_ => (w.heap.size ≤ k_) ∧ k_ ≠ gb216 ∧ k_ ≠ gb217 ∧ k_ ≠ gb218) (Kd.S_bound ho0) (fun k_ hk_ => ⟨(Nat.le_trans (below_size bq) hk_.2.1), (Kd.freshB (q_b BK216.out) k_ hk_.2.1), (Kd.freshB (q_b BK217.out) k_ hk_.2.1), (Kd.freshB (q_b BK218.out) k_ hk_.2.1)⟩)) (below_size bq)); have n1_ := Aside0.mk (blk_below (q_b BK216.out) hb); have n2_ := Aside0.mk (blk_below (q_b BK217.out) hb); have n3_ := Aside0.mk (blk_below (q_b BK218.out) hb); have n4_ := Aside0.mk (below_step bq hb); revert n0_ n1_ n2_ n3_ n4_; clear BK216 BK217 BK218 HB; intro HO221 BK216 BK217 BK218 HB; (try clear hb); (try clear hb2); (try clear hk); (try clear hi); (try clear ho0)) | ((with_reducible refine gate_dst (N := 5) rfl ?_); refine q_box (N := 5) (cs := #[.slice none 0 0]) (t := 26) ?_; intro gb222 hg w11 hbox hb; have n0_ := Aside0.mk (Kd.S_below (Kd.S_elderB (q_s (HO221.out)) gb222 (Nat.le_of_eq hg.symm)) hb); have n1_ := Aside0.mk (blk_below (q_b BK216.out) hb); have n2_ := Aside0.mk (blk_below (q_b BK217.out) hb); have n3_ := Aside0.mk (blk_below (q_b BK218.out) hb); have n4_ := Aside0.mk (below_step bq hb); have n5_ := Aside0.mk (hbox); have n6_ := Aside0.mk ((q_g hg bq : w.heap.size ≤ gb222)); have n7_ := Aside0.mk ((q_g hg bq : w.heap.size ≤ gb222)); have n8_ := Aside0.mk ((q_n hg (q_b BK216.out) : gb216 ≠ gb222)); have n9_ := Aside0.mk ((q_m hg (q_b BK216.out) : gb222 ≠ gb216)); have n10_ := Aside0.mk ((q_n hg (q_b BK217.out) : gb217 ≠ gb222)); have n11_ := Aside0.mk ((q_m hg (q_b BK217.out) : gb222 ≠ gb217)); have n12_ := Aside0.mk ((q_n hg (q_b BK218.out) : gb218 ≠ gb222)); have n13_ := Aside0.mk ((q_m hg (q_b BK218.out) : gb222 ≠ gb218)); revert n0_ n1_ n2_ n3_ n4_ n5_ n6_ n7_ n8_ n9_ n10_ n11_ n12_ n13_; clear HO221 BK216 BK217 BK218 HB; intro HO221 BK216 BK217 BK218 HB BK222 GW222 GE222 NB216_222 NB222_216 NB217_222 NB222_217 NB218_222 NB222_218; clear hb hbox hg; obtain ⟨Ao12, co12, eo12⟩ := Kd.N_slice (Kd.S_N HO221.out); subst eo12; have hnb13 := NB222_216.out; have hnc13 := NB216_222.out; have hnb14 := NB222_217.out; have hnc14 := NB217_222.out; have hnb15 := NB222_218.out; have hnc15 := NB218_222.out; obtain ⟨hcz16_0, hfz16_0⟩ := q_1 BK222.out; have hnb17 := NB217_218.out; have hnc17 := NB218_217.out; obtain ⟨hcz18_0, hcz18_1, hfz18_0, hfz18_1⟩ := q_2 BK217.out))
 go_loopg [13] k (fun kq v13 w' => ∃ (x13_1 : Int) (x223000_1 : List (List (S104))) (u223000 : Value), v13 = .int .i64 x13_1 ∧ Aside0 (impl_settled.l0 kq l1_1 (l1_1.length : Int) x13_1 x223000_1 = some r) ∧ Aside0 (kq ≤ k) ∧ Aside0 (Kd.S (Kd.slice 104 k104) 64 w' w.heap.size (fun k_ => (w.heap.size ≤ k_) ∧ k_ ≠ gb216 ∧ k_ ≠ gb217 ∧ k_ ≠ gb218 ∧ k_ ≠ gb222) u223000 x223000_1) ∧ Aside0 (w'.heap[gb216]? = some (.cells #[(.slice A0_0 l0_0.length c0_0)] 26 (0, 0))) ∧ Aside0 (w'.heap[gb217]? = some (.cells #[.int .i64 a1_0, (.slice A1_1 l1_1.length c1_1)] 40 (0, 0))) ∧ Aside0 (w'.heap[gb218]? = some (.cells #[(.slice none 0 0)] 26 (0, 0))) ∧ Aside0 (w'.heap[gb222]? = some (.cells #[u223000] 26 (0, 0))) ∧ Aside0 (Below w.heap.size w w'))
 case atStart => exact ⟨(0), (t219), (.slice Ao12 t219.length co12), q_i, H', ⟨Nat.le_refl _⟩, ⟨by (with_reducible repeat (first | apply Kd.S_alloc | apply Kd.S_drewN | apply Kd.S_drew)); exact Kd.S_mono (Kd.S_far (p := ⟨gb222, 0, none⟩) (Kd.S_mono HO221.out (fun k_ hk => (⟨hk, hk.2⟩ : _ ∧ k_ ≠ gb222))) (fun _ hk => hk.2) (.slice Ao12 t219.length co12)) (fun _ hk => ⟨hk.1.1.1, ⟨hk.1.1.2.1, ⟨hk.1.1.2.2.1, ⟨hk.1.1.2.2.2, hk.1.2⟩⟩⟩⟩)⟩, ⟨by (with_reducible repeat (first | refine blk_drewN ?_ _ | refine blk_drew ?_ | refine blk_alloc ?_ _)); refine blk_far ?_ NB216_222.out _; (with_reducible repeat (first | refine blk_drewN ?_ _ | refine blk_drew ?_ | refine blk_alloc ?_ _)); exact BK216.out⟩, ⟨by (with_reducible repeat (first | refine blk_drewN ?_ _ | refine blk_drew ?_ | refine blk_alloc ?_ _)); refine blk_far ?_ NB217_222.out _; (with_reducible repeat (first | refine blk_drewN ?_ _ | refine blk_drew ?_ | refine blk_alloc ?_ _)); exact BK217.out⟩, ⟨by (with_reducible repeat (first | refine blk_drewN ?_ _ | refine blk_drew ?_ | refine blk_alloc ?_ _)); refine blk_far ?_ NB218_222.out _; (with_reducible repeat (first | refine blk_drewN ?_ _ | refine blk_drew ?_ | refine blk_alloc ?_ _)); exact BK218.out⟩, ⟨by (with_reducible repeat (first | refine blk_drewN ?_ _ | refine blk_drew ?_ | refine blk_alloc ?_ _)); refine blk_put (cs := #[.slice none 0 0]) ?_ 0 _ rfl; (with_reducible repeat (first | refine blk_drewN ?_ _ | refine blk_drew ?_ | refine blk_alloc ?_ _)); exact BK222.out⟩, ⟨bq⟩⟩
 case round =>
  clear H'
  (try clear c1); (try clear p2); (try clear c6); (try clear c7); (try clear c8); (try clear c13); (try clear c14); (try clear c15); (try clear c17); (try clear hcz16_0); (try clear hcz18_0); (try clear hcz18_1)
  (try clear hcz9_0); (try clear hfz16_0); (try clear hfz18_0); (try clear hfz18_1); (try clear hfz9_0)
  obtain ⟨x13_1, x223000_1, u223000, rfl, HA, HK1, HO_223000, BK216, BK217, BK218, BK222, HB⟩ := hrel
  cases gk with
  | zero => exact absurd HA.out (by simp [impl_settled.l0])
  | succ k1 =>
   have H := HA.out
   clear HA
   simp only [impl_settled.l0] at H
   by_cases c19 : x13_1 < (l1_1.length : Int)
   ·rw [if_pos c19] at H
    have c19b0 := decide_eq_true c19
    clear c19
    by_cases c20 : 0 ≤ x13_1
    ·rw [if_pos c20] at H
     have c20b0 := decide_eq_true c20
     clear c20
     by_cases c21 : x13_1 < (l1_1.length : Int)
     ·rw [if_pos c21] at H
      have c21b0 := decide_eq_true c21
      clear c21
      by_cases c22 : 0 ≤ ((rd_T86 l1_1 x13_1).f0)
      ·rw [if_pos c22] at H
       have c22b0 := decide_eq_true c22
       clear c22
       by_cases c23 : ((rd_T86 l1_1 x13_1).f0) < (x223000_1.length : Int)
       ·rw [if_pos c23] at H
        have c23b0 := decide_eq_true c23
        clear c23
        replace H := Option.bind_eq_some_iff.mp H
        obtain ⟨t226, A240, H⟩ := H
        replace H : (impl_settled.l0 k1 l1_1 (l1_1.length : Int) (wrap64 (x13_1 + 1)) (x223000_1.set (((rd_T86 l1_1 x13_1).f0) : Int).toNat t226)) = some r := H
        have A24 := Aside0.mk A240
        clear A240
        obtain ⟨y229, hy229⟩ : ∃ y_ : List (List (S104)), y_ = (x223000_1.set (((rd_T86 l1_1 x13_1).f0) : Int).toNat t226) := ⟨_, rfl⟩
        replace H : (impl_settled.l0 k1 l1_1 (l1_1.length : Int) (wrap64 (x13_1 + 1)) y229) = some r := q_h hy229 H
        have Ny229 := Aside0.mk hy229
        clear hy229
        have H' := Aside0.mk H
        clear H
        have p223 : 0 ≤ (x13_1 : Int) := q_d
        have q223 : x13_1 < (l1_1.length : Int) := q_d
        obtain ⟨ad223, e223, hx223_0, hx223_1, hx223_2, hx223_3⟩ := at_T86 HR1_1.out x13_1 p223 q223
        cases e223
        replace hx223_0 := q_x HB.out hx223_0
        replace hx223_1 := q_x HB.out hx223_1
        replace hx223_2 := q_x HB.out hx223_2
        replace hx223_3 := q_x HB.out hx223_3
        replace p223 := eq_true p223
        replace q223 := eq_true q223
        try go_wp2_with (first | ((with_reducible refine gate_dst (N := 7) rfl ?_); refine q_box (N := 7) (cs := #[.int .i64 0, .int .i64 0, .int .i64 0, .int .i64 0]) (t := 86) ?_; intro gb224 hg w26 hbox hb; have n0_ := Aside0.mk (Kd.S_below (Kd.S_elderB (q_s (HO_223000.out)) gb224 (Nat.le_of_eq hg.symm)) hb); have n1_ := Aside0.mk (blk_below (q_b BK216.out) hb); have n2_ := Aside0.mk (blk_below (q_b BK217.out) hb); have n3_ := Aside0.mk (blk_below (q_b BK218.out) hb); have n4_ := Aside0.mk (blk_below (q_b BK222.out) hb); have n5_ := Aside0.mk (below_step bq hb); have n6_ := Aside0.mk (hbox); have n7_ := Aside0.mk ((q_g hg bq : w.heap.size ≤ gb224)); have n8_ := Aside0.mk ((q_g hg bq : w.heap.size ≤ gb224)); have n9_ := Aside0.mk ((q_n hg (q_b BK216.out) : gb216 ≠ gb224)); have n10_ := Aside0.mk ((q_m hg (q_b BK216.out) : gb224 ≠ gb216)); have n11_ := Aside0.mk ((q_n hg (q_b BK217.out) : gb217 ≠ gb224)); have n12_ := Aside0.mk ((q_m hg (q_b BK217.out) : gb224 ≠ gb217)); have n13_ := Aside0.mk ((q_n hg (q_b BK218.out) : gb218 ≠ gb224)); have n14_ := Aside0.mk ((q_m hg (q_b BK218.out) : gb224 ≠ gb218)); have n15_ := Aside0.mk ((q_n hg (q_b BK222.out) : gb222 ≠ gb224)); have n16_ := Aside0.mk ((q_m hg (q_b BK222.out) : gb224 ≠ gb222)); revert n0_ n1_ n2_ n3_ n4_ n5_ n6_ n7_ n8_ n9_ n10_ n11_ n12_ n13_ n14_ n15_ n16_; clear HO_223000 BK216 BK217 BK218 BK222 HB; intro HO_223000 BK216 BK217 BK218 BK222 HB BK224 GW224 GE224 NB216_224 NB224_216 NB217_224 NB224_217 NB218_224 NB224_218 NB222_224 NB224_222; clear hb hbox hg; have hnb27 := NB224_216.out; have hnc27 := NB216_224.out; have hnb28 := NB224_217.out; have hnc28 := NB217_224.out; have hnb29 := NB224_218.out; have hnc29 := NB218_224.out; have hnb30 := NB224_222.out; have hnc30 := NB222_224.out; obtain ⟨hcz31_0, hcz31_1, hcz31_2, hcz31_3, hfz31_0, hfz31_1, hfz31_2, hfz31_3⟩ := q_4 BK224.out))
        have n0_ : Aside0 (Kd.S (Kd.slice 104 k104) 64 ((((w26.setCell ⟨gb224, 0, none⟩ (.int .i64 ((rd_T86 l1_1 x13_1).f0))).setCell ⟨gb224, 1, none⟩ (.int .i64 ((rd_T86 l1_1 x13_1).f1))).setCell ⟨gb224, 2, none⟩ (.int .i64 ((rd_T86 l1_1 x13_1).f2))).setCell ⟨gb224, 3, none⟩ (.int .i64 ((rd_T86 l1_1 x13_1).f3))) w.heap.size (fun k_ => (w.heap.size ≤ k_) ∧ k_ ≠ gb216 ∧ k_ ≠ gb217 ∧ k_ ≠ gb218 ∧ k_ ≠ gb222 ∧ k_ ≠ gb224) u223000 x223000_1) := ⟨by (with_reducible repeat (first | apply Kd.S_alloc | apply Kd.S_drewN | apply Kd.S_drew)); exact Kd.S_mono (Kd.S_far (p := ⟨gb224, 3, none⟩) (Kd.S_far (p := ⟨gb224, 2, none⟩) (Kd.S_far (p := ⟨gb224, 1, none⟩) (Kd.S_far (p := ⟨gb224, 0, none⟩) (Kd.S_mono HO_223000.out (fun k_ hk => (⟨hk, hk.2⟩ : _ ∧ k_ ≠ gb224))) (fun _ hk => hk.2) (.int .i64 ((rd_T86 l1_1 x13_1).f0))) (fun _ hk => hk.2) (.int .i64 ((rd_T86 l1_1 x13_1).f1))) (fun _ hk => hk.2) (.int .i64 ((rd_T86 l1_1 x13_1).f2))) (fun _ hk => hk.2) (.int .i64 ((rd_T86 l1_1 x13_1).f3))) (fun _ hk => ⟨hk.1.1.1, ⟨hk.1.1.2.1, ⟨hk.1.1.2.2.1, ⟨hk.1.1.2.2.2.1, ⟨hk.1.1.2.2.2.2, hk.1.2⟩⟩⟩⟩⟩)⟩
        have n1_ : Aside0 (((((w26.setCell ⟨gb224, 0, none⟩ (.int .i64 ((rd_T86 l1_1 x13_1).f0))).setCell ⟨gb224, 1, none⟩ (.int .i64 ((rd_T86 l1_1 x13_1).f1))).setCell ⟨gb224, 2, none⟩ (.int .i64 ((rd_T86 l1_1 x13_1).f2))).setCell ⟨gb224, 3, none⟩ (.int .i64 ((rd_T86 l1_1 x13_1).f3))).heap[gb216]? = some (.cells #[.slice A0_0 l0_0.length c0_0] 26 (0, 0))) := ⟨by (with_reducible repeat (first | refine blk_drewN ?_ _ | refine blk_drew ?_ | refine blk_alloc ?_ _)); refine blk_far ?_ NB216_224.out _; (with_reducible repeat (first | refine blk_drewN ?_ _ | refine blk_drew ?_ | refine blk_alloc ?_ _)); refine blk_far ?_ NB216_224.out _; (with_reducible repeat (first | refine blk_drewN ?_ _ | refine blk_drew ?_ | refine blk_alloc ?_ _)); refine blk_far ?_ NB216_224.out _; (with_reducible repeat (first | refine blk_drewN ?_ _ | refine blk_drew ?_ | refine blk_alloc ?_ _)); refine blk_far ?_ NB216_224.out _; (with_reducible repeat (first | refine blk_drewN ?_ _ | refine blk_drew ?_ | refine blk_alloc ?_ _)); exact BK216.out⟩
        have n2_ : Aside0 (((((w26.setCell ⟨gb224, 0, none⟩ (.int .i64 ((rd_T86 l1_1 x13_1).f0))).setCell ⟨gb224, 1, none⟩ (.int .i64 ((rd_T86 l1_1 x13_1).f1))).setCell ⟨gb224, 2, none⟩ (.int .i64 ((rd_T86 l1_1 x13_1).f2))).setCell ⟨gb224, 3, none⟩ (.int .i64 ((rd_T86 l1_1 x13_1).f3))).heap[gb217]? = some (.cells #[.int .i64 a1_0, .slice (some ad223) l1_1.length c1_1] 40 (0, 0))) := ⟨by (with_reducible repeat (first | refine blk_drewN ?_ _ | refine blk_drew ?_ | refine blk_alloc ?_ _)); refine blk_far ?_ NB217_224.out _; (with_reducible repeat (first | refine blk_drewN ?_ _ | refine blk_drew ?_ | refine blk_alloc ?_ _)); refine blk_far ?_ NB217_224.out _; (with_reducible repeat (first | refine blk_drewN ?_ _ | refine blk_drew ?_ | refine blk_alloc ?_ _)); refine blk_far ?_ NB217_224.out _; (with_reducible repeat (first | refine blk_drewN ?_ _ | refine blk_drew ?_ | refine blk_alloc ?_ _)); refine blk_far ?_ NB217_224.out _; (with_reducible repeat (first | refine blk_drewN ?_ _ | refine blk_drew ?_ | refine blk_alloc ?_ _)); exact BK217.out⟩
        have n3_ : Aside0 (((((w26.setCell ⟨gb224, 0, none⟩ (.int .i64 ((rd_T86 l1_1 x13_1).f0))).setCell ⟨gb224, 1, none⟩ (.int .i64 ((rd_T86 l1_1 x13_1).f1))).setCell ⟨gb224, 2, none⟩ (.int .i64 ((rd_T86 l1_1 x13_1).f2))).setCell ⟨gb224, 3, none⟩ (.int .i64 ((rd_T86 l1_1 x13_1).f3))).heap[gb218]? = some (.cells #[.slice none 0 0] 26 (0, 0))) := ⟨by (with_reducible repeat (first | refine blk_drewN ?_ _ | refine blk_drew ?_ | refine blk_alloc ?_ _)); refine blk_far ?_ NB218_224.out _; (with_reducible repeat (first | refine blk_drewN ?_ _ | refine blk_drew ?_ | refine blk_alloc ?_ _)); refine blk_far ?_ NB218_224.out _; (with_reducible repeat (first | refine blk_drewN ?_ _ | refine blk_drew ?_ | refine blk_alloc ?_ _)); refine blk_far ?_ NB218_224.out _; (with_reducible repeat (first | refine blk_drewN ?_ _ | refine blk_drew ?_ | refine blk_alloc ?_ _)); refine blk_far ?_ NB218_224.out _; (with_reducible repeat (first | refine blk_drewN ?_ _ | refine blk_drew ?_ | refine blk_alloc ?_ _)); exact BK218.out⟩
        have n4_ : Aside0 (((((w26.setCell ⟨gb224, 0, none⟩ (.int .i64 ((rd_T86 l1_1 x13_1).f0))).setCell ⟨gb224, 1, none⟩ (.int .i64 ((rd_T86 l1_1 x13_1).f1))).setCell ⟨gb224, 2, none⟩ (.int .i64 ((rd_T86 l1_1 x13_1).f2))).setCell ⟨gb224, 3, none⟩ (.int .i64 ((rd_T86 l1_1 x13_1).f3))).heap[gb222]? = some (.cells #[u223000] 26 (0, 0))) := ⟨by (with_reducible repeat (first | refine blk_drewN ?_ _ | refine blk_drew ?_ | refine blk_alloc ?_ _)); refine blk_far ?_ NB222_224.out _; (with_reducible repeat (first | refine blk_drewN ?_ _ | refine blk_drew ?_ | refine blk_alloc ?_ _)); refine blk_far ?_ NB222_224.out _; (with_reducible repeat (first | refine blk_drewN ?_ _ | refine blk_drew ?_ | refine blk_alloc ?_ _)); refine blk_far ?_ NB222_224.out _; (with_reducible repeat (first | refine blk_drewN ?_ _ | refine blk_drew ?_ | refine blk_alloc ?_ _)); refine blk_far ?_ NB222_224.out _; (with_reducible repeat (first | refine blk_drewN ?_ _ | refine blk_drew ?_ | refine blk_alloc ?_ _)); exact BK222.out⟩
        have n5_ : Aside0 (((((w26.setCell ⟨gb224, 0, none⟩ (.int .i64 ((rd_T86 l1_1 x13_1).f0))).setCell ⟨gb224, 1, none⟩ (.int .i64 ((rd_T86 l1_1 x13_1).f1))).setCell ⟨gb224, 2, none⟩ (.int .i64 ((rd_T86 l1_1 x13_1).f2))).setCell ⟨gb224, 3, none⟩ (.int .i64 ((rd_T86 l1_1 x13_1).f3))).heap[gb224]? = some (.cells #[.int .i64 ((rd_T86 l1_1 x13_1).f0), .int .i64 ((rd_T86 l1_1 x13_1).f1), .int .i64 ((rd_T86 l1_1 x13_1).f2), .int .i64 ((rd_T86 l1_1 x13_1).f3)] 86 (0, 0))) := ⟨by (with_reducible repeat (first | refine blk_drewN ?_ _ | refine blk_drew ?_ | refine blk_alloc ?_ _)); refine blk_put (cs := #[.int .i64 ((rd_T86 l1_1 x13_1).f0), .int .i64 ((rd_T86 l1_1 x13_1).f1), .int .i64 ((rd_T86 l1_1 x13_1).f2), .int .i64 0]) ?_ 3 _ rfl; (with_reducible repeat (first | refine blk_drewN ?_ _ | refine blk_drew ?_ | refine blk_alloc ?_ _)); refine blk_put (cs := #[.int .i64 ((rd_T86 l1_1 x13_1).f0), .int .i64 ((rd_T86 l1_1 x13_1).f1), .int .i64 0, .int .i64 0]) ?_ 2 _ rfl; (with_reducible repeat (first | refine blk_drewN ?_ _ | refine blk_drew ?_ | refine blk_alloc ?_ _)); refine blk_put (cs := #[.int .i64 ((rd_T86 l1_1 x13_1).f0), .int .i64 0, .int .i64 0, .int .i64 0]) ?_ 1 _ rfl; (with_reducible repeat (first | refine blk_drewN ?_ _ | refine blk_drew ?_ | refine blk_alloc ?_ _)); refine blk_put (cs := #[.int .i64 0, .int .i64 0, .int .i64 0, .int .i64 0]) ?_ 0 _ rfl; (with_reducible repeat (first | refine blk_drewN ?_ _ | refine blk_drew ?_ | refine blk_alloc ?_ _)); exact BK224.out⟩
        have n6_ : Aside0 (Below w.heap.size w ((((w26.setCell ⟨gb224, 0, none⟩ (.int .i64 ((rd_T86 l1_1 x13_1).f0))).setCell ⟨gb224, 1, none⟩ (.int .i64 ((rd_T86 l1_1 x13_1).f1))).setCell ⟨gb224, 2, none⟩ (.int .i64 ((rd_T86 l1_1 x13_1).f2))).setCell ⟨gb224, 3, none⟩ (.int .i64 ((rd_T86 l1_1 x13_1).f3)))) := ⟨bq⟩
        (try clear HO_223000)
        (try clear BK216)
        (try clear BK217)
        (try clear BK218)
        (try clear BK222)
        (try clear BK224)
        (try clear HB)
        generalize ((((w26.setCell ⟨gb224, 0, none⟩ (.int .i64 ((rd_T86 l1_1 x13_1).f0))).setCell ⟨gb224, 1, none⟩ (.int .i64 ((rd_T86 l1_1 x13_1).f1))).setCell ⟨gb224, 2, none⟩ (.int .i64 ((rd_T86 l1_1 x13_1).f2))).setCell ⟨gb224, 3, none⟩ (.int .i64 ((rd_T86 l1_1 x13_1).f3))) = w32 at n0_ n1_ n2_ n3_ n4_ n5_ n6_ ⊢
        have HO_223000 := n0_
        have BK216 := n1_
        have BK217 := n2_
        have BK218 := n3_
        have BK222 := n4_
        have BK224 := n5_
        have HB := n6_
        clear n0_ n1_ n2_ n3_ n4_ n5_ n6_
        have n0_ := Aside0.mk (Kd.S_drew HO_223000.out)
        have n1_ := Aside0.mk (blk_drew BK216.out)
        have n2_ := Aside0.mk (blk_drew BK217.out)
        have n3_ := Aside0.mk (blk_drew BK218.out)
        have n4_ := Aside0.mk (blk_drew BK222.out)
        have n5_ := Aside0.mk (blk_drew BK224.out)
        have n6_ := Aside0.mk (below_drew1 HB.out)
        clear HO_223000
        clear BK216
        clear BK217
        clear BK218
        clear BK222
        clear BK224
        clear HB
        have HO_223000 := n0_
        have BK216 := n1_
        have BK217 := n2_
        have BK218 := n3_
        have BK222 := n4_
        have BK224 := n5_
        have HB := n6_
        clear n0_ n1_ n2_ n3_ n4_ n5_ n6_
        obtain ⟨Ao34, co34, eo34⟩ := Kd.N_slice (Kd.S_N HO_223000.out)
        (first | subst eo34 | (injection eo34 with f1_ f2_ f3_; have f4_ := f1_.symm; have f5_ := f3_.symm; clear f1_ f2_ f3_; subst f4_; subst f5_))
        have p225 : 0 ≤ (((rd_T86 l1_1 x13_1).f0) : Int) := q_d
        have q225 : ((rd_T86 l1_1 x13_1).f0) < (x223000_1.length : Int) := q_d
        obtain ⟨ad225, A225_0, c225_0, e225, hx225_0, hl225_0, hi225_0⟩ := at_L2 (Kd.N_reads' (Kd.S_N HO_223000.out)).2.2 ((rd_T86 l1_1 x13_1).f0) p225 q225
        cases e225
        obtain ⟨ce225, hce225, hMe225, hcc225⟩ := Kd.N_get (Kd.S_N HO_223000.out) [] ((rd_T86 l1_1 x13_1).f0) p225 (by first | exact q225 | exact q_d | (have e_ := (Kd.N_reads' (Kd.S_N HO_223000.out)).1; omega))
        obtain ⟨ua225_0, uc225_0, rfl, ul225_0, ge225_0⟩ := Kd.FK_slice_open hMe225
        have hv225_0 := hcc225 0 _ rfl
        rw [Nat.add_zero, show ((Kd.slice 104 k104)).sz = 1 from rfl, Nat.mul_one] at hv225_0
        replace hv225_0 := Option.some.inj (hv225_0.symm.trans hx225_0)
        injection hv225_0 with hva_ hvn_ hvc_
        rw [hva_] at ge225_0
        rw [hvc_] at ul225_0
        have HL225_0 := Aside0.mk (show Kd.V k104 104 _ w.heap.size _ _ (rd_L2 x223000_1 ((rd_T86 l1_1 x13_1).f0)) from Kd.V_mk ul225_0 ge225_0)
        clear hva_ hvn_ hvc_ ge225_0 ul225_0
        clear hcc225 hce225
        have HR225_0 := Aside0.mk hi225_0
        have HC225_0 := Aside0.mk hl225_0
        clear hi225_0 hl225_0
        replace p225 := eq_true p225
        replace q225 := eq_true q225
        refine start_ (n := 14) (S := fun w' => w'.cell? ⟨gb222, 0, none⟩ = some (.slice (some ad225) x223000_1.length co34) ∧ w'.cell? ⟨gb224, 0, none⟩ = some (.int .i64 ((rd_T86 l1_1 x13_1).f0)) ∧ w'.cell? ⟨gb224, 1, none⟩ = some (.int .i64 ((rd_T86 l1_1 x13_1).f1)) ∧ w'.cell? ⟨gb224, 2, none⟩ = some (.int .i64 ((rd_T86 l1_1 x13_1).f2)) ∧ w'.cell? ⟨gb224, 3, none⟩ = some (.int .i64 ((rd_T86 l1_1 x13_1).f3)) ∧ w'.cell? (ad225.add (((rd_T86 l1_1 x13_1).f0)).toNat) = some (.slice A225_0 (rd_L2 x223000_1 ((rd_T86 l1_1 x13_1).f0)).length c225_0)) (ds := [13]) #[false, false, false, false, false, false, false, false, false, false, false, false, false, false] (by kernel_rfl) rfl rfl ⟨q_z BK222.out 0, q_z BK224.out 0, q_z BK224.out 1, q_z BK224.out 2, q_z BK224.out 3, hx225_0⟩ (fun hHeld => ?_); refine with_tabW impl_settled.tab5 impl_settled.bits5 (fun HT_ HW_ => ?_)
        generalize w32.drew = w33 at HO_223000 BK216 BK217 BK218 BK222 BK224 HB HL225_0 HR225_0 hx225_0 hHeld ⊢
        refine q_p 0 (some 17) #[true, false, false, false, false, false, false, false, false, false, false, false, false, false] HT_.out ?_
        refine q_p 2 (some 19) #[true, false, true, false, false, false, false, false, false, false, false, false, false, false] HT_.out ?_
        refine q_p 4 (some 21) #[true, false, true, false, true, false, false, false, false, false, false, false, false, false] HT_.out ?_
        refine q_p 6 (some 23) #[true, false, true, false, true, false, true, false, false, false, false, false, false, false] HT_.out ?_
        refine q_t 1 (some 18) #[true, true, true, false, true, false, true, false, false, false, false, false, false, false] HT_.out HW_.out hHeld ?_
        refine q_t 3 (some 20) #[true, true, true, true, true, false, true, false, false, false, false, false, false, false] HT_.out HW_.out hHeld ?_
        refine q_t 5 (some 22) #[true, true, true, true, true, true, true, false, false, false, false, false, false, false] HT_.out HW_.out hHeld ?_
        refine q_t 7 (some 24) #[true, true, true, true, true, true, true, true, false, false, false, false, false, false] HT_.out HW_.out hHeld ?_
        refine q_p 8 (some 25) #[true, true, true, true, true, true, true, true, true, false, false, false, false, false] HT_.out ?_
        refine q_t 9 (some 26) #[true, true, true, true, true, true, true, true, true, true, false, false, false, false] HT_.out HW_.out hHeld ?_
        refine q_t 10 (some 27) #[true, true, true, true, true, true, true, true, true, true, true, false, false, false] HT_.out HW_.out hHeld ?_
        refine one_ (i := 11) (N := some 28) #[true, true, true, true, true, true, true, true, true, true, true, true, false, false] rfl rfl (one_of HT_.out (by kernel_rfl)) (by decide) (fun K hK => ?_)
        refine goes_ Try.func102 (by kernel_rfl) rfl #[.slice A225_0 (rd_L2 x223000_1 ((rd_T86 l1_1 x13_1).f0)).length c225_0, .agg #[.int .i64 ((rd_T86 l1_1 x13_1).f0), .int .i64 ((rd_T86 l1_1 x13_1).f1), .int .i64 ((rd_T86 l1_1 x13_1).f2), .int .i64 ((rd_T86 l1_1 x13_1).f3)]] (by rfl) rfl rfl (by (try simp only [List.map_toArray, List.map_cons, List.map_nil]); first | done | rfl | (simp only [List.length_drop, List.length_take]; rfl)) ?_
        with_reducible refine (impl_added.calls k1 _ _ (rd_L2 x223000_1 ((rd_T86 l1_1 x13_1).f0)) ((rd_T86 l1_1 x13_1).f0) ((rd_T86 l1_1 x13_1).f1) ((rd_T86 l1_1 x13_1).f2) ((rd_T86 l1_1 x13_1).f3) t226 _ ?side1 ?side2 A24.out).mono ?_
        (case side1 => exact q_c ((by repeat (first | (with_reducible exact HR225_0.out) | (with_reducible refine Kd.C_alloc ?_ _) | (with_reducible refine Kd.C_drewN ?_ _) | (with_reducible refine Kd.C_drew ?_) | exact HR225_0.out))))
        (case side2 => exact HC225_0.out)
        rintro e w35 ⟨v227, rfl, ho0, hb⟩
        have HS5_ := (hb.cell (World.block_lt_of_cell? _ _ (hHeld.2.2.2.2.2))).trans (hHeld.2.2.2.2.2)
        refine ⟨_, rfl, ?_⟩
        have n0_ := Aside0.mk (Kd.S_elder' (q_s (HO_223000.out)) (Kd.R_base ho0) hb)
        have n1_ := Aside0.mk (Kd.V_elder' (q_v (HL225_0.out)) (Kd.R_base ho0) hb)
        have n2_ := Aside0.mk (Kd.R_lower (Kd.R_newM (M := fun k_ => (w.heap.size ≤ k_)) ho0 (below_size bq) (fun k_ h_ => h_)) (below_size bq))
        have n3_ := Aside0.mk (blk_below (q_b BK216.out) hb)
        have n4_ := Aside0.mk (blk_below (q_b BK217.out) hb)
        have n5_ := Aside0.mk (blk_below (q_b BK218.out) hb)
        have n6_ := Aside0.mk (blk_below (q_b BK222.out) hb)
        have n7_ := Aside0.mk (blk_below (q_b BK224.out) hb)
        have n8_ := Aside0.mk (Kd.C_below (by repeat (first | (with_reducible exact HR225_0.out) | (with_reducible refine Kd.C_alloc ?_ _) | (with_reducible refine Kd.C_drewN ?_ _) | (with_reducible refine Kd.C_drew ?_) | exact HR225_0.out)) hb)
        have n9_ := Aside0.mk (below_step bq hb)
        clear HO_223000
        clear HL225_0
        clear BK216
        clear BK217
        clear BK218
        clear BK222
        clear BK224
        clear HR225_0
        clear HB
        have HO_223000 := n0_
        have HL225_0 := n1_
        have HO228 := n2_
        have BK216 := n3_
        have BK217 := n4_
        have BK218 := n5_
        have BK222 := n6_
        have BK224 := n7_
        have HR225_0 := n8_
        have HB := n9_
        clear n0_ n1_ n2_ n3_ n4_ n5_ n6_ n7_ n8_ n9_
        (try clear hb)
        (try clear hb2)
        (try clear hk)
        (try clear hi)
        (try clear ho0)
        have p25 : 0 ≤ (((rd_T86 l1_1 x13_1).f0) : Int) := q_d
        have q25 : (((rd_T86 l1_1 x13_1).f0) : Int) < ((x223000_1.length : Int) : Int) := q_d
        obtain ⟨go25, co25, eo25, gb25, gl25, cl25, HG25⟩ := Kd.N_form (Kd.S_N HO_223000.out) (by omega)
        (first | cases eo25 | (injection eo25 with ea_ en_ ec_; (first | subst ea_ | (injection ea_ with ea_; subst ea_)); subst ec_; clear en_))
        have GB25 := Aside0.mk gb25
        have GG25 := Aside0.mk HG25
        clear gb25 gl25 HG25
        (first | simp only [add_plain] at hx225_0 | skip)
        obtain ⟨ce25, hcl25, hM25, hcc25, hfr25⟩ := Kd.N_elem (Kd.S_N HO_223000.out) [] (((rd_T86 l1_1 x13_1).f0) : Int) p25 q25
        obtain ⟨ua25_0, uc25_0, rfl, ul25_0, ge25_0⟩ := Kd.FK_slice_open hM25
        have hx25_0 := hcc25 0 _ rfl
        have hf25_0 := hfr25 0
        (try simp only [show ((Kd.slice 104 k104)).sz = 1 from rfl, Nat.mul_one, Nat.add_zero] at hx25_0)
        (try simp only [show ((Kd.slice 104 k104)).sz = 1 from rfl, Nat.mul_one, Nat.add_zero] at hf25_0)
        clear hcl25 hcc25 hfr25; (try clear hM25)
        replace p25 := eq_true p25
        replace q25 := eq_true q25
        obtain ⟨Av227_, cv227_, ev227_⟩ := Kd.R_slice HO228.out
        subst ev227_
        have HX36 := Aside0.mk (show Kd.S (Kd.slice 104 k104) 64 _ w.heap.size (fun k_ => ((w.heap.size ≤ k_) ∧ k_ ≠ gb216 ∧ k_ ≠ gb217 ∧ k_ ≠ gb218 ∧ k_ ≠ gb222 ∧ k_ ≠ gb224) ∧ ¬ (some k_ = ((.slice Av227_ t226.length cv227_) : Value).ownBlock)) (.slice (some ⟨go25, 0, none⟩) x223000_1.length co34) x223000_1 from HO_223000.out)
        obtain ⟨oki36, ce36, hcl36, hM36, hcc36, hfr36, hok36, hH36⟩ := Kd.S_elem HX36.out [] (((rd_T86 l1_1 x13_1).f0) : Int) q_d (by have h_ : (((rd_T86 l1_1 x13_1).f0) : Int) < ((x223000_1.length : Int) : Int) := q_d; first | exact h_ | (have e_ := (Kd.N_reads' (Kd.S_N HO_223000.out)).1; omega) | simpa using h_)
        obtain ⟨va36_, rfl, ge36_0⟩ := hM36
        have HP36 := (Kd.S_seg (ok := fun k_ => (w.heap.size ≤ k_) ∧ k_ ≠ gb216 ∧ k_ ≠ gb217 ∧ k_ ≠ gb218 ∧ k_ ≠ gb222 ∧ k_ ≠ gb224) (okg := fun k_ => some k_ = ((.slice Av227_ t226.length cv227_) : Value).ownBlock) hH36 q_d (by have h_ : (((rd_T86 l1_1 x13_1).f0) : Int) < ((x223000_1.length : Int) : Int) := q_d; first | exact h_ | (have e_ := (Kd.N_reads' (Kd.S_N HO_223000.out)).1; omega) | simpa using h_) (seg := [(.slice Av227_ t226.length cv227_)]) (j := 0) (show 1 ≤ 1 from by decide) (x' := t226) (okp := fun k_ => some k_ = ((.slice Av227_ t226.length cv227_) : Value).ownBlock) (show Kd.M (Kd.slice 104 k104) _ _ _ _ _ from ⟨_, rfl, Kd.R_tight rfl HO228.out⟩) (fun _ hk => .inr hk) (fun k_ hk => ((Kd.R_mono (ok' := (fun k_ => ((fun k_ => (w.heap.size ≤ k_) ∧ k_ ≠ gb216 ∧ k_ ≠ gb217 ∧ k_ ≠ gb218 ∧ k_ ≠ gb222 ∧ k_ ≠ gb224)) k_ ∧ k_ ≠ go25)) (Kd.R_types (Kd.R_types (Kd.R_types (Kd.R_types (Kd.R_types (Kd.R_apart' (HO228.out) (Kd.N_typed (Kd.S_N HO_223000.out)) (by decide)) BK216.out (by decide)) BK217.out (by decide)) BK218.out (by decide)) BK222.out (by decide)) BK224.out (by decide)) (fun k_ hk => ⟨⟨hk.1.1.1.1.1.1.1, ⟨hk.1.1.1.1.2, ⟨hk.1.1.1.2, ⟨hk.1.1.2, ⟨hk.1.2, hk.2⟩⟩⟩⟩⟩, fun e_ => (hk.1.1.1.1.1.2) (by rw [e_]; rfl)⟩))).1 k_ hk.symm)).1
        (try simp only [show ((Kd.slice 104 k104)).sz = 1 from rfl, Nat.mul_one, Nat.add_zero] at HP36)
        rw [← Ny229.out] at HP36
        have HQ36 := Aside0.mk HP36
        clear hcl36 hcc36 hfr36 HP36; (try clear hM36)
        refine hK.out _ _ ⟨q_z BK222.out 0, q_z BK224.out 0, q_z BK224.out 1, q_z BK224.out 2, q_z BK224.out 3, HS5_⟩ (fun hHeld => ?_)
        clear hK K
        refine norm_ (a' := ?_) ?_ ?_
        rotate_left
        ·show Act.put _ (some 28) _ = _
         simp only [Act.put, List.setIfInBounds_toArray, List.set_cons_zero, List.set_cons_succ, i64_w, i32_w]
         rfl
        refine q_p 12 (some 29) #[true, true, true, true, true, true, true, true, true, true, true, true, true, false] HT_.out ?_
        refine last_ (i := 13) (N := none) #[true, true, true, true, true, true, true, true, true, true, true, true, true, true] rfl rfl (one_of HT_.out (by kernel_rfl)) (by decide) (fun K hK => ?_)
        refine skip_ (w1 := ?_) (by rfl) rfl ?_ ?_
        rotate_left
        ·go_simp
         rfl
        refine hK.out _ _ ?_
        clear hK K
        refine done_ (done_of HT_.out (by kernel_rfl)) ?_
        try go_wp2
        go_roundg k1
        case measure => have := HK1.out; omega
        case rel => exact ⟨(wrap64 (x13_1 + 1)), (y229), (.slice (some ⟨go25, 0, none⟩) x223000_1.length co34), q_i, H', ⟨by have := HK1.out; omega⟩, ⟨by (with_reducible repeat (first | apply Kd.S_alloc | apply Kd.S_drewN | apply Kd.S_drew)); exact Kd.S_mono HQ36.out (fun _ hk => ⟨hk.1, ⟨hk.2.1, ⟨hk.2.2.1, ⟨hk.2.2.2.1, hk.2.2.2.2.1⟩⟩⟩⟩)⟩, ⟨by (with_reducible repeat (first | refine blk_drewN ?_ _ | refine blk_drew ?_ | refine blk_alloc ?_ _)); refine blk_far ?_ (by have h_ := Kd.N_away (Kd.S_N HX36.out) (fun _ hk => hk.1.2.1); intro e_; exact h_ (by rw [e_]; rfl)) _; (with_reducible repeat (first | refine blk_drewN ?_ _ | refine blk_drew ?_ | refine blk_alloc ?_ _)); exact BK216.out⟩, ⟨by (with_reducible repeat (first | refine blk_drewN ?_ _ | refine blk_drew ?_ | refine blk_alloc ?_ _)); refine blk_far ?_ (by have h_ := Kd.N_away (Kd.S_N HX36.out) (fun _ hk => hk.1.2.2.1); intro e_; exact h_ (by rw [e_]; rfl)) _; (with_reducible repeat (first | refine blk_drewN ?_ _ | refine blk_drew ?_ | refine blk_alloc ?_ _)); exact BK217.out⟩, ⟨by (with_reducible repeat (first | refine blk_drewN ?_ _ | refine blk_drew ?_ | refine blk_alloc ?_ _)); refine blk_far ?_ (by have h_ := Kd.N_away (Kd.S_N HX36.out) (fun _ hk => hk.1.2.2.2.1); intro e_; exact h_ (by rw [e_]; rfl)) _; (with_reducible repeat (first | refine blk_drewN ?_ _ | refine blk_drew ?_ | refine blk_alloc ?_ _)); exact BK218.out⟩, ⟨by (with_reducible repeat (first | refine blk_drewN ?_ _ | refine blk_drew ?_ | refine blk_alloc ?_ _)); refine blk_far ?_ (by have h_ := Kd.N_away (Kd.S_N HX36.out) (fun _ hk => hk.1.2.2.2.2.1); intro e_; exact h_ (by rw [e_]; rfl)) _; (with_reducible repeat (first | refine blk_drewN ?_ _ | refine blk_drew ?_ | refine blk_alloc ?_ _)); exact BK222.out⟩, ⟨bq⟩⟩
       ·rw [if_neg c23] at H
        exact absurd H (by simp)
      ·rw [if_neg c22] at H
       exact absurd H (by simp)
     ·rw [if_neg c21] at H
      exact absurd H (by simp)
    ·rw [if_neg c20] at H
     exact absurd H (by simp)
   ·rw [if_neg c19] at H
    have c19b0 := decide_eq_false c19
    clear c19
    obtain rfl := Option.some.inj H
    have hnb37 := NB222_216.out
    have hnc37 := NB216_222.out
    have hnb38 := NB222_217.out
    have hnc38 := NB217_222.out
    have hnb39 := NB222_218.out
    have hnc39 := NB218_222.out
    obtain ⟨hcz40_0, hfz40_0⟩ := q_1 BK222.out
    obtain ⟨Ao41, co41, eo41⟩ := Kd.N_slice (Kd.S_N HO_223000.out)
    subst eo41
    have hnb42 := NB218_216.out
    have hnc42 := NB216_218.out
    have hnb43 := NB218_217.out
    have hnc43 := NB217_218.out
    obtain ⟨hcz44_0, hfz44_0⟩ := q_1 BK218.out
    go_wp2
    refine bodyPost_ret (results_cell_row rfl _ _ gb218 26 #[.slice Ao41 x223000_1.length co41] (0, 0) _ rfl (by (with_reducible repeat (first | refine blk_drewN ?_ _ | refine blk_drew ?_ | refine blk_alloc ?_ _)); refine blk_put (cs := #[.slice none 0 0]) ?_ 0 _ rfl; (with_reducible repeat (first | refine blk_drewN ?_ _ | refine blk_drew ?_ | refine blk_alloc ?_ _)); exact BK218.out) Try.underlying26 rfl (by kernel_rfl)) rfl ?_
    exact ⟨_, q_e, by (with_reducible repeat (first | apply Kd.S_alloc | apply Kd.S_drewN | apply Kd.S_drew)); exact Kd.S_mono (Kd.S_far (p := ⟨gb218, 0, none⟩) (Kd.S_mono HO_223000.out (fun k_ hk => (⟨hk, hk.2.2.2.1⟩ : _ ∧ k_ ≠ gb218))) (fun _ hk => hk.2) (.slice Ao41 x223000_1.length co41)) (fun _ _ => trivial), bq⟩

/-! ### impl_SettleOne: function 18 -/
def impl_SettleOne.f (k : Nat) (l0_0 : List (List (S104))) (a1_0 : Int) (l1_1 : List (S86)) : Option (Int × (List (List (S104)))) := (impl_CanSettle.f k l0_0 a1_0 l1_1).bind fun t233 => (if t233 = 0 then ((impl_settled.f k l0_0 a1_0 l1_1).bind fun t234 => (some (0, t234))) else (some (t233, ([] : List (List (S104))))))
set_option maxHeartbeats 8000000 in
set_option maxRecDepth 100000 in
theorem impl_SettleOne.calls (k : Nat) (A0_0 : Option Addr) (c0_0 : Nat) (l0_0 : List (List (S104))) (a1_0 : Int) (A1_1 : Option Addr) (c1_1 : Nat) (l1_1 : List (S86)) (r1 : Int) (r2 : List (List (S104))) (w : World) (hr0_0 : Kd.C (Kd.slice 104 k104) w A0_0 l0_0.length l0_0) (hc0_0 : l0_0.length ≤ c0_0) (hr1_1 : Kd.C k86 w A1_1 l1_1.length l1_1) (hc1_1 : l1_1.length ≤ c1_1) (h : impl_SettleOne.f k l0_0 a1_0 l1_1 = some (r1, r2)) :
  Calls Try.prog 18 #[.agg #[.slice A0_0 l0_0.length c0_0], .agg #[.int .i64 a1_0, .slice A1_1 l1_1.length c1_1]] w fun e w' => ∃ v1_ : Value, e = .returned (.agg #[.int .i64 r1, v1_]) ∧ Kd.S (Kd.slice 104 k104) 64 w' w.heap.size (fun _ => True) v1_ r2 ∧ Below w.heap.size w w' := by
 have hu26 := Try.underlying26
 have hu40 := Try.underlying40
 have hu36 := Try.underlying36
 have HR0_0 := Aside0.mk hr0_0
 have HC0_0 := Aside0.mk hc0_0
 clear hr0_0 hc0_0
 have HR1_1 := Aside0.mk hr1_1
 have HC1_1 := Aside0.mk hc1_1
 clear hr1_1 hc1_1
 have HB := Aside0.mk (Below.refl w.heap.size w)
 have H : ((impl_CanSettle.f k l0_0 a1_0 l1_1).bind fun t233 => (if t233 = 0 then ((impl_settled.f k l0_0 a1_0 l1_1).bind fun t234 => (some (0, t234))) else (some (t233, ([] : List (List (S104))))))) = some (r1, r2) := h
 clear h
 replace H := Option.bind_eq_some_iff.mp H
 obtain ⟨t233, A30, H⟩ := H
 replace H : (if t233 = 0 then ((impl_settled.f k l0_0 a1_0 l1_1).bind fun t234 => (some (0, t234))) else (some (t233, ([] : List (List (S104)))))) = some (r1, r2) := H
 have A3 := Aside0.mk A30
 clear A30
 by_cases c4 : t233 = 0
 ·rw [if_pos c4] at H
  have c4b0 : (t233 == 0) = true := beq_iff_eq.mpr c4
  have c4b1 : (t233 != 0) = false := bne_eq_false_iff_eq.mpr c4
  clear c4
  replace H := Option.bind_eq_some_iff.mp H
  obtain ⟨t234, A50, H⟩ := H
  replace H : (some (0, t234)) = some (r1, r2) := H
  have A5 := Aside0.mk A50
  clear A50
  simp only [Option.some.injEq, Prod.mk.injEq] at H
  obtain ⟨rfl, rfl⟩ := H
  go_enter Try.func18, Try.ntmps18
  go_wp2_with (first | ((with_reducible refine gate_dst (N := 2) rfl ?_); refine q_box (N := 2) (cs := #[.slice A0_0 l0_0.length c0_0]) (t := 26) ?_; intro gb230 hg w6 hbox hb; have n0_ := Aside0.mk (below_step bq hb); have n1_ := Aside0.mk (hbox); have n2_ := Aside0.mk ((q_g hg bq : w.heap.size ≤ gb230)); have n3_ := Aside0.mk ((q_g hg bq : w.heap.size ≤ gb230)); revert n0_ n1_ n2_ n3_; clear HB; intro HB BK230 GW230 GE230; clear hb hbox hg) | ((with_reducible refine gate_dst (N := 3) rfl ?_); refine q_box (N := 3) (cs := #[.int .i64 a1_0, .slice A1_1 l1_1.length c1_1]) (t := 40) ?_; intro gb231 hg w7 hbox hb; have n0_ := Aside0.mk (blk_below (q_b BK230.out) hb); have n1_ := Aside0.mk (below_step bq hb); have n2_ := Aside0.mk (hbox); have n3_ := Aside0.mk ((q_g hg bq : w.heap.size ≤ gb231)); have n4_ := Aside0.mk ((q_g hg bq : w.heap.size ≤ gb231)); have n5_ := Aside0.mk ((q_n hg (q_b BK230.out) : gb230 ≠ gb231)); have n6_ := Aside0.mk ((q_m hg (q_b BK230.out) : gb231 ≠ gb230)); revert n0_ n1_ n2_ n3_ n4_ n5_ n6_; clear BK230 HB; intro BK230 HB BK231 GW231 GE231 NB230_231 NB231_230; clear hb hbox hg) | ((with_reducible refine gate_dst (N := 4) rfl ?_); refine q_box (N := 4) (cs := #[.int .i64 0, .slice none 0 0]) (t := 36) ?_; intro gb232 hg w8 hbox hb; have n0_ := Aside0.mk (blk_below (q_b BK230.out) hb); have n1_ := Aside0.mk (blk_below (q_b BK231.out) hb); have n2_ := Aside0.mk (below_step bq hb); have n3_ := Aside0.mk (hbox); have n4_ := Aside0.mk ((q_g hg bq : w.heap.size ≤ gb232)); have n5_ := Aside0.mk ((q_g hg bq : w.heap.size ≤ gb232)); have n6_ := Aside0.mk ((q_n hg (q_b BK230.out) : gb230 ≠ gb232)); have n7_ := Aside0.mk ((q_m hg (q_b BK230.out) : gb232 ≠ gb230)); have n8_ := Aside0.mk ((q_n hg (q_b BK231.out) : gb231 ≠ gb232)); have n9_ := Aside0.mk ((q_m hg (q_b BK231.out) : gb232 ≠ gb231)); revert n0_ n1_ n2_ n3_ n4_ n5_ n6_ n7_ n8_ n9_; clear BK230 BK231 HB; intro BK230 BK231 HB BK232 GW232 GE232 NB230_232 NB232_230 NB231_232 NB232_231; clear hb hbox hg; have hnb9 := NB230_231.out; have hnc9 := NB231_230.out; have hnb10 := NB230_232.out; have hnc10 := NB232_230.out; obtain ⟨hcz11_0, hfz11_0⟩ := q_1 BK230.out; have hnb12 := NB231_232.out; have hnc12 := NB232_231.out; obtain ⟨hcz13_0, hcz13_1, hfz13_0, hfz13_1⟩ := q_2 BK231.out) | ((with_reducible refine gate_callee (f := 52) rfl ?_); refine goesLq (some 8) rfl rfl Try.func52 (by kernel_rfl) rfl #[.agg #[.slice A0_0 l0_0.length c0_0], .agg #[.int .i64 a1_0, .slice A1_1 l1_1.length c1_1]] rfl ?_; (with_reducible refine (impl_CanSettle.calls k _ _ l0_0 a1_0 _ _ l1_1 t233 _ ?side1 ?side2 ?side3 ?side4 A3.out).mono ?_); (case side1 => exact q_c ((Kd.C_below HR0_0.out HB.out))); (case side2 => exact HC0_0.out); (case side3 => exact q_c ((Kd.C_below HR1_1.out HB.out))); (case side4 => exact HC1_1.out); rintro e w14 ⟨rfl, hb⟩; refine ⟨_, rfl, ?_⟩; have n0_ := Aside0.mk (blk_below (q_b BK230.out) hb); have n1_ := Aside0.mk (blk_below (q_b BK231.out) hb); have n2_ := Aside0.mk (blk_below (q_b BK232.out) hb); have n3_ := Aside0.mk (below_step bq hb); revert n0_ n1_ n2_ n3_; clear BK230 BK231 BK232 HB; intro BK230 BK231 BK232 HB; (try clear hb); (try clear hb2); (try clear hk); (try clear hi); obtain ⟨hcz15_0, hfz15_0⟩ := q_1 BK230.out; obtain ⟨hcz16_0, hcz16_1, hfz16_0, hfz16_1⟩ := q_2 BK231.out) | ((with_reducible refine gate_callee (f := 62) rfl ?_); refine goesLq (some 15) rfl rfl Try.func62 (by kernel_rfl) rfl #[.agg #[.slice A0_0 l0_0.length c0_0], .agg #[.int .i64 a1_0, .slice A1_1 l1_1.length c1_1]] rfl ?_; (with_reducible refine (impl_settled.calls k _ _ l0_0 a1_0 _ _ l1_1 t234 _ ?side1 ?side2 ?side3 ?side4 A5.out).mono ?_); (case side1 => exact q_c ((Kd.C_below HR0_0.out HB.out))); (case side2 => exact HC0_0.out); (case side3 => exact q_c ((Kd.C_below HR1_1.out HB.out))); (case side4 => exact HC1_1.out); rintro e w17 ⟨v235, rfl, ho0, hb⟩; refine ⟨_, rfl, ?_⟩; have n0_ := Aside0.mk (Kd.S_lower ho0 (below_size bq)); have n1_ := Aside0.mk (blk_below (q_b BK230.out) hb); have n2_ := Aside0.mk (blk_below (q_b BK231.out) hb); have n3_ := Aside0.mk (blk_below (q_b BK232.out) hb); have n4_ := Aside0.mk (below_step bq hb); revert n0_ n1_ n2_ n3_ n4_; clear BK230 BK231 BK232 HB; intro HO236 BK230 BK231 BK232 HB; (try clear hb); (try clear hb2); (try clear hk); (try clear hi); (try clear ho0); obtain ⟨Ao18, co18, eo18⟩ := Kd.S_slice HO236.out; subst eo18; obtain ⟨hcz19_0, hcz19_1, hfz19_0, hfz19_1⟩ := q_2 BK232.out))
  refine bodyPost_ret (results_cell_row rfl _ _ gb232 36 #[.int .i64 0, .slice Ao18 t234.length co18] (0, 0) _ rfl (by (with_reducible repeat (first | refine blk_drewN ?_ _ | refine blk_drew ?_ | refine blk_alloc ?_ _)); refine blk_put (cs := #[.int .i64 0, .slice none 0 0]) ?_ 1 _ rfl; (with_reducible repeat (first | refine blk_drewN ?_ _ | refine blk_drew ?_ | refine blk_alloc ?_ _)); refine blk_put (cs := #[.int .i64 0, .slice none 0 0]) ?_ 0 _ rfl; (with_reducible repeat (first | refine blk_drewN ?_ _ | refine blk_drew ?_ | refine blk_alloc ?_ _)); exact BK232.out) Try.underlying36 rfl (by kernel_rfl)) rfl ?_
  exact ⟨_, q_e, by (with_reducible repeat (first | apply Kd.S_alloc | apply Kd.S_drewN | apply Kd.S_drew)); exact Kd.S_mono (Kd.S_far (p := ⟨gb232, 1, none⟩) (Kd.S_far (p := ⟨gb232, 0, none⟩) (Kd.S_types HO236.out BK232.out (by decide)) (fun _ hk => hk.2) (.int .i64 0)) (fun _ hk => hk.2) (.slice Ao18 t234.length co18)) (fun _ hk => trivial), bq⟩
 ·rw [if_neg c4] at H
  have c4b0 : (t233 == 0) = false := beq_eq_false_iff_ne.mpr c4
  have c4b1 : (t233 != 0) = true := bne_iff_ne.mpr c4
  simp only [Option.some.injEq, Prod.mk.injEq] at H
  obtain ⟨rfl, rfl⟩ := H
  go_enter Try.func18, Try.ntmps18
  go_wp2_with (first | ((with_reducible refine gate_dst (N := 2) rfl ?_); refine q_box (N := 2) (cs := #[.slice A0_0 l0_0.length c0_0]) (t := 26) ?_; intro gb230 hg w20 hbox hb; have n0_ := Aside0.mk (below_step bq hb); have n1_ := Aside0.mk (hbox); have n2_ := Aside0.mk ((q_g hg bq : w.heap.size ≤ gb230)); have n3_ := Aside0.mk ((q_g hg bq : w.heap.size ≤ gb230)); revert n0_ n1_ n2_ n3_; clear HB; intro HB BK230 GW230 GE230; clear hb hbox hg) | ((with_reducible refine gate_dst (N := 3) rfl ?_); refine q_box (N := 3) (cs := #[.int .i64 a1_0, .slice A1_1 l1_1.length c1_1]) (t := 40) ?_; intro gb231 hg w21 hbox hb; have n0_ := Aside0.mk (blk_below (q_b BK230.out) hb); have n1_ := Aside0.mk (below_step bq hb); have n2_ := Aside0.mk (hbox); have n3_ := Aside0.mk ((q_g hg bq : w.heap.size ≤ gb231)); have n4_ := Aside0.mk ((q_g hg bq : w.heap.size ≤ gb231)); have n5_ := Aside0.mk ((q_n hg (q_b BK230.out) : gb230 ≠ gb231)); have n6_ := Aside0.mk ((q_m hg (q_b BK230.out) : gb231 ≠ gb230)); revert n0_ n1_ n2_ n3_ n4_ n5_ n6_; clear BK230 HB; intro BK230 HB BK231 GW231 GE231 NB230_231 NB231_230; clear hb hbox hg) | ((with_reducible refine gate_dst (N := 4) rfl ?_); refine q_box (N := 4) (cs := #[.int .i64 0, .slice none 0 0]) (t := 36) ?_; intro gb232 hg w22 hbox hb; have n0_ := Aside0.mk (blk_below (q_b BK230.out) hb); have n1_ := Aside0.mk (blk_below (q_b BK231.out) hb); have n2_ := Aside0.mk (below_step bq hb); have n3_ := Aside0.mk (hbox); have n4_ := Aside0.mk ((q_g hg bq : w.heap.size ≤ gb232)); have n5_ := Aside0.mk ((q_g hg bq : w.heap.size ≤ gb232)); have n6_ := Aside0.mk ((q_n hg (q_b BK230.out) : gb230 ≠ gb232)); have n7_ := Aside0.mk ((q_m hg (q_b BK230.out) : gb232 ≠ gb230)); have n8_ := Aside0.mk ((q_n hg (q_b BK231.out) : gb231 ≠ gb232)); have n9_ := Aside0.mk ((q_m hg (q_b BK231.out) : gb232 ≠ gb231)); revert n0_ n1_ n2_ n3_ n4_ n5_ n6_ n7_ n8_ n9_; clear BK230 BK231 HB; intro BK230 BK231 HB BK232 GW232 GE232 NB230_232 NB232_230 NB231_232 NB232_231; clear hb hbox hg; have hnb23 := NB230_231.out; have hnc23 := NB231_230.out; have hnb24 := NB230_232.out; have hnc24 := NB232_230.out; obtain ⟨hcz25_0, hfz25_0⟩ := q_1 BK230.out; have hnb26 := NB231_232.out; have hnc26 := NB232_231.out; obtain ⟨hcz27_0, hcz27_1, hfz27_0, hfz27_1⟩ := q_2 BK231.out) | ((with_reducible refine gate_callee (f := 52) rfl ?_); refine goesLq (some 8) rfl rfl Try.func52 (by kernel_rfl) rfl #[.agg #[.slice A0_0 l0_0.length c0_0], .agg #[.int .i64 a1_0, .slice A1_1 l1_1.length c1_1]] rfl ?_; (with_reducible refine (impl_CanSettle.calls k _ _ l0_0 a1_0 _ _ l1_1 t233 _ ?side1 ?side2 ?side3 ?side4 A3.out).mono ?_); (case side1 => exact q_c ((Kd.C_below HR0_0.out HB.out))); (case side2 => exact HC0_0.out); (case side3 => exact q_c ((Kd.C_below HR1_1.out HB.out))); (case side4 => exact HC1_1.out); rintro e w28 ⟨rfl, hb⟩; refine ⟨_, rfl, ?_⟩; have n0_ := Aside0.mk (blk_below (q_b BK230.out) hb); have n1_ := Aside0.mk (blk_below (q_b BK231.out) hb); have n2_ := Aside0.mk (blk_below (q_b BK232.out) hb); have n3_ := Aside0.mk (below_step bq hb); revert n0_ n1_ n2_ n3_; clear BK230 BK231 BK232 HB; intro BK230 BK231 BK232 HB; (try clear hb); (try clear hb2); (try clear hk); (try clear hi); obtain ⟨hcz29_0, hcz29_1, hfz29_0, hfz29_1⟩ := q_2 BK232.out))
  refine bodyPost_ret (results_cell_row rfl _ _ gb232 36 #[.int .i64 t233, .slice none 0 0] (0, 0) _ rfl (by (with_reducible repeat (first | refine blk_drewN ?_ _ | refine blk_drew ?_ | refine blk_alloc ?_ _)); refine blk_put (cs := #[.int .i64 t233, .slice none 0 0]) ?_ 1 _ rfl; (with_reducible repeat (first | refine blk_drewN ?_ _ | refine blk_drew ?_ | refine blk_alloc ?_ _)); refine blk_put (cs := #[.int .i64 0, .slice none 0 0]) ?_ 0 _ rfl; (with_reducible repeat (first | refine blk_drewN ?_ _ | refine blk_drew ?_ | refine blk_alloc ?_ _)); exact BK232.out) Try.underlying36 rfl (by kernel_rfl)) rfl ?_
  exact ⟨_, q_e, by first | exact Kd.S_nil _ _ _ _ _ | exact Kd.N_nil _ _ _ _ _ | exact Kd.V_nil _ _ _ _ _ | exact Kd.Q_nil _ _ _ _ _ | exact Kd.R_nil _ _ _ _ _, bq⟩

/-! ### laws_szBalanceS: function 33 -/
def laws_szBalanceS.f (l0 : List (S115)) (a1 : Int) : Option (Int) := if (wrap64 (a1 - (l0.length : Int))) < 0 then (some (-1)) else (some (wrap64 (a1 - (l0.length : Int))))
set_option maxHeartbeats 8000000 in
set_option maxRecDepth 100000 in
theorem laws_szBalanceS.calls (A0 : Option Addr) (c0 : Nat) (l0 : List (S115)) (a1 : Int) (r : Int) (w : World) (hr0 : Kd.C k115 w A0 l0.length l0) (hc0 : l0.length ≤ c0) (h : laws_szBalanceS.f l0 a1 = some r) :
  Calls Try.prog 33 #[.slice A0 l0.length c0, .int .i64 a1] w fun e w' => e = .returned (.int .i64 r) ∧ Drawn0 w w' := by
 have HR0 := Aside0.mk hr0
 have HC0 := Aside0.mk hc0
 clear hr0 hc0
 have H : (if (wrap64 (a1 - (l0.length : Int))) < 0 then (some (-1)) else (some (wrap64 (a1 - (l0.length : Int))))) = some r := h
 clear h
 by_cases c3 : (wrap64 (a1 - (l0.length : Int))) < 0
 ·rw [if_pos c3] at H
  have c3b0 := decide_eq_true c3
  clear c3
  obtain rfl := Option.some.inj H
  go_enter Try.func33, Try.ntmps33
  go_wp2
  go_ret
  exact ⟨by first | rfl | (simp; done) | (simp [*]; done), q_0⟩
 ·rw [if_neg c3] at H
  have c3b0 := decide_eq_false c3
  clear c3
  obtain rfl := Option.some.inj H
  go_enter Try.func33, Try.ntmps33
  go_wp2
  go_ret
  exact ⟨by first | rfl | (simp; done) | (simp [*]; done), q_0⟩

/-! ### laws_szBalanceSS: function 71 -/
def laws_szBalanceSS.l0 : Nat → List (List (S115)) → Int → Int → Option (Int)
  | 0, _, _, _ => none
  | k + 1, x0, x1, x5 => if x5 < (x0.length : Int) then (if 0 ≤ x5 then ((laws_szBalanceS.f (rd_L5 x0 x5) x1).bind fun t238 => (if t238 < 0 then (some (-1)) else (laws_szBalanceSS.l0 k x0 t238 (wrap64 (x5 + 1))))) else (none)) else (some x1)
def laws_szBalanceSS.f (k : Nat) (l0 : List (List (S115))) (a1 : Int) : Option (Int) := if (wrap64 (a1 - (l0.length : Int))) < 0 then (some (-1)) else (laws_szBalanceSS.l0 k l0 (wrap64 (a1 - (l0.length : Int))) 0)
set_option maxHeartbeats 8000000 in
set_option maxRecDepth 100000 in
theorem laws_szBalanceSS.calls (k : Nat) (A0 : Option Addr) (c0 : Nat) (l0 : List (List (S115))) (a1 : Int) (r : Int) (w : World) (hr0 : Kd.C (Kd.slice 115 k115) w A0 l0.length l0) (hc0 : l0.length ≤ c0) (h : laws_szBalanceSS.f k l0 a1 = some r) :
  Calls Try.prog 71 #[.slice A0 l0.length c0, .int .i64 a1] w fun e w' => e = .returned (.int .i64 r) ∧ Drawn0 w w' := by
 have HR0 := Aside0.mk hr0
 have HC0 := Aside0.mk hc0
 clear hr0 hc0
 have H : (if (wrap64 (a1 - (l0.length : Int))) < 0 then (some (-1)) else (laws_szBalanceSS.l0 k l0 (wrap64 (a1 - (l0.length : Int))) 0)) = some r := h
 clear h
 by_cases c3 : (wrap64 (a1 - (l0.length : Int))) < 0
 ·rw [if_pos c3] at H
  have c3b0 := decide_eq_true c3
  clear c3
  obtain rfl := Option.some.inj H
  go_enter Try.func71, Try.ntmps71
  go_wp2
  go_ret
  exact ⟨by first | rfl | (simp; done) | (simp [*]; done), q_0⟩
 ·rw [if_neg c3] at H
  have c3b0 := decide_eq_false c3
  clear c3
  have H' := Aside0.mk H
  clear H
  go_enter Try.func71, Try.ntmps71
  go_wp2
  go_loopg [1, 5] k (fun kq v1 v5 w' => ∃ (x1_1 : Int) (x5_1 : Int), v1 = .int .i64 x1_1 ∧ v5 = .int .i64 x5_1 ∧ Aside0 (laws_szBalanceSS.l0 kq l0 x1_1 x5_1 = some r) ∧ Aside0 (kq ≤ k) ∧ Drawn0 w w')
  case atStart => exact ⟨(wrap64 (a1 - (l0.length : Int))), (0), q_i, q_i, H', ⟨Nat.le_refl _⟩, q_0⟩
  case round =>
   clear H'
   (try clear p2); (try clear c3); (try clear c3b0)
   obtain ⟨x1_1, x5_1, rfl, rfl, HA, HK1, ⟨m1, rfl⟩⟩ := hrel
   cases gk with
   | zero => exact absurd HA.out (by simp [laws_szBalanceSS.l0])
   | succ k1 =>
    have H := HA.out
    clear HA
    simp only [laws_szBalanceSS.l0] at H
    by_cases c4 : x5_1 < (l0.length : Int)
    ·rw [if_pos c4] at H
     have c4b0 := decide_eq_true c4
     clear c4
     by_cases c5 : 0 ≤ x5_1
     ·rw [if_pos c5] at H
      have c5b0 := decide_eq_true c5
      clear c5
      replace H := Option.bind_eq_some_iff.mp H
      obtain ⟨t238, A60, H⟩ := H
      replace H : (if t238 < 0 then (some (-1)) else (laws_szBalanceSS.l0 k1 l0 t238 (wrap64 (x5_1 + 1)))) = some r := H
      have A6 := Aside0.mk A60
      clear A60
      by_cases c7 : t238 < 0
      ·rw [if_pos c7] at H
       have c7b0 := decide_eq_true c7
       clear c7
       obtain rfl := Option.some.inj H
       have p237 : 0 ≤ (x5_1 : Int) := q_d
       have q237 : x5_1 < (l0.length : Int) := q_d
       obtain ⟨ad237, A237_0, c237_0, e237, hx237_0, hl237_0, hi237_0⟩ := at_L5 HR0.out x5_1 p237 q237
       cases e237
       have HR237_0 := Aside0.mk hi237_0
       have HC237_0 := Aside0.mk hl237_0
       clear hi237_0 hl237_0
       replace p237 := eq_true p237
       replace q237 := eq_true q237
       go_wp2_with (first | ((with_reducible refine gate_callee (f := 33) rfl ?_); refine goesLq (some 23) rfl rfl Try.func33 (by kernel_rfl) rfl #[.slice A237_0 (rd_L5 l0 x5_1).length c237_0, .int .i64 x1_1] rfl ?_; (with_reducible refine (laws_szBalanceS.calls _ _ (rd_L5 l0 x5_1) x1_1 t238 _ ?side1 ?side2 A6.out).mono ?_); (case side1 => exact q_c (HR237_0.out)); (case side2 => exact HC237_0.out); rintro e w' ⟨rfl, ⟨nd, rfl⟩⟩; refine ⟨_, rfl, ?_⟩))
       go_ret
       exact ⟨by first | rfl | (simp; done) | (simp [*]; done), q_0⟩
      ·rw [if_neg c7] at H
       have c7b0 := decide_eq_false c7
       clear c7
       have H' := Aside0.mk H
       clear H
       have p237 : 0 ≤ (x5_1 : Int) := q_d
       have q237 : x5_1 < (l0.length : Int) := q_d
       obtain ⟨ad237, A237_0, c237_0, e237, hx237_0, hl237_0, hi237_0⟩ := at_L5 HR0.out x5_1 p237 q237
       cases e237
       have HR237_0 := Aside0.mk hi237_0
       have HC237_0 := Aside0.mk hl237_0
       clear hi237_0 hl237_0
       replace p237 := eq_true p237
       replace q237 := eq_true q237
       go_wp2_with (first | ((with_reducible refine gate_callee (f := 33) rfl ?_); refine goesLq (some 23) rfl rfl Try.func33 (by kernel_rfl) rfl #[.slice A237_0 (rd_L5 l0 x5_1).length c237_0, .int .i64 x1_1] rfl ?_; (with_reducible refine (laws_szBalanceS.calls _ _ (rd_L5 l0 x5_1) x1_1 t238 _ ?side1 ?side2 A6.out).mono ?_); (case side1 => exact q_c (HR237_0.out)); (case side2 => exact HC237_0.out); rintro e w' ⟨rfl, ⟨nd, rfl⟩⟩; refine ⟨_, rfl, ?_⟩))
       go_roundg k1
       case measure => have := HK1.out; omega
       case rel => exact ⟨(t238), (wrap64 (x5_1 + 1)), q_i, q_i, H', ⟨by have := HK1.out; omega⟩, q_0⟩
     ·rw [if_neg c5] at H
      exact absurd H (by simp)
    ·rw [if_neg c4] at H
     have c4b0 := decide_eq_false c4
     clear c4
     obtain rfl := Option.some.inj H
     go_wp2
     go_ret
     exact ⟨by first | rfl | (simp; done) | (simp [*]; done), q_0⟩

/-! ### laws_szLedger: function 21 -/
def laws_szLedger.f (k : Nat) (l0_0 : List (List (S115))) (a1 : Int) : Option (Int) := (laws_szBalanceSS.f k l0_0 a1).bind fun t240 => (if t240 < 0 then (some (-1)) else (some t240))
set_option maxHeartbeats 8000000 in
set_option maxRecDepth 100000 in
theorem laws_szLedger.calls (k : Nat) (A0_0 : Option Addr) (c0_0 : Nat) (l0_0 : List (List (S115))) (a1 : Int) (r : Int) (w : World) (hr0_0 : Kd.C (Kd.slice 115 k115) w A0_0 l0_0.length l0_0) (hc0_0 : l0_0.length ≤ c0_0) (h : laws_szLedger.f k l0_0 a1 = some r) :
  Calls Try.prog 21 #[.agg #[.slice A0_0 l0_0.length c0_0], .int .i64 a1] w fun e w' => e = .returned (.int .i64 r) ∧ Below w.heap.size w w' := by
 have hu47 := Try.underlying47
 have HR0_0 := Aside0.mk hr0_0
 have HC0_0 := Aside0.mk hc0_0
 clear hr0_0 hc0_0
 have HB := Aside0.mk (Below.refl w.heap.size w)
 have H : ((laws_szBalanceSS.f k l0_0 a1).bind fun t240 => (if t240 < 0 then (some (-1)) else (some t240))) = some r := h
 clear h
 replace H := Option.bind_eq_some_iff.mp H
 obtain ⟨t240, A30, H⟩ := H
 replace H : (if t240 < 0 then (some (-1)) else (some t240)) = some r := H
 have A3 := Aside0.mk A30
 clear A30
 by_cases c4 : t240 < 0
 ·rw [if_pos c4] at H
  have c4b0 := decide_eq_true c4
  clear c4
  obtain rfl := Option.some.inj H
  go_enter Try.func21, Try.ntmps21
  go_wp2_with (first | ((with_reducible refine gate_dst (N := 2) rfl ?_); refine q_box (N := 2) (cs := #[.slice A0_0 l0_0.length c0_0]) (t := 47) ?_; intro gb239 hg w5 hbox hb; have n0_ := Aside0.mk (below_step bq hb); have n1_ := Aside0.mk (hbox); have n2_ := Aside0.mk ((q_g hg bq : w.heap.size ≤ gb239)); have n3_ := Aside0.mk ((q_g hg bq : w.heap.size ≤ gb239)); revert n0_ n1_ n2_ n3_; clear HB; intro HB BK239 GW239 GE239; clear hb hbox hg; obtain ⟨hcz6_0, hfz6_0⟩ := q_1 BK239.out) | ((with_reducible refine gate_callee (f := 71) rfl ?_); refine goesLq (some 8) rfl rfl Try.func71 (by kernel_rfl) rfl #[.slice A0_0 l0_0.length c0_0, .int .i64 a1] rfl ?_; (with_reducible refine (laws_szBalanceSS.calls k _ _ l0_0 a1 t240 _ ?side1 ?side2 A3.out).mono ?_); (case side1 => exact q_c ((Kd.C_below HR0_0.out HB.out))); (case side2 => exact HC0_0.out); rintro e w' ⟨rfl, ⟨nd, rfl⟩⟩; refine ⟨_, rfl, ?_⟩))
  go_ret
  exact ⟨q_e, bq⟩
 ·rw [if_neg c4] at H
  have c4b0 := decide_eq_false c4
  clear c4
  obtain rfl := Option.some.inj H
  go_enter Try.func21, Try.ntmps21
  go_wp2_with (first | ((with_reducible refine gate_dst (N := 2) rfl ?_); refine q_box (N := 2) (cs := #[.slice A0_0 l0_0.length c0_0]) (t := 47) ?_; intro gb239 hg w7 hbox hb; have n0_ := Aside0.mk (below_step bq hb); have n1_ := Aside0.mk (hbox); have n2_ := Aside0.mk ((q_g hg bq : w.heap.size ≤ gb239)); have n3_ := Aside0.mk ((q_g hg bq : w.heap.size ≤ gb239)); revert n0_ n1_ n2_ n3_; clear HB; intro HB BK239 GW239 GE239; clear hb hbox hg; obtain ⟨hcz8_0, hfz8_0⟩ := q_1 BK239.out) | ((with_reducible refine gate_callee (f := 71) rfl ?_); refine goesLq (some 8) rfl rfl Try.func71 (by kernel_rfl) rfl #[.slice A0_0 l0_0.length c0_0, .int .i64 a1] rfl ?_; (with_reducible refine (laws_szBalanceSS.calls k _ _ l0_0 a1 t240 _ ?side1 ?side2 A3.out).mono ?_); (case side1 => exact q_c ((Kd.C_below HR0_0.out HB.out))); (case side2 => exact HC0_0.out); rintro e w' ⟨rfl, ⟨nd, rfl⟩⟩; refine ⟨_, rfl, ?_⟩))
  go_ret
  exact ⟨q_e, bq⟩

/-! ### laws_szLegS: function 72 -/
def laws_szLegS.f (l0 : List (S137)) (a1 : Int) : Option (Int) := if (wrap64 (a1 - (l0.length : Int))) < 0 then (some (-1)) else (some (wrap64 (a1 - (l0.length : Int))))
set_option maxHeartbeats 8000000 in
set_option maxRecDepth 100000 in
theorem laws_szLegS.calls (A0 : Option Addr) (c0 : Nat) (l0 : List (S137)) (a1 : Int) (r : Int) (w : World) (hr0 : Kd.C k137 w A0 l0.length l0) (hc0 : l0.length ≤ c0) (h : laws_szLegS.f l0 a1 = some r) :
  Calls Try.prog 72 #[.slice A0 l0.length c0, .int .i64 a1] w fun e w' => e = .returned (.int .i64 r) ∧ Drawn0 w w' := by
 have HR0 := Aside0.mk hr0
 have HC0 := Aside0.mk hc0
 clear hr0 hc0
 have H : (if (wrap64 (a1 - (l0.length : Int))) < 0 then (some (-1)) else (some (wrap64 (a1 - (l0.length : Int))))) = some r := h
 clear h
 by_cases c3 : (wrap64 (a1 - (l0.length : Int))) < 0
 ·rw [if_pos c3] at H
  have c3b0 := decide_eq_true c3
  clear c3
  obtain rfl := Option.some.inj H
  go_enter Try.func72, Try.ntmps72
  go_wp2
  go_ret
  exact ⟨by first | rfl | (simp; done) | (simp [*]; done), q_0⟩
 ·rw [if_neg c3] at H
  have c3b0 := decide_eq_false c3
  clear c3
  obtain rfl := Option.some.inj H
  go_enter Try.func72, Try.ntmps72
  go_wp2
  go_ret
  exact ⟨by first | rfl | (simp; done) | (simp [*]; done), q_0⟩

/-! ### laws_szContract: function 22 -/
def laws_szContract.f (a0_0 : Int) (l0_1 : List (S137)) (a1 : Int) : Option (Int) := (laws_szLegS.f l0_1 a1).bind fun t242 => (if t242 < 0 then (some (-1)) else (some t242))
set_option maxHeartbeats 8000000 in
set_option maxRecDepth 100000 in
theorem laws_szContract.calls (a0_0 : Int) (A0_1 : Option Addr) (c0_1 : Nat) (l0_1 : List (S137)) (a1 : Int) (r : Int) (w : World) (hr0_1 : Kd.C k137 w A0_1 l0_1.length l0_1) (hc0_1 : l0_1.length ≤ c0_1) (h : laws_szContract.f a0_0 l0_1 a1 = some r) :
  Calls Try.prog 22 #[.agg #[.int .i64 a0_0, .slice A0_1 l0_1.length c0_1], .int .i64 a1] w fun e w' => e = .returned (.int .i64 r) ∧ Below w.heap.size w w' := by
 have hu50 := Try.underlying50
 have HR0_1 := Aside0.mk hr0_1
 have HC0_1 := Aside0.mk hc0_1
 clear hr0_1 hc0_1
 have HB := Aside0.mk (Below.refl w.heap.size w)
 have H : ((laws_szLegS.f l0_1 a1).bind fun t242 => (if t242 < 0 then (some (-1)) else (some t242))) = some r := h
 clear h
 replace H := Option.bind_eq_some_iff.mp H
 obtain ⟨t242, A30, H⟩ := H
 replace H : (if t242 < 0 then (some (-1)) else (some t242)) = some r := H
 have A3 := Aside0.mk A30
 clear A30
 by_cases c4 : t242 < 0
 ·rw [if_pos c4] at H
  have c4b0 := decide_eq_true c4
  clear c4
  obtain rfl := Option.some.inj H
  go_enter Try.func22, Try.ntmps22
  go_wp2_with (first | ((with_reducible refine gate_dst (N := 2) rfl ?_); refine q_box (N := 2) (cs := #[.int .i64 a0_0, .slice A0_1 l0_1.length c0_1]) (t := 50) ?_; intro gb241 hg w5 hbox hb; have n0_ := Aside0.mk (below_step bq hb); have n1_ := Aside0.mk (hbox); have n2_ := Aside0.mk ((q_g hg bq : w.heap.size ≤ gb241)); have n3_ := Aside0.mk ((q_g hg bq : w.heap.size ≤ gb241)); revert n0_ n1_ n2_ n3_; clear HB; intro HB BK241 GW241 GE241; clear hb hbox hg; obtain ⟨hcz6_0, hcz6_1, hfz6_0, hfz6_1⟩ := q_2 BK241.out) | ((with_reducible refine gate_callee (f := 72) rfl ?_); refine goesLq (some 8) rfl rfl Try.func72 (by kernel_rfl) rfl #[.slice A0_1 l0_1.length c0_1, .int .i64 a1] rfl ?_; (with_reducible refine (laws_szLegS.calls _ _ l0_1 a1 t242 _ ?side1 ?side2 A3.out).mono ?_); (case side1 => exact q_c ((Kd.C_below HR0_1.out HB.out))); (case side2 => exact HC0_1.out); rintro e w' ⟨rfl, ⟨nd, rfl⟩⟩; refine ⟨_, rfl, ?_⟩))
  go_ret
  exact ⟨q_e, bq⟩
 ·rw [if_neg c4] at H
  have c4b0 := decide_eq_false c4
  clear c4
  obtain rfl := Option.some.inj H
  go_enter Try.func22, Try.ntmps22
  go_wp2_with (first | ((with_reducible refine gate_dst (N := 2) rfl ?_); refine q_box (N := 2) (cs := #[.int .i64 a0_0, .slice A0_1 l0_1.length c0_1]) (t := 50) ?_; intro gb241 hg w7 hbox hb; have n0_ := Aside0.mk (below_step bq hb); have n1_ := Aside0.mk (hbox); have n2_ := Aside0.mk ((q_g hg bq : w.heap.size ≤ gb241)); have n3_ := Aside0.mk ((q_g hg bq : w.heap.size ≤ gb241)); revert n0_ n1_ n2_ n3_; clear HB; intro HB BK241 GW241 GE241; clear hb hbox hg; obtain ⟨hcz8_0, hcz8_1, hfz8_0, hfz8_1⟩ := q_2 BK241.out) | ((with_reducible refine gate_callee (f := 72) rfl ?_); refine goesLq (some 8) rfl rfl Try.func72 (by kernel_rfl) rfl #[.slice A0_1 l0_1.length c0_1, .int .i64 a1] rfl ?_; (with_reducible refine (laws_szLegS.calls _ _ l0_1 a1 t242 _ ?side1 ?side2 A3.out).mono ?_); (case side1 => exact q_c ((Kd.C_below HR0_1.out HB.out))); (case side2 => exact HC0_1.out); rintro e w' ⟨rfl, ⟨nd, rfl⟩⟩; refine ⟨_, rfl, ?_⟩))
  go_ret
  exact ⟨q_e, bq⟩

/-! ### spec_l1In: function 81 -/
def spec_l1In.f (a0 : Int) (a1 : Int) (a2 : Int) : Option (Bool) := if a0 ≥ a1 then (some (decide (a0 ≤ a2))) else (some false)
set_option maxHeartbeats 8000000 in
set_option maxRecDepth 100000 in
theorem spec_l1In.calls (a0 : Int) (a1 : Int) (a2 : Int) (r : Bool) (w : World) (h : spec_l1In.f a0 a1 a2 = some r) :
  Calls Try.prog 81 #[.int .i64 a0, .int .i64 a1, .int .i64 a2] w fun e w' => e = .returned (.bool r) ∧ Drawn0 w w' := by
 have H : (if a0 ≥ a1 then (some (decide (a0 ≤ a2))) else (some false)) = some r := h
 clear h
 by_cases c4 : a0 ≥ a1
 ·rw [if_pos c4] at H
  have c4b0 := decide_eq_true c4
  clear c4
  obtain rfl := Option.some.inj H
  go_enter Try.func81, Try.ntmps81
  go_wp2
  go_ret
  exact ⟨by first | rfl | (simp; done) | (simp [*]; done), q_0⟩
 ·rw [if_neg c4] at H
  have c4b0 := decide_eq_false c4
  clear c4
  obtain rfl := Option.some.inj H
  go_enter Try.func81, Try.ntmps81
  go_wp2
  go_ret
  exact ⟨by first | rfl | (simp; done) | (simp [*]; done), q_0⟩

/-! ### spec_l2Key: function 80 -/
def spec_l2Key.f (a0 : Int) (a1 : Int) : Option (Bool) := (spec_l1In.f a0 0 5).bind fun t243 => (if t243 = true then ((spec_l1In.f a1 0 2).bind fun t244 => (some t244)) else (some false))
set_option maxHeartbeats 8000000 in
set_option maxRecDepth 100000 in
theorem spec_l2Key.calls (a0 : Int) (a1 : Int) (r : Bool) (w : World) (h : spec_l2Key.f a0 a1 = some r) :
  Calls Try.prog 80 #[.int .i64 a0, .int .i64 a1] w fun e w' => e = .returned (.bool r) ∧ Drawn0 w w' := by
 have H : ((spec_l1In.f a0 0 5).bind fun t243 => (if t243 = true then ((spec_l1In.f a1 0 2).bind fun t244 => (some t244)) else (some false))) = some r := h
 clear h
 replace H := Option.bind_eq_some_iff.mp H
 obtain ⟨t243, A30, H⟩ := H
 replace H : (if t243 = true then ((spec_l1In.f a1 0 2).bind fun t244 => (some t244)) else (some false)) = some r := H
 have A3 := Aside0.mk A30
 clear A30
 by_cases c4 : t243 = true
 ·subst c4
  have H1 : ((spec_l1In.f a1 0 2).bind fun t244 => (some t244)) = some r := by rw [if_pos rfl] at H; exact H
  clear H
  have H := H1
  clear H1
  replace H := Option.bind_eq_some_iff.mp H
  obtain ⟨t244, A50, H⟩ := H
  replace H : (some t244) = some r := H
  have A5 := Aside0.mk A50
  clear A50
  obtain rfl := Option.some.inj H
  go_enter Try.func80, Try.ntmps80
  go_wp2_with (first | ((with_reducible refine gate_callee (f := 81) rfl ?_); refine goesLq (some 6) rfl rfl Try.func81 (by kernel_rfl) rfl #[.int .i64 a0, .int .i64 0, .int .i64 5] rfl ?_; (with_reducible refine (spec_l1In.calls a0 0 5 true _ A3.out).mono ?_); rintro e w' ⟨rfl, ⟨nd, rfl⟩⟩; refine ⟨_, rfl, ?_⟩) | (go_at_call 81; (with_reducible refine (spec_l1In.calls a1 0 2 t244 _ A5.out).mono ?_); rintro e w' ⟨rfl, ⟨nd, rfl⟩⟩))
  go_ret
  exact ⟨by first | rfl | (simp; done) | (simp [*]; done), q_0⟩
 ·replace c4 := Bool.eq_false_iff.mpr c4
  subst c4
  have H1 : (some false) = some r := by rw [if_neg (show ¬ (false = true) by decide)] at H; exact H
  clear H
  have H := H1
  clear H1
  obtain rfl := Option.some.inj H
  go_enter Try.func80, Try.ntmps80
  go_wp2_with (first | ((with_reducible refine gate_callee (f := 81) rfl ?_); refine goesLq (some 6) rfl rfl Try.func81 (by kernel_rfl) rfl #[.int .i64 a0, .int .i64 0, .int .i64 5] rfl ?_; (with_reducible refine (spec_l1In.calls a0 0 5 false _ A3.out).mono ?_); rintro e w' ⟨rfl, ⟨nd, rfl⟩⟩; refine ⟨_, rfl, ?_⟩))
  go_ret
  exact ⟨by first | rfl | (simp; done) | (simp [*]; done), q_0⟩

end Go.Proofs.Ytanegggacfmkcaa.PFnExactSettleOne
