/- Functions that a law reaches, as plain Lean functions, with the proof that the machine comes to their answers. No conditions. -/
import Derived.Test.YtanegggacfmkcaaPFnExactSettleAllx0
import Derived.Test.YtanegggacfmkcaaPFnExactSettleAllx2
import Derived.Test.YtanegggacfmkcaaPFnExactSettleAllx3
import Derived.Test.YtanegggacfmkcaaPFnExactSettleAllx6
import Derived.Test.YtanegggacfmkcaaPFnExactSettleAllx8
namespace Go.Proofs.Ytanegggacfmkcaa.PFnExactSettleAll
open Go.RowKit Go.Proofs.YtanegggacfmkcaaW.PrintWords Go.Proofs.YtanegggacfmkcaaW.PrintLast Go.Proofs.YtanegggacfmkcaaW.PrintMore
attribute [local go_sem] max2_int min2_int max_two min_two max_three min_three max_four min_four   -- for this text's walks alone
set_option linter.unusedVariables false
set_option linter.unusedSimpArgs false
set_option maxHeartbeats 8000000
set_option maxRecDepth 100000

/-! ### impl_settled: function 62 -/
def impl_settled.l0 : Nat → List (S86) → Int → Int → List (List (S104)) → Option ((List (List (S104))))
  | 0, _, _, _, _ => none
  | k + 1, x11, x12, x13, x214000 => if x13 < x12 then (if 0 ≤ x13 then (if x13 < (x11.length : Int) then (if 0 ≤ ((rd_T86 x11 x13).f0) then (if ((rd_T86 x11 x13).f0) < (x214000.length : Int) then ((impl_added.f k (rd_L2 x214000 ((rd_T86 x11 x13).f0)) ((rd_T86 x11 x13).f0) ((rd_T86 x11 x13).f1) ((rd_T86 x11 x13).f2) ((rd_T86 x11 x13).f3)).bind fun t217 => (impl_settled.l0 k x11 x12 (wrap64 (x13 + 1)) (x214000.set (((rd_T86 x11 x13).f0) : Int).toNat t217))) else (none)) else (none)) else (none)) else (none)) else (some x214000)
def impl_settled.f (k : Nat) (l0_0 : List (List (S104))) (a1_0 : Int) (l1_1 : List (S86)) : Option ((List (List (S104)))) := (impl_copyLedger.f k l0_0).bind fun t210 => (impl_settled.l0 k l1_1 (l1_1.length : Int) 0 t210)
def impl_settled.T5 : Bool × List (List Nat × List Nat) := (true, [([], []), ([0], [0]), ([], []), ([2], [2]), ([], []), ([4], [4]), ([], []), ([6], [6]), ([5, 7], [5, 7]), ([8], [8]), ([], []), ([9, 10], [9, 10]), ([1, 3, 0, 1, 2, 3, 4, 5, 6, 7, 8, 9, 10, 11], [1, 3]), ([12, 11, 11, 0, 1, 2, 3, 4, 5, 6, 7, 8, 9, 10, 11], [11, 12])])
def impl_settled.B5 : List Nat := [0, 1, 0, 4, 0, 16, 0, 64, 240, 496, 0, 2032, 4095, 8191]
theorem impl_settled.tab5 : rtab .any (opsOf Try.f62 5) = impl_settled.T5 := by kernel_rfl
theorem impl_settled.bits5 : waitsOk impl_settled.T5.2 impl_settled.B5 = true := by kernel_rfl
theorem impl_settled.calls (k : Nat) (A0_0 : Option Addr) (c0_0 : Nat) (l0_0 : List (List (S104))) (a1_0 : Int) (A1_1 : Option Addr) (c1_1 : Nat) (l1_1 : List (S86)) (r : List (List (S104))) (w : World) (hr0_0 : Kd.C (Kd.slice 104 k104) w A0_0 l0_0.length l0_0) (hc0_0 : l0_0.length ≤ c0_0) (hr1_1 : Kd.C k86 w A1_1 l1_1.length l1_1) (hc1_1 : l1_1.length ≤ c1_1) (h : impl_settled.f k l0_0 a1_0 l1_1 = some r) :
  Calls Try.prog 62 #[.agg #[.slice A0_0 l0_0.length c0_0], .agg #[.int .i64 a1_0, .slice A1_1 l1_1.length c1_1]] w fun e w' => ∃ v0_ : Value, e = .returned (.agg #[v0_]) ∧ Kd.S (Kd.slice 104 k104) 64 w' w.heap.size (fun _ => True) v0_ r ∧ Below w.heap.size w w' := by
 have hu26 := Try.underlying26
 have hu40 := Try.underlying40
 have hu86 := Try.underlying86
 have HR0_0 := am hr0_0
 have HC0_0 := am hc0_0
 clear hr0_0 hc0_0
 have HR1_1 := am hr1_1
 have HC1_1 := am hc1_1
 clear hr1_1 hc1_1
 have HB := am (Below.refl w.heap.size w)
 have H : ((impl_copyLedger.f k l0_0).bind fun t210 => (impl_settled.l0 k l1_1 (l1_1.length : Int) 0 t210)) = some r := h
 clear h
 replace H := ob H
 obtain ⟨t210, A30, H⟩ := H
 replace H : (impl_settled.l0 k l1_1 (l1_1.length : Int) 0 t210) = some r := H
 have A3 := am A30
 clear A30
 have H' := am H
 clear H
 go_enter Try.func62, Try.ntmps62
 go_wp2_with (first | ((with_reducible refine gate_dst (N := 2) rfl ?_); refine q_box (N := 2) (cs := #[.slice A0_0 l0_0.length c0_0]) (t := 26) ?_; intro gb207 hg w4 hbox hb; have n0_ := am (below_step bq hb); have n1_ := am (hbox); have n2_ := am ((q_g hg bq : w.heap.size ≤ gb207)); have n3_ := n2_; revert n0_ n1_ n2_ n3_; clear HB; intro HB BK207 GW207 GE207; clear hb hbox hg) | ((with_reducible refine gate_dst (N := 3) rfl ?_); refine q_box (N := 3) (cs := #[.int .i64 a1_0, .slice A1_1 l1_1.length c1_1]) (t := 40) ?_; intro gb208 hg w5 hbox hb; have n0_ := am (blk_below (q_b BK207.out) hb); have n1_ := am (below_step bq hb); have n2_ := am (hbox); have n3_ := am ((q_g hg bq : w.heap.size ≤ gb208)); have n4_ := n3_; have n5_ := am ((q_n hg (q_b BK207.out) : gb207 ≠ gb208)); have n6_ := am n5_.out.symm; revert n0_ n1_ n2_ n3_ n4_ n5_ n6_; clear BK207 HB; intro BK207 HB BK208 GW208 GE208 NB207_208 NB208_207; clear hb hbox hg) | ((with_reducible refine gate_dst (N := 4) rfl ?_); refine q_box (N := 4) (cs := #[.slice none 0 0]) (t := 26) ?_; intro gb209 hg w6 hbox hb; have n0_ := am (blk_below (q_b BK207.out) hb); have n1_ := am (blk_below (q_b BK208.out) hb); have n2_ := am (below_step bq hb); have n3_ := am (hbox); have n4_ := am ((q_g hg bq : w.heap.size ≤ gb209)); have n5_ := n4_; have n6_ := am ((q_n hg (q_b BK207.out) : gb207 ≠ gb209)); have n7_ := am n6_.out.symm; have n8_ := am ((q_n hg (q_b BK208.out) : gb208 ≠ gb209)); have n9_ := am n8_.out.symm; revert n0_ n1_ n2_ n3_ n4_ n5_ n6_ n7_ n8_ n9_; clear BK207 BK208 HB; intro BK207 BK208 HB BK209 GW209 GE209 NB207_209 NB209_207 NB208_209 NB209_208; clear hb hbox hg; have hnb7 := NB207_208.out; have hnc7 := NB208_207.out; have hnb8 := NB207_209.out; have hnc8 := NB209_207.out; obtain ⟨hcz9_0, hfz9_0⟩ := q_1 BK207.out) | ((with_reducible refine gate_callee (f := 60) rfl ?_); refine goesLq (some 9) rfl rfl Try.func60 (by kernel_rfl) rfl #[.agg #[.slice A0_0 l0_0.length c0_0]] rfl ?_; (with_reducible refine (impl_copyLedger.calls k _ _ l0_0 t210 _ ?side1 ?side2 A3.out).mono ?_); (case side1 => exact q_c ((Kd.C_below HR0_0.out HB.out))); (case side2 => exact HC0_0.out); rintro e w10 ⟨v211, rfl, ho0, hb⟩; refine ⟨_, rfl, ?_⟩; have n0_ := am (Kd.S_lower (Kd.S_mono (ok' := fun k_ => (w.heap.size ≤ k_) ∧ k_ ≠ gb207 ∧ k_ ≠ gb208 ∧ k_ ≠ gb209) (Kd.S_bound ho0) (fun k_ hk_ => ⟨(Nat.le_trans (below_size bq) hk_.2.1), (Kd.freshB (q_b BK207.out) k_ hk_.2.1), (Kd.freshB (q_b BK208.out) k_ hk_.2.1), (Kd.freshB (q_b BK209.out) k_ hk_.2.1)⟩)) (below_size bq)); have n1_ := am (blk_below (q_b BK207.out) hb); have n2_ := am (blk_below (q_b BK208.out) hb); have n3_ := am (blk_below (q_b BK209.out) hb); have n4_ := am (below_step bq hb); revert n0_ n1_ n2_ n3_ n4_; clear BK207 BK208 BK209 HB; intro HO212 BK207 BK208 BK209 HB; (try clear hb); (try clear hb2); (try clear hk); (try clear hi); (try clear ho0)) | ((with_reducible refine gate_dst (N := 5) rfl ?_); refine q_box (N := 5) (cs := #[.slice none 0 0]) (t := 26) ?_; intro gb213 hg w11 hbox hb; have n0_ := am (Kd.S_below (Kd.S_elderB (q_s (HO212.out)) gb213 (Nat.le_of_eq hg.symm)) hb); have n1_ := am (blk_below (q_b BK207.out) hb); have n2_ := am (blk_below (q_b BK208.out) hb); have n3_ := am (blk_below (q_b BK209.out) hb); have n4_ := am (below_step bq hb); have n5_ := am (hbox); have n6_ := am ((q_g hg bq : w.heap.size ≤ gb213)); have n7_ := n6_; have n8_ := am ((q_n hg (q_b BK207.out) : gb207 ≠ gb213)); have n9_ := am n8_.out.symm; have n10_ := am ((q_n hg (q_b BK208.out) : gb208 ≠ gb213)); have n11_ := am n10_.out.symm; have n12_ := am ((q_n hg (q_b BK209.out) : gb209 ≠ gb213)); have n13_ := am n12_.out.symm; revert n0_ n1_ n2_ n3_ n4_ n5_ n6_ n7_ n8_ n9_ n10_ n11_ n12_ n13_; clear HO212 BK207 BK208 BK209 HB; intro HO212 BK207 BK208 BK209 HB BK213 GW213 GE213 NB207_213 NB213_207 NB208_213 NB213_208 NB209_213 NB213_209; clear hb hbox hg; obtain ⟨Ao12, co12, eo12⟩ := Kd.N_slice (Kd.S_N HO212.out); subst eo12; have hnb13 := NB213_207.out; have hnc13 := NB207_213.out; have hnb14 := NB213_208.out; have hnc14 := NB208_213.out; have hnb15 := NB213_209.out; have hnc15 := NB209_213.out; obtain ⟨hcz16_0, hfz16_0⟩ := q_1 BK213.out; have hnb17 := NB208_209.out; have hnc17 := NB209_208.out; obtain ⟨hcz18_0, hcz18_1, hfz18_0, hfz18_1⟩ := q_2 BK208.out))
 go_loopg [13] k (fun kq v13 w' => ∃ (x13_1 : Int) (x214000_1 : List (List (S104))) (u214000 : Value), v13 = .int .i64 x13_1 ∧ Aside0 (impl_settled.l0 kq l1_1 (l1_1.length : Int) x13_1 x214000_1 = some r) ∧ Aside0 (kq ≤ k) ∧ Aside0 (Kd.S (Kd.slice 104 k104) 64 w' w.heap.size (fun k_ => (w.heap.size ≤ k_) ∧ k_ ≠ gb207 ∧ k_ ≠ gb208 ∧ k_ ≠ gb209 ∧ k_ ≠ gb213) u214000 x214000_1) ∧ Aside0 (w'.heap[gb207]? = some (.cells #[(.slice A0_0 l0_0.length c0_0)] 26 (0, 0))) ∧ Aside0 (w'.heap[gb208]? = some (.cells #[.int .i64 a1_0, (.slice A1_1 l1_1.length c1_1)] 40 (0, 0))) ∧ Aside0 (w'.heap[gb209]? = some (.cells #[(.slice none 0 0)] 26 (0, 0))) ∧ Aside0 (w'.heap[gb213]? = some (.cells #[u214000] 26 (0, 0))) ∧ Aside0 (Below w.heap.size w w'))
 case atStart => exact ⟨(0), (t210), (.slice Ao12 t210.length co12), q_i, H', ⟨Nat.le_refl _⟩, ⟨by (with_reducible repeat (first | apply Kd.S_alloc | apply Kd.S_drewN | apply Kd.S_drew)); exact Kd.S_mono (Kd.S_far (p := ⟨gb213, 0, none⟩) (Kd.S_mono HO212.out (fun k_ hk => (⟨hk, hk.2⟩ : _ ∧ k_ ≠ gb213))) (fun _ hk => hk.2) (.slice Ao12 t210.length co12)) (fun _ hk => ⟨hk.1.1.1, ⟨hk.1.1.2.1, ⟨hk.1.1.2.2.1, ⟨hk.1.1.2.2.2, hk.1.2⟩⟩⟩⟩)⟩, ⟨by (with_reducible repeat (first | refine blk_drewN ?_ _ | refine blk_drew ?_ | refine blk_alloc ?_ _)); refine blk_far ?_ NB207_213.out _; (with_reducible repeat (first | refine blk_drewN ?_ _ | refine blk_drew ?_ | refine blk_alloc ?_ _)); exact BK207.out⟩, ⟨by (with_reducible repeat (first | refine blk_drewN ?_ _ | refine blk_drew ?_ | refine blk_alloc ?_ _)); refine blk_far ?_ NB208_213.out _; (with_reducible repeat (first | refine blk_drewN ?_ _ | refine blk_drew ?_ | refine blk_alloc ?_ _)); exact BK208.out⟩, ⟨by (with_reducible repeat (first | refine blk_drewN ?_ _ | refine blk_drew ?_ | refine blk_alloc ?_ _)); refine blk_far ?_ NB209_213.out _; (with_reducible repeat (first | refine blk_drewN ?_ _ | refine blk_drew ?_ | refine blk_alloc ?_ _)); exact BK209.out⟩, ⟨by (with_reducible repeat (first | refine blk_drewN ?_ _ | refine blk_drew ?_ | refine blk_alloc ?_ _)); refine blk_put (cs := #[.slice none 0 0]) ?_ 0 _ rfl; (with_reducible repeat (first | refine blk_drewN ?_ _ | refine blk_drew ?_ | refine blk_alloc ?_ _)); exact BK213.out⟩, ⟨bq⟩⟩
 case round =>
  clear H'
  (try clear c1); (try clear p2); (try clear c6); (try clear c7); (try clear c8); (try clear c13); (try clear c14); (try clear c15); (try clear c17); (try clear hcz16_0); (try clear hcz18_0); (try clear hcz18_1)
  (try clear hcz9_0); (try clear hfz16_0); (try clear hfz18_0); (try clear hfz18_1); (try clear hfz9_0)
  obtain ⟨x13_1, x214000_1, u214000, rfl, HA, HK1, HO_214000, BK207, BK208, BK209, BK213, HB⟩ := hrel
  cases gk with
  | zero => exact absurd HA.out (by simp [impl_settled.l0])
  | succ k1 =>
   have H := HA.out
   clear HA
   simp only [impl_settled.l0] at H
   by_cases c19 : x13_1 < (l1_1.length : Int)
   ·rw [if_pos c19] at H
    have c19b0 := decide_eq_true c19
    clear c19
    by_cases c20 : 0 ≤ x13_1
    ·rw [if_pos c20] at H
     have c20b0 := decide_eq_true c20
     clear c20
     by_cases c21 : x13_1 < (l1_1.length : Int)
     ·rw [if_pos c21] at H
      have c21b0 := decide_eq_true c21
      clear c21
      by_cases c22 : 0 ≤ ((rd_T86 l1_1 x13_1).f0)
      ·rw [if_pos c22] at H
       have c22b0 := decide_eq_true c22
       clear c22
       by_cases c23 : ((rd_T86 l1_1 x13_1).f0) < (x214000_1.length : Int)
       ·rw [if_pos c23] at H
        have c23b0 := decide_eq_true c23
        clear c23
        replace H := ob H
        obtain ⟨t217, A240, H⟩ := H
        replace H : (impl_settled.l0 k1 l1_1 (l1_1.length : Int) (wrap64 (x13_1 + 1)) (x214000_1.set (((rd_T86 l1_1 x13_1).f0) : Int).toNat t217)) = some r := H
        have A24 := am A240
        clear A240
        obtain ⟨y220, hy220⟩ : ∃ y_ : List (List (S104)), y_ = (x214000_1.set (((rd_T86 l1_1 x13_1).f0) : Int).toNat t217) := ⟨_, rfl⟩
        replace H : (impl_settled.l0 k1 l1_1 (l1_1.length : Int) (wrap64 (x13_1 + 1)) y220) = some r := q_h hy220 H
        have Ny220 := am hy220
        clear hy220
        have H' := am H
        clear H
        have p214 : 0 ≤ (x13_1 : Int) := q_d
        have q214 : x13_1 < (l1_1.length : Int) := q_d
        obtain ⟨ad214, e214, hx214_0, hx214_1, hx214_2, hx214_3⟩ := at_T86 HR1_1.out x13_1 p214 q214
        cases e214
        replace hx214_0 := q_x HB.out hx214_0
        replace hx214_1 := q_x HB.out hx214_1
        replace hx214_2 := q_x HB.out hx214_2
        replace hx214_3 := q_x HB.out hx214_3
        replace p214 := eq_true p214
        replace q214 := eq_true q214
        try go_wp2_with (first | ((with_reducible refine gate_dst (N := 7) rfl ?_); refine q_box (N := 7) (cs := #[.int .i64 0, .int .i64 0, .int .i64 0, .int .i64 0]) (t := 86) ?_; intro gb215 hg w26 hbox hb; have n0_ := am (Kd.S_below (Kd.S_elderB (q_s (HO_214000.out)) gb215 (Nat.le_of_eq hg.symm)) hb); have n1_ := am (blk_below (q_b BK207.out) hb); have n2_ := am (blk_below (q_b BK208.out) hb); have n3_ := am (blk_below (q_b BK209.out) hb); have n4_ := am (blk_below (q_b BK213.out) hb); have n5_ := am (below_step bq hb); have n6_ := am (hbox); have n7_ := am ((q_g hg bq : w.heap.size ≤ gb215)); have n8_ := n7_; have n9_ := am ((q_n hg (q_b BK207.out) : gb207 ≠ gb215)); have n10_ := am n9_.out.symm; have n11_ := am ((q_n hg (q_b BK208.out) : gb208 ≠ gb215)); have n12_ := am n11_.out.symm; have n13_ := am ((q_n hg (q_b BK209.out) : gb209 ≠ gb215)); have n14_ := am n13_.out.symm; have n15_ := am ((q_n hg (q_b BK213.out) : gb213 ≠ gb215)); have n16_ := am n15_.out.symm; revert n0_ n1_ n2_ n3_ n4_ n5_ n6_ n7_ n8_ n9_ n10_ n11_ n12_ n13_ n14_ n15_ n16_; clear HO_214000 BK207 BK208 BK209 BK213 HB; intro HO_214000 BK207 BK208 BK209 BK213 HB BK215 GW215 GE215 NB207_215 NB215_207 NB208_215 NB215_208 NB209_215 NB215_209 NB213_215 NB215_213; clear hb hbox hg; have hnb27 := NB215_207.out; have hnc27 := NB207_215.out; have hnb28 := NB215_208.out; have hnc28 := NB208_215.out; have hnb29 := NB215_209.out; have hnc29 := NB209_215.out; have hnb30 := NB215_213.out; have hnc30 := NB213_215.out; obtain ⟨hcz31_0, hcz31_1, hcz31_2, hcz31_3, hfz31_0, hfz31_1, hfz31_2, hfz31_3⟩ := q_4 BK215.out))
        have n0_ : Aside0 (Kd.S (Kd.slice 104 k104) 64 ((((w26.setCell ⟨gb215, 0, none⟩ (.int .i64 ((rd_T86 l1_1 x13_1).f0))).setCell ⟨gb215, 1, none⟩ (.int .i64 ((rd_T86 l1_1 x13_1).f1))).setCell ⟨gb215, 2, none⟩ (.int .i64 ((rd_T86 l1_1 x13_1).f2))).setCell ⟨gb215, 3, none⟩ (.int .i64 ((rd_T86 l1_1 x13_1).f3))) w.heap.size (fun k_ => (w.heap.size ≤ k_) ∧ k_ ≠ gb207 ∧ k_ ≠ gb208 ∧ k_ ≠ gb209 ∧ k_ ≠ gb213 ∧ k_ ≠ gb215) u214000 x214000_1) := ⟨by (with_reducible repeat (first | apply Kd.S_alloc | apply Kd.S_drewN | apply Kd.S_drew)); exact Kd.S_mono (Kd.S_far (p := ⟨gb215, 3, none⟩) (Kd.S_far (p := ⟨gb215, 2, none⟩) (Kd.S_far (p := ⟨gb215, 1, none⟩) (Kd.S_far (p := ⟨gb215, 0, none⟩) (Kd.S_mono HO_214000.out (fun k_ hk => (⟨hk, hk.2⟩ : _ ∧ k_ ≠ gb215))) (fun _ hk => hk.2) (.int .i64 ((rd_T86 l1_1 x13_1).f0))) (fun _ hk => hk.2) (.int .i64 ((rd_T86 l1_1 x13_1).f1))) (fun _ hk => hk.2) (.int .i64 ((rd_T86 l1_1 x13_1).f2))) (fun _ hk => hk.2) (.int .i64 ((rd_T86 l1_1 x13_1).f3))) (fun _ hk => ⟨hk.1.1.1, ⟨hk.1.1.2.1, ⟨hk.1.1.2.2.1, ⟨hk.1.1.2.2.2.1, ⟨hk.1.1.2.2.2.2, hk.1.2⟩⟩⟩⟩⟩)⟩
        have n1_ : Aside0 (((((w26.setCell ⟨gb215, 0, none⟩ (.int .i64 ((rd_T86 l1_1 x13_1).f0))).setCell ⟨gb215, 1, none⟩ (.int .i64 ((rd_T86 l1_1 x13_1).f1))).setCell ⟨gb215, 2, none⟩ (.int .i64 ((rd_T86 l1_1 x13_1).f2))).setCell ⟨gb215, 3, none⟩ (.int .i64 ((rd_T86 l1_1 x13_1).f3))).heap[gb207]? = some (.cells #[.slice A0_0 l0_0.length c0_0] 26 (0, 0))) := ⟨by (with_reducible repeat (first | refine blk_drewN ?_ _ | refine blk_drew ?_ | refine blk_alloc ?_ _)); refine blk_far ?_ NB207_215.out _; (with_reducible repeat (first | refine blk_drewN ?_ _ | refine blk_drew ?_ | refine blk_alloc ?_ _)); refine blk_far ?_ NB207_215.out _; (with_reducible repeat (first | refine blk_drewN ?_ _ | refine blk_drew ?_ | refine blk_alloc ?_ _)); refine blk_far ?_ NB207_215.out _; (with_reducible repeat (first | refine blk_drewN ?_ _ | refine blk_drew ?_ | refine blk_alloc ?_ _)); refine blk_far ?_ NB207_215.out _; (with_reducible repeat (first | refine blk_drewN ?_ _ | refine blk_drew ?_ | refine blk_alloc ?_ _)); exact BK207.out⟩
        have n2_ : Aside0 (((((w26.setCell ⟨gb215, 0, none⟩ (.int .i64 ((rd_T86 l1_1 x13_1).f0))).setCell ⟨gb215, 1, none⟩ (.int .i64 ((rd_T86 l1_1 x13_1).f1))).setCell ⟨gb215, 2, none⟩ (.int .i64 ((rd_T86 l1_1 x13_1).f2))).setCell ⟨gb215, 3, none⟩ (.int .i64 ((rd_T86 l1_1 x13_1).f3))).heap[gb208]? = some (.cells #[.int .i64 a1_0, .slice (some ad214) l1_1.length c1_1] 40 (0, 0))) := ⟨by (with_reducible repeat (first | refine blk_drewN ?_ _ | refine blk_drew ?_ | refine blk_alloc ?_ _)); refine blk_far ?_ NB208_215.out _; (with_reducible repeat (first | refine blk_drewN ?_ _ | refine blk_drew ?_ | refine blk_alloc ?_ _)); refine blk_far ?_ NB208_215.out _; (with_reducible repeat (first | refine blk_drewN ?_ _ | refine blk_drew ?_ | refine blk_alloc ?_ _)); refine blk_far ?_ NB208_215.out _; (with_reducible repeat (first | refine blk_drewN ?_ _ | refine blk_drew ?_ | refine blk_alloc ?_ _)); refine blk_far ?_ NB208_215.out _; (with_reducible repeat (first | refine blk_drewN ?_ _ | refine blk_drew ?_ | refine blk_alloc ?_ _)); exact BK208.out⟩
        have n3_ : Aside0 (((((w26.setCell ⟨gb215, 0, none⟩ (.int .i64 ((rd_T86 l1_1 x13_1).f0))).setCell ⟨gb215, 1, none⟩ (.int .i64 ((rd_T86 l1_1 x13_1).f1))).setCell ⟨gb215, 2, none⟩ (.int .i64 ((rd_T86 l1_1 x13_1).f2))).setCell ⟨gb215, 3, none⟩ (.int .i64 ((rd_T86 l1_1 x13_1).f3))).heap[gb209]? = some (.cells #[.slice none 0 0] 26 (0, 0))) := ⟨by (with_reducible repeat (first | refine blk_drewN ?_ _ | refine blk_drew ?_ | refine blk_alloc ?_ _)); refine blk_far ?_ NB209_215.out _; (with_reducible repeat (first | refine blk_drewN ?_ _ | refine blk_drew ?_ | refine blk_alloc ?_ _)); refine blk_far ?_ NB209_215.out _; (with_reducible repeat (first | refine blk_drewN ?_ _ | refine blk_drew ?_ | refine blk_alloc ?_ _)); refine blk_far ?_ NB209_215.out _; (with_reducible repeat (first | refine blk_drewN ?_ _ | refine blk_drew ?_ | refine blk_alloc ?_ _)); refine blk_far ?_ NB209_215.out _; (with_reducible repeat (first | refine blk_drewN ?_ _ | refine blk_drew ?_ | refine blk_alloc ?_ _)); exact BK209.out⟩
        have n4_ : Aside0 (((((w26.setCell ⟨gb215, 0, none⟩ (.int .i64 ((rd_T86 l1_1 x13_1).f0))).setCell ⟨gb215, 1, none⟩ (.int .i64 ((rd_T86 l1_1 x13_1).f1))).setCell ⟨gb215, 2, none⟩ (.int .i64 ((rd_T86 l1_1 x13_1).f2))).setCell ⟨gb215, 3, none⟩ (.int .i64 ((rd_T86 l1_1 x13_1).f3))).heap[gb213]? = some (.cells #[u214000] 26 (0, 0))) := ⟨by (with_reducible repeat (first | refine blk_drewN ?_ _ | refine blk_drew ?_ | refine blk_alloc ?_ _)); refine blk_far ?_ NB213_215.out _; (with_reducible repeat (first | refine blk_drewN ?_ _ | refine blk_drew ?_ | refine blk_alloc ?_ _)); refine blk_far ?_ NB213_215.out _; (with_reducible repeat (first | refine blk_drewN ?_ _ | refine blk_drew ?_ | refine blk_alloc ?_ _)); refine blk_far ?_ NB213_215.out _; (with_reducible repeat (first | refine blk_drewN ?_ _ | refine blk_drew ?_ | refine blk_alloc ?_ _)); refine blk_far ?_ NB213_215.out _; (with_reducible repeat (first | refine blk_drewN ?_ _ | refine blk_drew ?_ | refine blk_alloc ?_ _)); exact BK213.out⟩
        have n5_ : Aside0 (((((w26.setCell ⟨gb215, 0, none⟩ (.int .i64 ((rd_T86 l1_1 x13_1).f0))).setCell ⟨gb215, 1, none⟩ (.int .i64 ((rd_T86 l1_1 x13_1).f1))).setCell ⟨gb215, 2, none⟩ (.int .i64 ((rd_T86 l1_1 x13_1).f2))).setCell ⟨gb215, 3, none⟩ (.int .i64 ((rd_T86 l1_1 x13_1).f3))).heap[gb215]? = some (.cells #[.int .i64 ((rd_T86 l1_1 x13_1).f0), .int .i64 ((rd_T86 l1_1 x13_1).f1), .int .i64 ((rd_T86 l1_1 x13_1).f2), .int .i64 ((rd_T86 l1_1 x13_1).f3)] 86 (0, 0))) := ⟨by (with_reducible repeat (first | refine blk_drewN ?_ _ | refine blk_drew ?_ | refine blk_alloc ?_ _)); refine blk_put (cs := #[.int .i64 ((rd_T86 l1_1 x13_1).f0), .int .i64 ((rd_T86 l1_1 x13_1).f1), .int .i64 ((rd_T86 l1_1 x13_1).f2), .int .i64 0]) ?_ 3 _ rfl; (with_reducible repeat (first | refine blk_drewN ?_ _ | refine blk_drew ?_ | refine blk_alloc ?_ _)); refine blk_put (cs := #[.int .i64 ((rd_T86 l1_1 x13_1).f0), .int .i64 ((rd_T86 l1_1 x13_1).f1), .int .i64 0, .int .i64 0]) ?_ 2 _ rfl; (with_reducible repeat (first | refine blk_drewN ?_ _ | refine blk_drew ?_ | refine blk_alloc ?_ _)); refine blk_put (cs := #[.int .i64 ((rd_T86 l1_1 x13_1).f0), .int .i64 0, .int .i64 0, .int .i64 0]) ?_ 1 _ rfl; (with_reducible repeat (first | refine blk_drewN ?_ _ | refine blk_drew ?_ | refine blk_alloc ?_ _)); refine blk_put (cs := #[.int .i64 0, .int .i64 0, .int .i64 0, .int .i64 0]) ?_ 0 _ rfl; (with_reducible repeat (first | refine blk_drewN ?_ _ | refine blk_drew ?_ | refine blk_alloc ?_ _)); exact BK215.out⟩
        have n6_ : Aside0 (Below w.heap.size w ((((w26.setCell ⟨gb215, 0, none⟩ (.int .i64 ((rd_T86 l1_1 x13_1).f0))).setCell ⟨gb215, 1, none⟩ (.int .i64 ((rd_T86 l1_1 x13_1).f1))).setCell ⟨gb215, 2, none⟩ (.int .i64 ((rd_T86 l1_1 x13_1).f2))).setCell ⟨gb215, 3, none⟩ (.int .i64 ((rd_T86 l1_1 x13_1).f3)))) := ⟨bq⟩
        (try clear HO_214000)
        (try clear BK207)
        (try clear BK208)
        (try clear BK209)
        (try clear BK213)
        (try clear BK215)
        (try clear HB)
        generalize ((((w26.setCell ⟨gb215, 0, none⟩ (.int .i64 ((rd_T86 l1_1 x13_1).f0))).setCell ⟨gb215, 1, none⟩ (.int .i64 ((rd_T86 l1_1 x13_1).f1))).setCell ⟨gb215, 2, none⟩ (.int .i64 ((rd_T86 l1_1 x13_1).f2))).setCell ⟨gb215, 3, none⟩ (.int .i64 ((rd_T86 l1_1 x13_1).f3))) = w32 at n0_ n1_ n2_ n3_ n4_ n5_ n6_ ⊢
        have HO_214000 := n0_
        have BK207 := n1_
        have BK208 := n2_
        have BK209 := n3_
        have BK213 := n4_
        have BK215 := n5_
        have HB := n6_
        clear n0_ n1_ n2_ n3_ n4_ n5_ n6_
        have n0_ := am (Kd.S_drew HO_214000.out)
        have n1_ := am (blk_drew BK207.out)
        have n2_ := am (blk_drew BK208.out)
        have n3_ := am (blk_drew BK209.out)
        have n4_ := am (blk_drew BK213.out)
        have n5_ := am (blk_drew BK215.out)
        have n6_ := am (below_drew1 HB.out)
        clear HO_214000
        clear BK207
        clear BK208
        clear BK209
        clear BK213
        clear BK215
        clear HB
        have HO_214000 := n0_
        have BK207 := n1_
        have BK208 := n2_
        have BK209 := n3_
        have BK213 := n4_
        have BK215 := n5_
        have HB := n6_
        clear n0_ n1_ n2_ n3_ n4_ n5_ n6_
        obtain ⟨Ao34, co34, eo34⟩ := Kd.N_slice (Kd.S_N HO_214000.out)
        (first | subst eo34 | (injection eo34 with f1_ f2_ f3_; have f4_ := f1_.symm; have f5_ := f3_.symm; clear f1_ f2_ f3_; subst f4_; subst f5_))
        have p216 : 0 ≤ (((rd_T86 l1_1 x13_1).f0) : Int) := q_d
        have q216 : ((rd_T86 l1_1 x13_1).f0) < (x214000_1.length : Int) := q_d
        obtain ⟨ad216, A216_0, c216_0, e216, hx216_0, hl216_0, hi216_0⟩ := at_L2 (Kd.N_reads' (Kd.S_N HO_214000.out)).2.2 ((rd_T86 l1_1 x13_1).f0) p216 q216
        cases e216
        obtain ⟨ce216, hce216, hMe216, hcc216⟩ := Kd.N_get (Kd.S_N HO_214000.out) [] ((rd_T86 l1_1 x13_1).f0) p216 (by first | exact q216 | exact q_d | (have e_ := (Kd.N_reads' (Kd.S_N HO_214000.out)).1; omega))
        obtain ⟨ua216_0, uc216_0, rfl, ul216_0, ge216_0⟩ := Kd.FK_slice_open hMe216
        have hv216_0 := hcc216 0 _ rfl
        rw [Nat.add_zero, show ((Kd.slice 104 k104)).sz = 1 from rfl, Nat.mul_one] at hv216_0
        replace hv216_0 := Option.some.inj (hv216_0.symm.trans hx216_0)
        injection hv216_0 with hva_ hvn_ hvc_
        rw [hva_] at ge216_0
        rw [hvc_] at ul216_0
        have HL216_0 := am (show Kd.V k104 104 _ w.heap.size _ _ (rd_L2 x214000_1 ((rd_T86 l1_1 x13_1).f0)) from Kd.V_mk ul216_0 ge216_0)
        clear hva_ hvn_ hvc_ ge216_0 ul216_0
        clear hcc216 hce216
        have HR216_0 := am hi216_0
        have HC216_0 := am hl216_0
        clear hi216_0 hl216_0
        replace p216 := eq_true p216
        replace q216 := eq_true q216
        refine start_ (n := 14) (S := fun w' => w'.cell? ⟨gb213, 0, none⟩ = some (.slice (some ad216) x214000_1.length co34) ∧ w'.cell? ⟨gb215, 0, none⟩ = some (.int .i64 ((rd_T86 l1_1 x13_1).f0)) ∧ w'.cell? ⟨gb215, 1, none⟩ = some (.int .i64 ((rd_T86 l1_1 x13_1).f1)) ∧ w'.cell? ⟨gb215, 2, none⟩ = some (.int .i64 ((rd_T86 l1_1 x13_1).f2)) ∧ w'.cell? ⟨gb215, 3, none⟩ = some (.int .i64 ((rd_T86 l1_1 x13_1).f3)) ∧ w'.cell? (ad216.add (((rd_T86 l1_1 x13_1).f0)).toNat) = some (.slice A216_0 (rd_L2 x214000_1 ((rd_T86 l1_1 x13_1).f0)).length c216_0)) (ds := [13]) #[false, false, false, false, false, false, false, false, false, false, false, false, false, false] (by kernel_rfl) rfl rfl ⟨q_z BK213.out 0, q_z BK215.out 0, q_z BK215.out 1, q_z BK215.out 2, q_z BK215.out 3, hx216_0⟩ (fun hHeld => ?_); refine with_tabW impl_settled.tab5 impl_settled.bits5 (fun HT_ HW_ => ?_)
        generalize w32.drew = w33 at HO_214000 BK207 BK208 BK209 BK213 BK215 HB HL216_0 HR216_0 hx216_0 hHeld ⊢
        refine q_p 0 (some 17) #[true, false, false, false, false, false, false, false, false, false, false, false, false, false] HT_.out ?_
        refine q_p 2 (some 19) #[true, false, true, false, false, false, false, false, false, false, false, false, false, false] HT_.out ?_
        refine q_p 4 (some 21) #[true, false, true, false, true, false, false, false, false, false, false, false, false, false] HT_.out ?_
        refine q_p 6 (some 23) #[true, false, true, false, true, false, true, false, false, false, false, false, false, false] HT_.out ?_
        refine q_t 1 (some 18) #[true, true, true, false, true, false, true, false, false, false, false, false, false, false] HT_.out HW_.out hHeld ?_
        refine q_t 3 (some 20) #[true, true, true, true, true, false, true, false, false, false, false, false, false, false] HT_.out HW_.out hHeld ?_
        refine q_t 5 (some 22) #[true, true, true, true, true, true, true, false, false, false, false, false, false, false] HT_.out HW_.out hHeld ?_
        refine q_t 7 (some 24) #[true, true, true, true, true, true, true, true, false, false, false, false, false, false] HT_.out HW_.out hHeld ?_
        refine q_p 8 (some 25) #[true, true, true, true, true, true, true, true, true, false, false, false, false, false] HT_.out ?_
        refine q_t 9 (some 26) #[true, true, true, true, true, true, true, true, true, true, false, false, false, false] HT_.out HW_.out hHeld ?_
        refine q_t 10 (some 27) #[true, true, true, true, true, true, true, true, true, true, true, false, false, false] HT_.out HW_.out hHeld ?_
        refine one_ (i := 11) (N := some 28) #[true, true, true, true, true, true, true, true, true, true, true, true, false, false] rfl rfl (one_of HT_.out (by kernel_rfl)) (by decide) (fun K hK => ?_)
        refine goes_ Try.func102 (by kernel_rfl) rfl #[.slice A216_0 (rd_L2 x214000_1 ((rd_T86 l1_1 x13_1).f0)).length c216_0, .agg #[.int .i64 ((rd_T86 l1_1 x13_1).f0), .int .i64 ((rd_T86 l1_1 x13_1).f1), .int .i64 ((rd_T86 l1_1 x13_1).f2), .int .i64 ((rd_T86 l1_1 x13_1).f3)]] (by rfl) rfl rfl (by (try simp only [List.map_toArray, List.map_cons, List.map_nil]); first | done | rfl | (simp only [List.length_drop, List.length_take]; rfl)) ?_
        with_reducible refine (impl_added.calls k1 _ _ (rd_L2 x214000_1 ((rd_T86 l1_1 x13_1).f0)) ((rd_T86 l1_1 x13_1).f0) ((rd_T86 l1_1 x13_1).f1) ((rd_T86 l1_1 x13_1).f2) ((rd_T86 l1_1 x13_1).f3) t217 _ ?side1 ?side2 A24.out).mono ?_
        (case side1 => exact q_c ((by repeat (first | (with_reducible exact HR216_0.out) | (with_reducible refine Kd.C_alloc ?_ _) | (with_reducible refine Kd.C_drewN ?_ _) | (with_reducible refine Kd.C_drew ?_) | exact HR216_0.out))))
        (case side2 => exact HC216_0.out)
        rintro e w35 ⟨v218, rfl, ho0, hb⟩
        have HS5_ := (hb.cell (wb (hHeld.2.2.2.2.2))).trans (hHeld.2.2.2.2.2)
        refine ⟨_, rfl, ?_⟩
        have n0_ := am (Kd.S_elder' (q_s (HO_214000.out)) (Kd.R_base ho0) hb)
        have n1_ := am (Kd.V_elder' (q_v (HL216_0.out)) (Kd.R_base ho0) hb)
        have n2_ := am (Kd.R_lower (Kd.R_newM (M := fun k_ => (w.heap.size ≤ k_)) ho0 (below_size bq) (fun k_ h_ => h_)) (below_size bq))
        have n3_ := am (blk_below (q_b BK207.out) hb)
        have n4_ := am (blk_below (q_b BK208.out) hb)
        have n5_ := am (blk_below (q_b BK209.out) hb)
        have n6_ := am (blk_below (q_b BK213.out) hb)
        have n7_ := am (blk_below (q_b BK215.out) hb)
        have n8_ := am (Kd.C_below (by repeat (first | (with_reducible exact HR216_0.out) | (with_reducible refine Kd.C_alloc ?_ _) | (with_reducible refine Kd.C_drewN ?_ _) | (with_reducible refine Kd.C_drew ?_) | exact HR216_0.out)) hb)
        have n9_ := am (below_step bq hb)
        clear HO_214000
        clear HL216_0
        clear BK207
        clear BK208
        clear BK209
        clear BK213
        clear BK215
        clear HR216_0
        clear HB
        have HO_214000 := n0_
        have HL216_0 := n1_
        have HO219 := n2_
        have BK207 := n3_
        have BK208 := n4_
        have BK209 := n5_
        have BK213 := n6_
        have BK215 := n7_
        have HR216_0 := n8_
        have HB := n9_
        clear n0_ n1_ n2_ n3_ n4_ n5_ n6_ n7_ n8_ n9_
        (try clear hb)
        (try clear hb2)
        (try clear hk)
        (try clear hi)
        (try clear ho0)
        have p25 : 0 ≤ (((rd_T86 l1_1 x13_1).f0) : Int) := q_d
        have q25 : (((rd_T86 l1_1 x13_1).f0) : Int) < ((x214000_1.length : Int) : Int) := q_d
        obtain ⟨go25, co25, eo25, gb25, gl25, cl25, HG25⟩ := Kd.N_form (Kd.S_N HO_214000.out) (by omega)
        (first | cases eo25 | (injection eo25 with ea_ en_ ec_; (first | subst ea_ | (injection ea_ with ea_; subst ea_)); subst ec_; clear en_))
        have GB25 := am gb25
        have GG25 := am HG25
        clear gb25 gl25 HG25
        (first | simp only [add_plain] at hx216_0 | skip)
        obtain ⟨ce25, hcl25, hM25, hcc25, hfr25⟩ := Kd.N_elem (Kd.S_N HO_214000.out) [] (((rd_T86 l1_1 x13_1).f0) : Int) p25 q25
        obtain ⟨ua25_0, uc25_0, rfl, ul25_0, ge25_0⟩ := Kd.FK_slice_open hM25
        have hx25_0 := hcc25 0 _ rfl
        have hf25_0 := hfr25 0
        (try simp only [show ((Kd.slice 104 k104)).sz = 1 from rfl, Nat.mul_one, Nat.add_zero] at hx25_0)
        (try simp only [show ((Kd.slice 104 k104)).sz = 1 from rfl, Nat.mul_one, Nat.add_zero] at hf25_0)
        clear hcl25 hcc25 hfr25; (try clear hM25)
        replace p25 := eq_true p25
        replace q25 := eq_true q25
        obtain ⟨Av218_, cv218_, ev218_⟩ := Kd.R_slice HO219.out
        subst ev218_
        have HX36 := am (show Kd.S (Kd.slice 104 k104) 64 _ w.heap.size (fun k_ => ((w.heap.size ≤ k_) ∧ k_ ≠ gb207 ∧ k_ ≠ gb208 ∧ k_ ≠ gb209 ∧ k_ ≠ gb213 ∧ k_ ≠ gb215) ∧ ¬ (some k_ = ((.slice Av218_ t217.length cv218_) : Value).ownBlock)) (.slice (some ⟨go25, 0, none⟩) x214000_1.length co34) x214000_1 from HO_214000.out)
        obtain ⟨oki36, ce36, hcl36, hM36, hcc36, hfr36, hok36, hH36⟩ := Kd.S_elem HX36.out [] (((rd_T86 l1_1 x13_1).f0) : Int) q_d (by have h_ : (((rd_T86 l1_1 x13_1).f0) : Int) < ((x214000_1.length : Int) : Int) := q_d; first | exact h_ | (have e_ := (Kd.N_reads' (Kd.S_N HO_214000.out)).1; omega) | simpa using h_)
        obtain ⟨va36_, rfl, ge36_0⟩ := hM36
        have HP36 := (Kd.S_seg (ok := fun k_ => (w.heap.size ≤ k_) ∧ k_ ≠ gb207 ∧ k_ ≠ gb208 ∧ k_ ≠ gb209 ∧ k_ ≠ gb213 ∧ k_ ≠ gb215) (okg := fun k_ => some k_ = ((.slice Av218_ t217.length cv218_) : Value).ownBlock) hH36 q_d (by have h_ : (((rd_T86 l1_1 x13_1).f0) : Int) < ((x214000_1.length : Int) : Int) := q_d; first | exact h_ | (have e_ := (Kd.N_reads' (Kd.S_N HO_214000.out)).1; omega) | simpa using h_) (seg := [(.slice Av218_ t217.length cv218_)]) (j := 0) (show 1 ≤ 1 from by decide) (x' := t217) (okp := fun k_ => some k_ = ((.slice Av218_ t217.length cv218_) : Value).ownBlock) (show Kd.M (Kd.slice 104 k104) _ _ _ _ _ from ⟨_, rfl, Kd.R_tight rfl HO219.out⟩) (fun _ hk => .inr hk) (fun k_ hk => ((Kd.R_mono (ok' := (fun k_ => ((fun k_ => (w.heap.size ≤ k_) ∧ k_ ≠ gb207 ∧ k_ ≠ gb208 ∧ k_ ≠ gb209 ∧ k_ ≠ gb213 ∧ k_ ≠ gb215)) k_ ∧ k_ ≠ go25)) (Kd.R_types (Kd.R_types (Kd.R_types (Kd.R_types (Kd.R_types (Kd.R_apart' (HO219.out) (Kd.N_typed (Kd.S_N HO_214000.out)) (by decide)) BK207.out (by decide)) BK208.out (by decide)) BK209.out (by decide)) BK213.out (by decide)) BK215.out (by decide)) (fun k_ hk => ⟨⟨hk.1.1.1.1.1.1.1, ⟨hk.1.1.1.1.2, ⟨hk.1.1.1.2, ⟨hk.1.1.2, ⟨hk.1.2, hk.2⟩⟩⟩⟩⟩, fun e_ => (hk.1.1.1.1.1.2) (by rw [e_]; rfl)⟩))).1 k_ hk.symm)).1
        (try simp only [show ((Kd.slice 104 k104)).sz = 1 from rfl, Nat.mul_one, Nat.add_zero] at HP36)
        rw [← Ny220.out] at HP36
        have HQ36 := am HP36
        clear hcl36 hcc36 hfr36 HP36; (try clear hM36)
        refine hK.out _ _ ⟨q_z BK213.out 0, q_z BK215.out 0, q_z BK215.out 1, q_z BK215.out 2, q_z BK215.out 3, HS5_⟩ (fun hHeld => ?_)
        clear hK K
        refine norm_ (a' := ?_) ?_ ?_
        rotate_left
        ·show Act.put _ (some 28) _ = _
         simp only [Act.put, List.setIfInBounds_toArray, List.set_cons_zero, List.set_cons_succ, i64_w, i32_w]
         rfl
        refine q_p 12 (some 29) #[true, true, true, true, true, true, true, true, true, true, true, true, true, false] HT_.out ?_
        refine last_ (i := 13) (N := none) #[true, true, true, true, true, true, true, true, true, true, true, true, true, true] rfl rfl (one_of HT_.out (by kernel_rfl)) (by decide) (fun K hK => ?_)
        refine skip_ (w1 := ?_) (by rfl) rfl ?_ ?_
        rotate_left
        ·go_simp
         rfl
        refine hK.out _ _ ?_
        clear hK K
        refine done_ (done_of HT_.out (by kernel_rfl)) ?_
        try go_wp2
        go_roundg k1
        case measure => have := HK1.out; omega
        case rel => exact ⟨(wrap64 (x13_1 + 1)), (y220), (.slice (some ⟨go25, 0, none⟩) x214000_1.length co34), q_i, H', ⟨by have := HK1.out; omega⟩, ⟨by (with_reducible repeat (first | apply Kd.S_alloc | apply Kd.S_drewN | apply Kd.S_drew)); exact Kd.S_mono HQ36.out (fun _ hk => ⟨hk.1, ⟨hk.2.1, ⟨hk.2.2.1, ⟨hk.2.2.2.1, hk.2.2.2.2.1⟩⟩⟩⟩)⟩, ⟨by (with_reducible repeat (first | refine blk_drewN ?_ _ | refine blk_drew ?_ | refine blk_alloc ?_ _)); refine blk_far ?_ (by have h_ := Kd.N_away (Kd.S_N HX36.out) (fun _ hk => hk.1.2.1); intro e_; exact h_ (by rw [e_]; rfl)) _; (with_reducible repeat (first | refine blk_drewN ?_ _ | refine blk_drew ?_ | refine blk_alloc ?_ _)); exact BK207.out⟩, ⟨by (with_reducible repeat (first | refine blk_drewN ?_ _ | refine blk_drew ?_ | refine blk_alloc ?_ _)); refine blk_far ?_ (by have h_ := Kd.N_away (Kd.S_N HX36.out) (fun _ hk => hk.1.2.2.1); intro e_; exact h_ (by rw [e_]; rfl)) _; (with_reducible repeat (first | refine blk_drewN ?_ _ | refine blk_drew ?_ | refine blk_alloc ?_ _)); exact BK208.out⟩, ⟨by (with_reducible repeat (first | refine blk_drewN ?_ _ | refine blk_drew ?_ | refine blk_alloc ?_ _)); refine blk_far ?_ (by have h_ := Kd.N_away (Kd.S_N HX36.out) (fun _ hk => hk.1.2.2.2.1); intro e_; exact h_ (by rw [e_]; rfl)) _; (with_reducible repeat (first | refine blk_drewN ?_ _ | refine blk_drew ?_ | refine blk_alloc ?_ _)); exact BK209.out⟩, ⟨by (with_reducible repeat (first | refine blk_drewN ?_ _ | refine blk_drew ?_ | refine blk_alloc ?_ _)); refine blk_far ?_ (by have h_ := Kd.N_away (Kd.S_N HX36.out) (fun _ hk => hk.1.2.2.2.2.1); intro e_; exact h_ (by rw [e_]; rfl)) _; (with_reducible repeat (first | refine blk_drewN ?_ _ | refine blk_drew ?_ | refine blk_alloc ?_ _)); exact BK213.out⟩, ⟨bq⟩⟩
       ·rw [if_neg c23] at H
        exact absurd H (by simp)
      ·rw [if_neg c22] at H
       exact absurd H (by simp)
     ·rw [if_neg c21] at H
      exact absurd H (by simp)
    ·rw [if_neg c20] at H
     exact absurd H (by simp)
   ·rw [if_neg c19] at H
    have c19b0 := decide_eq_false c19
    clear c19
    obtain rfl := Option.some.inj H
    have hnb37 := NB213_207.out
    have hnc37 := NB207_213.out
    have hnb38 := NB213_208.out
    have hnc38 := NB208_213.out
    have hnb39 := NB213_209.out
    have hnc39 := NB209_213.out
    obtain ⟨hcz40_0, hfz40_0⟩ := q_1 BK213.out
    obtain ⟨Ao41, co41, eo41⟩ := Kd.N_slice (Kd.S_N HO_214000.out)
    subst eo41
    have hnb42 := NB209_207.out
    have hnc42 := NB207_209.out
    have hnb43 := NB209_208.out
    have hnc43 := NB208_209.out
    obtain ⟨hcz44_0, hfz44_0⟩ := q_1 BK209.out
    go_wp2
    refine bodyPost_ret (results_cell_row rfl _ _ gb209 26 #[.slice Ao41 x214000_1.length co41] (0, 0) _ rfl (by (with_reducible repeat (first | refine blk_drewN ?_ _ | refine blk_drew ?_ | refine blk_alloc ?_ _)); refine blk_put (cs := #[.slice none 0 0]) ?_ 0 _ rfl; (with_reducible repeat (first | refine blk_drewN ?_ _ | refine blk_drew ?_ | refine blk_alloc ?_ _)); exact BK209.out) Try.underlying26 rfl (by kernel_rfl)) rfl ?_
    exact ⟨_, q_e, by (with_reducible repeat (first | apply Kd.S_alloc | apply Kd.S_drewN | apply Kd.S_drew)); exact Kd.S_mono (Kd.S_far (p := ⟨gb209, 0, none⟩) (Kd.S_mono HO_214000.out (fun k_ hk => (⟨hk, hk.2.2.2.1⟩ : _ ∧ k_ ≠ gb209))) (fun _ hk => hk.2) (.slice Ao41 x214000_1.length co41)) (fun _ _ => trivial), bq⟩

/-! ### impl_SettleAll: function 15 -/
def impl_SettleAll.l0 : Nat → List (S40) → Int → Int → Int → List Int → List (List (S104)) → Option (Int × List Int × (List (List (S104))))
  | 0, _, _, _, _, _, _ => none
  | k + 1, x23, x24, x25, x228000, x228001, x228002 => if x25 < x24 then (if 0 ≤ x25 then (if x25 < (x23.length : Int) then ((impl_canSettle.f k x228002 ((rd_T40 x23 x25).f0) ((rd_T40 x23 x25).f1)).bind fun t230 => (if t230 = 0 then ((impl_settled.f k x228002 ((rd_T40 x23 x25).f0) ((rd_T40 x23 x25).f1)).bind fun t231 => (if x228001.length < 17592186044416 then (impl_SettleAll.l0 k x23 x24 (wrap64 (x25 + 1)) x228000 (x228001 ++ [1]) t231) else (none))) else (if x228001.length < 17592186044416 then (impl_SettleAll.l0 k x23 x24 (wrap64 (x25 + 1)) x228000 (x228001 ++ [2]) x228002) else (none)))) else (none)) else (none)) else (some (x228000, x228001, x228002))
def impl_SettleAll.f (k : Nat) (l0_0 : List (List (S104))) (l1 : List (S40)) : Option (Int × List Int × (List (List (S104)))) := (impl_LedgerFault.f k l0_0).bind fun t223 => (if t223 = 0 then (if (l1.length : Int) > 100 then (some (2, ([] : List Int), ([] : List (List (S104))))) else ((impl_copyLedger.f k l0_0).bind fun t224 => (impl_SettleAll.l0 k l1 (l1.length : Int) 0 0 ([] : List Int) t224))) else (some (t223, ([] : List Int), ([] : List (List (S104))))))
theorem impl_SettleAll.calls (k : Nat) (A0_0 : Option Addr) (c0_0 : Nat) (l0_0 : List (List (S104))) (A1 : Option Addr) (c1 : Nat) (l1 : List (S40)) (r1 : Int) (r2 : List Int) (r3 : List (List (S104))) (w : World) (hr0_0 : Kd.C (Kd.slice 104 k104) w A0_0 l0_0.length l0_0) (hc0_0 : l0_0.length ≤ c0_0) (hr1 : Kd.C k40 w A1 l1.length l1) (hc1 : l1.length ≤ c1) (h : impl_SettleAll.f k l0_0 l1 = some (r1, r2, r3)) :
  Calls Try.prog 15 #[.agg #[.slice A0_0 l0_0.length c0_0], .slice A1 l1.length c1] w fun e w' => ∃ v1_ v2_ : Value, e = .returned (.agg #[.int .i64 r1, v1_, v2_]) ∧ Kd.R (Kd.int .i64) 2 w' w.heap.size (fun _ => True) v1_ r2 ∧ Kd.S (Kd.slice 104 k104) 64 w' w.heap.size (fun _ => True) v2_ r3 ∧ Below w.heap.size w w' := by
 have hu26 := Try.underlying26
 have hu32 := Try.underlying32
 have hu40 := Try.underlying40
 have HR0_0 := am hr0_0
 have HC0_0 := am hc0_0
 clear hr0_0 hc0_0
 have HR1 := am hr1
 have HC1 := am hc1
 clear hr1 hc1
 have HB := am (Below.refl w.heap.size w)
 have H : ((impl_LedgerFault.f k l0_0).bind fun t223 => (if t223 = 0 then (if (l1.length : Int) > 100 then (some (2, ([] : List Int), ([] : List (List (S104))))) else ((impl_copyLedger.f k l0_0).bind fun t224 => (impl_SettleAll.l0 k l1 (l1.length : Int) 0 0 ([] : List Int) t224))) else (some (t223, ([] : List Int), ([] : List (List (S104))))))) = some (r1, r2, r3) := h
 clear h
 replace H := ob H
 obtain ⟨t223, A30, H⟩ := H
 replace H : (if t223 = 0 then (if (l1.length : Int) > 100 then (some (2, ([] : List Int), ([] : List (List (S104))))) else ((impl_copyLedger.f k l0_0).bind fun t224 => (impl_SettleAll.l0 k l1 (l1.length : Int) 0 0 ([] : List Int) t224))) else (some (t223, ([] : List Int), ([] : List (List (S104)))))) = some (r1, r2, r3) := H
 have A3 := am A30
 clear A30
 by_cases c4 : t223 = 0
 ·rw [if_pos c4] at H
  have c4b0 : (t223 == 0) = true := beq_iff_eq.mpr c4
  have c4b1 : (t223 != 0) = false := bne_eq_false_iff_eq.mpr c4
  clear c4
  by_cases c5 : (l1.length : Int) > 100
  ·rw [if_pos c5] at H
   have c5b0 := decide_eq_true c5
   have c5b1 : decide (100 < l1.length) = true := decide_eq_true (by omega)
   clear c5
   simp only [Option.some.injEq, Prod.mk.injEq] at H
   obtain ⟨rfl, rfl, rfl⟩ := H
   go_enter Try.func15, Try.ntmps15
   go_wp2_with (first | ((with_reducible refine gate_dst (N := 2) rfl ?_); refine q_box (N := 2) (cs := #[.slice A0_0 l0_0.length c0_0]) (t := 26) ?_; intro gb221 hg w6 hbox hb; have n0_ := am (below_step bq hb); have n1_ := am (hbox); have n2_ := am ((q_g hg bq : w.heap.size ≤ gb221)); have n3_ := n2_; revert n0_ n1_ n2_ n3_; clear HB; intro HB BK221 GW221 GE221; clear hb hbox hg) | ((with_reducible refine gate_dst (N := 4) rfl ?_); refine q_box (N := 4) (cs := #[.int .i64 0, .slice none 0 0, .slice none 0 0]) (t := 32) ?_; intro gb222 hg w7 hbox hb; have n0_ := am (blk_below (q_b BK221.out) hb); have n1_ := am (below_step bq hb); have n2_ := am (hbox); have n3_ := am ((q_g hg bq : w.heap.size ≤ gb222)); have n4_ := n3_; have n5_ := am ((q_n hg (q_b BK221.out) : gb221 ≠ gb222)); have n6_ := am n5_.out.symm; revert n0_ n1_ n2_ n3_ n4_ n5_ n6_; clear BK221 HB; intro BK221 HB BK222 GW222 GE222 NB221_222 NB222_221; clear hb hbox hg; have hnb8 := NB221_222.out; have hnc8 := NB222_221.out; obtain ⟨hcz9_0, hfz9_0⟩ := q_1 BK221.out) | ((with_reducible refine gate_callee (f := 17) rfl ?_); refine goesLq (some 11) rfl rfl Try.func17 (by kernel_rfl) rfl #[.agg #[.slice A0_0 l0_0.length c0_0]] rfl ?_; (with_reducible refine (impl_LedgerFault.calls k _ _ l0_0 t223 _ ?side1 ?side2 A3.out).mono ?_); (case side1 => exact q_c ((Kd.C_below HR0_0.out HB.out))); (case side2 => exact HC0_0.out); rintro e w10 ⟨rfl, hb⟩; refine ⟨_, rfl, ?_⟩; have n0_ := am (blk_below (q_b BK221.out) hb); have n1_ := am (blk_below (q_b BK222.out) hb); have n2_ := am (below_step bq hb); revert n0_ n1_ n2_; clear BK221 BK222 HB; intro BK221 BK222 HB; (try clear hb); (try clear hb2); (try clear hk); (try clear hi); obtain ⟨hcz11_0, hcz11_1, hcz11_2, hfz11_0, hfz11_1, hfz11_2⟩ := q_3 BK222.out))
   refine bodyPost_ret (results_cell_row rfl _ _ gb222 32 #[.int .i64 2, .slice none 0 0, .slice none 0 0] (0, 0) _ rfl (by (with_reducible repeat (first | refine blk_drewN ?_ _ | refine blk_drew ?_ | refine blk_alloc ?_ _)); refine blk_put (cs := #[.int .i64 2, .slice none 0 0, .slice none 0 0]) ?_ 2 _ rfl; (with_reducible repeat (first | refine blk_drewN ?_ _ | refine blk_drew ?_ | refine blk_alloc ?_ _)); refine blk_put (cs := #[.int .i64 2, .slice none 0 0, .slice none 0 0]) ?_ 1 _ rfl; (with_reducible repeat (first | refine blk_drewN ?_ _ | refine blk_drew ?_ | refine blk_alloc ?_ _)); refine blk_put (cs := #[.int .i64 0, .slice none 0 0, .slice none 0 0]) ?_ 0 _ rfl; (with_reducible repeat (first | refine blk_drewN ?_ _ | refine blk_drew ?_ | refine blk_alloc ?_ _)); exact BK222.out) Try.underlying32 rfl (by kernel_rfl)) rfl ?_
   exact ⟨_, _, q_e, by first | exact Kd.R_nil _ _ _ _ _ | exact Kd.N_nil _ _ _ _ _ | exact Kd.V_nil _ _ _ _ _ | exact Kd.Q_nil _ _ _ _ _ | exact Kd.S_nil _ _ _ _ _, by first | exact Kd.S_nil _ _ _ _ _ | exact Kd.N_nil _ _ _ _ _ | exact Kd.V_nil _ _ _ _ _ | exact Kd.Q_nil _ _ _ _ _ | exact Kd.R_nil _ _ _ _ _, bq⟩
  ·rw [if_neg c5] at H
   have c5b0 := decide_eq_false c5
   have c5b1 : decide (100 < l1.length) = false := decide_eq_false (by omega)
   clear c5
   replace H := ob H
   obtain ⟨t224, A120, H⟩ := H
   replace H : (impl_SettleAll.l0 k l1 (l1.length : Int) 0 0 ([] : List Int) t224) = some (r1, r2, r3) := H
   have A12 := am A120
   clear A120
   have H' := am H
   clear H
   go_enter Try.func15, Try.ntmps15
   go_wp2_with (first | ((with_reducible refine gate_dst (N := 2) rfl ?_); refine q_box (N := 2) (cs := #[.slice A0_0 l0_0.length c0_0]) (t := 26) ?_; intro gb221 hg w13 hbox hb; have n0_ := am (below_step bq hb); have n1_ := am (hbox); have n2_ := am ((q_g hg bq : w.heap.size ≤ gb221)); have n3_ := n2_; revert n0_ n1_ n2_ n3_; clear HB; intro HB BK221 GW221 GE221; clear hb hbox hg) | ((with_reducible refine gate_dst (N := 4) rfl ?_); refine q_box (N := 4) (cs := #[.int .i64 0, .slice none 0 0, .slice none 0 0]) (t := 32) ?_; intro gb222 hg w14 hbox hb; have n0_ := am (blk_below (q_b BK221.out) hb); have n1_ := am (below_step bq hb); have n2_ := am (hbox); have n3_ := am ((q_g hg bq : w.heap.size ≤ gb222)); have n4_ := n3_; have n5_ := am ((q_n hg (q_b BK221.out) : gb221 ≠ gb222)); have n6_ := am n5_.out.symm; revert n0_ n1_ n2_ n3_ n4_ n5_ n6_; clear BK221 HB; intro BK221 HB BK222 GW222 GE222 NB221_222 NB222_221; clear hb hbox hg; have hnb15 := NB221_222.out; have hnc15 := NB222_221.out; obtain ⟨hcz16_0, hfz16_0⟩ := q_1 BK221.out) | ((with_reducible refine gate_callee (f := 17) rfl ?_); refine goesLq (some 11) rfl rfl Try.func17 (by kernel_rfl) rfl #[.agg #[.slice A0_0 l0_0.length c0_0]] rfl ?_; (with_reducible refine (impl_LedgerFault.calls k _ _ l0_0 t223 _ ?side1 ?side2 A3.out).mono ?_); (case side1 => exact q_c ((Kd.C_below HR0_0.out HB.out))); (case side2 => exact HC0_0.out); rintro e w17 ⟨rfl, hb⟩; refine ⟨_, rfl, ?_⟩; have n0_ := am (blk_below (q_b BK221.out) hb); have n1_ := am (blk_below (q_b BK222.out) hb); have n2_ := am (below_step bq hb); revert n0_ n1_ n2_; clear BK221 BK222 HB; intro BK221 BK222 HB; (try clear hb); (try clear hb2); (try clear hk); (try clear hi); obtain ⟨hcz18_0, hfz18_0⟩ := q_1 BK221.out) | ((with_reducible refine gate_callee (f := 60) rfl ?_); refine goesLq (some 21) rfl rfl Try.func60 (by kernel_rfl) rfl #[.agg #[.slice A0_0 l0_0.length c0_0]] rfl ?_; (with_reducible refine (impl_copyLedger.calls k _ _ l0_0 t224 _ ?side1 ?side2 A12.out).mono ?_); (case side1 => exact q_c ((Kd.C_below HR0_0.out HB.out))); (case side2 => exact HC0_0.out); rintro e w19 ⟨v225, rfl, ho0, hb⟩; refine ⟨_, rfl, ?_⟩; have n0_ := am (Kd.S_lower ho0 (below_size bq)); have n1_ := am (blk_below (q_b BK221.out) hb); have n2_ := am (blk_below (q_b BK222.out) hb); have n3_ := am (below_step bq hb); revert n0_ n1_ n2_ n3_; clear BK221 BK222 HB; intro HO226 BK221 BK222 HB; (try clear hb); (try clear hb2); (try clear hk); (try clear hi); (try clear ho0); obtain ⟨Ao20, co20, eo20⟩ := Kd.S_slice HO226.out; subst eo20) | ((with_reducible refine gate_dst (N := 6) rfl ?_); refine q_box (N := 6) (cs := #[.int .i64 0, .slice none 0 0, .slice none 0 0]) (t := 32) ?_; intro gb227 hg w21 hbox hb; have n0_ := am (Kd.S_below (q_s (HO226.out)) hb); have n1_ := am (blk_below (q_b BK221.out) hb); have n2_ := am (blk_below (q_b BK222.out) hb); have n3_ := am (below_step bq hb); have n4_ := am (hbox); have n5_ := am ((q_g hg bq : w.heap.size ≤ gb227)); have n6_ := n5_; have n7_ := am ((q_n hg (q_b BK221.out) : gb221 ≠ gb227)); have n8_ := am n7_.out.symm; have n9_ := am ((q_n hg (q_b BK222.out) : gb222 ≠ gb227)); have n10_ := am n9_.out.symm; revert n0_ n1_ n2_ n3_ n4_ n5_ n6_ n7_ n8_ n9_ n10_; clear HO226 BK221 BK222 HB; intro HO226 BK221 BK222 HB BK227 GW227 GE227 NB221_227 NB227_221 NB222_227 NB227_222; clear hb hbox hg; have hnb22 := NB227_221.out; have hnc22 := NB221_227.out; have hnb23 := NB227_222.out; have hnc23 := NB222_227.out; obtain ⟨hcz24_0, hcz24_1, hcz24_2, hfz24_0, hfz24_1, hfz24_2⟩ := q_3 BK227.out))
   go_loopg [25] k (fun kq v25 w' => ∃ (x25_1 : Int) (x228001_1 : List Int) (x228002_1 : List (List (S104))) (u228001 : Value) (u228002 : Value), v25 = .int .i64 x25_1 ∧ Aside0 (impl_SettleAll.l0 kq l1 (l1.length : Int) x25_1 0 x228001_1 x228002_1 = some (r1, r2, r3)) ∧ Aside0 (kq ≤ k) ∧ Aside0 (Kd.R (Kd.int .i64) 2 w' w.heap.size (fun _ => True) u228001 x228001_1) ∧ Aside0 (Kd.S (Kd.slice 104 k104) 64 w' w.heap.size (fun _ => True) u228002 x228002_1) ∧ Aside0 (w'.heap[gb221]? = some (.cells #[(.slice A0_0 l0_0.length c0_0)] 26 (0, 0))) ∧ Aside0 (w'.heap[gb222]? = some (.cells #[.int .i64 0, (.slice none 0 0), (.slice none 0 0)] 32 (0, 0))) ∧ Aside0 (w'.heap[gb227]? = some (.cells #[.int .i64 0, u228001, u228002] 32 (0, 0))) ∧ Aside0 (Below w.heap.size w w'))
   case atStart => exact ⟨(0), (([] : List Int)), (t224), (.slice none 0 0), (.slice Ao20 t224.length co20), q_i, H', ⟨Nat.le_refl _⟩, ⟨by first | exact Kd.R_nil _ _ _ _ _ | exact Kd.N_nil _ _ _ _ _ | exact Kd.V_nil _ _ _ _ _ | exact Kd.Q_nil _ _ _ _ _ | exact Kd.S_nil _ _ _ _ _⟩, ⟨by (with_reducible repeat (first | apply Kd.S_alloc | apply Kd.S_drewN | apply Kd.S_drew)); exact Kd.S_mono (Kd.S_far (p := ⟨gb227, 2, none⟩) (Kd.S_far (p := ⟨gb227, 1, none⟩) (Kd.S_far (p := ⟨gb227, 0, none⟩) (Kd.S_types HO226.out BK227.out (by decide)) (fun _ hk => hk.2) (.int .i64 0)) (fun _ hk => hk.2) (.slice none 0 0)) (fun _ hk => hk.2) (.slice Ao20 t224.length co20)) (fun _ hk => trivial)⟩, ⟨by (with_reducible repeat (first | refine blk_drewN ?_ _ | refine blk_drew ?_ | refine blk_alloc ?_ _)); refine blk_far ?_ NB221_227.out _; (with_reducible repeat (first | refine blk_drewN ?_ _ | refine blk_drew ?_ | refine blk_alloc ?_ _)); refine blk_far ?_ NB221_227.out _; (with_reducible repeat (first | refine blk_drewN ?_ _ | refine blk_drew ?_ | refine blk_alloc ?_ _)); refine blk_far ?_ NB221_227.out _; (with_reducible repeat (first | refine blk_drewN ?_ _ | refine blk_drew ?_ | refine blk_alloc ?_ _)); exact BK221.out⟩, ⟨by (with_reducible repeat (first | refine blk_drewN ?_ _ | refine blk_drew ?_ | refine blk_alloc ?_ _)); refine blk_far ?_ NB222_227.out _; (with_reducible repeat (first | refine blk_drewN ?_ _ | refine blk_drew ?_ | refine blk_alloc ?_ _)); refine blk_far ?_ NB222_227.out _; (with_reducible repeat (first | refine blk_drewN ?_ _ | refine blk_drew ?_ | refine blk_alloc ?_ _)); refine blk_far ?_ NB222_227.out _; (with_reducible repeat (first | refine blk_drewN ?_ _ | refine blk_drew ?_ | refine blk_alloc ?_ _)); exact BK222.out⟩, ⟨by (with_reducible repeat (first | refine blk_drewN ?_ _ | refine blk_drew ?_ | refine blk_alloc ?_ _)); refine blk_put (cs := #[.int .i64 0, .slice none 0 0, .slice none 0 0]) ?_ 2 _ rfl; (with_reducible repeat (first | refine blk_drewN ?_ _ | refine blk_drew ?_ | refine blk_alloc ?_ _)); refine blk_put (cs := #[.int .i64 0, .slice none 0 0, .slice none 0 0]) ?_ 1 _ rfl; (with_reducible repeat (first | refine blk_drewN ?_ _ | refine blk_drew ?_ | refine blk_alloc ?_ _)); refine blk_put (cs := #[.int .i64 0, .slice none 0 0, .slice none 0 0]) ?_ 0 _ rfl; (with_reducible repeat (first | refine blk_drewN ?_ _ | refine blk_drew ?_ | refine blk_alloc ?_ _)); exact BK227.out⟩, ⟨bq⟩⟩
   case round =>
    clear H'
    (try clear c1); (try clear c2); (try clear p2); (try clear c4); (try clear c4b0); (try clear c4b1); (try clear c5); (try clear c5b0); (try clear c5b1); (try clear c6); (try clear c8); (try clear c15)
    (try clear c17); (try clear c22); (try clear c23); (try clear hcz11_0); (try clear hcz11_1); (try clear hcz11_2); (try clear hcz16_0); (try clear hcz18_0); (try clear hcz24_0); (try clear hcz24_1)
    (try clear hcz24_2); (try clear hcz9_0); (try clear hfz11_0); (try clear hfz11_1); (try clear hfz11_2); (try clear hfz16_0); (try clear hfz18_0); (try clear hfz24_0); (try clear hfz24_1); (try clear hfz24_2)
    (try clear hfz9_0)
    obtain ⟨x25_1, x228001_1, x228002_1, u228001, u228002, rfl, HA, HK1, HO_228001, HO_228002, BK221, BK222, BK227, HB⟩ := hrel
    cases gk with
    | zero => exact absurd HA.out (by simp [impl_SettleAll.l0])
    | succ k1 =>
     have H := HA.out
     clear HA
     simp only [impl_SettleAll.l0] at H
     by_cases c25 : x25_1 < (l1.length : Int)
     ·rw [if_pos c25] at H
      have c25b0 := decide_eq_true c25
      clear c25
      by_cases c26 : 0 ≤ x25_1
      ·rw [if_pos c26] at H
       have c26b0 := decide_eq_true c26
       clear c26
       by_cases c27 : x25_1 < (l1.length : Int)
       ·rw [if_pos c27] at H
        have c27b0 := decide_eq_true c27
        clear c27
        replace H := ob H
        obtain ⟨t230, A280, H⟩ := H
        replace H : (if t230 = 0 then ((impl_settled.f k1 x228002_1 ((rd_T40 l1 x25_1).f0) ((rd_T40 l1 x25_1).f1)).bind fun t231 => (if x228001_1.length < 17592186044416 then (impl_SettleAll.l0 k1 l1 (l1.length : Int) (wrap64 (x25_1 + 1)) 0 (x228001_1 ++ [1]) t231) else (none))) else (if x228001_1.length < 17592186044416 then (impl_SettleAll.l0 k1 l1 (l1.length : Int) (wrap64 (x25_1 + 1)) 0 (x228001_1 ++ [2]) x228002_1) else (none))) = some (r1, r2, r3) := H
        have A28 := am A280
        clear A280
        by_cases c29 : t230 = 0
        ·rw [if_pos c29] at H
         have c29b0 : (t230 == 0) = true := beq_iff_eq.mpr c29
         have c29b1 : (t230 != 0) = false := bne_eq_false_iff_eq.mpr c29
         clear c29
         replace H := ob H
         obtain ⟨t231, A300, H⟩ := H
         replace H : (if x228001_1.length < 17592186044416 then (impl_SettleAll.l0 k1 l1 (l1.length : Int) (wrap64 (x25_1 + 1)) 0 (x228001_1 ++ [1]) t231) else (none)) = some (r1, r2, r3) := H
         have A30 := am A300
         clear A300
         by_cases c31 : x228001_1.length < 17592186044416
         ·rw [if_pos c31] at H
          have LMc31 := am c31
          clear c31
          obtain ⟨y234, hy234⟩ : ∃ y_ : List Int, y_ = (x228001_1 ++ [1]) := ⟨_, rfl⟩
          replace H : (impl_SettleAll.l0 k1 l1 (l1.length : Int) (wrap64 (x25_1 + 1)) 0 y234 t231) = some (r1, r2, r3) := q_h hy234 H
          have Ny234 := am hy234
          clear hy234
          have H' := am H
          clear H
          have p228 : 0 ≤ (x25_1 : Int) := q_d
          have q228 : x25_1 < (l1.length : Int) := q_d
          obtain ⟨ad228, A228_1, c228_1, e228, hx228_0, hx228_1, hl228_1, hi228_1⟩ := at_T40 HR1.out x25_1 p228 q228
          cases e228
          replace hx228_0 := q_x HB.out hx228_0
          replace hx228_1 := q_x HB.out hx228_1
          have HR228_1 := am hi228_1
          have HC228_1 := am hl228_1
          clear hi228_1 hl228_1
          replace p228 := eq_true p228
          replace q228 := eq_true q228
          go_wp2_with (first | ((with_reducible refine gate_dst (N := 8) rfl ?_); refine q_box (N := 8) (cs := #[.int .i64 0, .slice none 0 0]) (t := 40) ?_; intro gb229 hg w32 hbox hb; have n0_ := am (Kd.R_below (q_r (HO_228001.out)) hb); have n1_ := am (Kd.S_below (q_s (HO_228002.out)) hb); have n2_ := am (blk_below (q_b BK221.out) hb); have n3_ := am (blk_below (q_b BK222.out) hb); have n4_ := am (blk_below (q_b BK227.out) hb); have n5_ := am (below_step bq hb); have n6_ := am (hbox); have n7_ := am ((q_g hg bq : w.heap.size ≤ gb229)); have n8_ := n7_; have n9_ := am ((q_n hg (q_b BK221.out) : gb221 ≠ gb229)); have n10_ := am n9_.out.symm; have n11_ := am ((q_n hg (q_b BK222.out) : gb222 ≠ gb229)); have n12_ := am n11_.out.symm; have n13_ := am ((q_n hg (q_b BK227.out) : gb227 ≠ gb229)); have n14_ := am n13_.out.symm; revert n0_ n1_ n2_ n3_ n4_ n5_ n6_ n7_ n8_ n9_ n10_ n11_ n12_ n13_ n14_; clear HO_228001 HO_228002 BK221 BK222 BK227 HB; intro HO_228001 HO_228002 BK221 BK222 BK227 HB BK229 GW229 GE229 NB221_229 NB229_221 NB222_229 NB229_222 NB227_229 NB229_227; clear hb hbox hg; have hnb33 := NB229_221.out; have hnc33 := NB221_229.out; have hnb34 := NB229_222.out; have hnc34 := NB222_229.out; have hnb35 := NB229_227.out; have hnc35 := NB227_229.out; obtain ⟨hcz36_0, hcz36_1, hfz36_0, hfz36_1⟩ := q_2 BK229.out; have hnb37 := NB227_221.out; have hnc37 := NB221_227.out; have hnb38 := NB227_222.out; have hnc38 := NB222_227.out; obtain ⟨hcz39_0, hcz39_1, hcz39_2, hfz39_0, hfz39_1, hfz39_2⟩ := q_3 BK227.out; obtain ⟨Ao40, co40, eo40⟩ := Kd.S_slice HO_228002.out; subst eo40) | ((with_reducible refine gate_callee (f := 61) rfl ?_); refine goesLq (some 32) rfl rfl Try.func61 (by kernel_rfl) rfl #[.agg #[.slice Ao40 x228002_1.length co40], .agg #[.int .i64 ((rd_T40 l1 x25_1).f0), .slice A228_1 ((rd_T40 l1 x25_1).f1).length c228_1]] rfl ?_; (with_reducible refine (impl_canSettle.calls k1 _ _ x228002_1 ((rd_T40 l1 x25_1).f0) _ _ ((rd_T40 l1 x25_1).f1) t230 _ ?side1 ?side2 ?side3 ?side4 A28.out).mono ?_); (case side1 => refine (Kd.S_reads' (e := 64) (base := w.heap.size) (ok := fun k_ => True) (n := x228002_1.length) (c := co40) ?_).2.2; exact (by (with_reducible repeat (first | apply Kd.S_alloc | apply Kd.S_drewN | apply Kd.S_drew)); exact (Kd.S_mono (Kd.S_far (p := ⟨gb229, 1, none⟩) (Kd.S_far (p := ⟨gb229, 0, none⟩) (Kd.S_types HO_228002.out BK229.out (by decide)) (fun _ hk => hk.2) (.int .i64 ((rd_T40 l1 x25_1).f0))) (fun _ hk => hk.2) (.slice A228_1 ((rd_T40 l1 x25_1).f1).length c228_1)) (fun _ h_ => h_.1)))); (case side2 => exact (Kd.S_reads' HO_228002.out).2.1); (case side3 => exact Kd.C_below HR228_1.out bq); (case side4 => exact HC228_1.out); rintro e w41 ⟨rfl, hb⟩; refine ⟨_, rfl, ?_⟩; have n0_ := am (Kd.R_below (by (with_reducible repeat (first | apply Kd.R_alloc | apply Kd.R_drewN | apply Kd.R_drew)); exact (Kd.R_mono (Kd.R_far (p := ⟨gb229, 1, none⟩) (Kd.R_far (p := ⟨gb229, 0, none⟩) (Kd.R_types HO_228001.out BK229.out (by decide)) (fun _ hk => hk.2) (.int .i64 ((rd_T40 l1 x25_1).f0))) (fun _ hk => hk.2) (.slice A228_1 ((rd_T40 l1 x25_1).f1).length c228_1)) (fun _ h_ => h_.1))) hb); have n1_ := am (Kd.S_below (by (with_reducible repeat (first | apply Kd.S_alloc | apply Kd.S_drewN | apply Kd.S_drew)); exact (Kd.S_mono (Kd.S_far (p := ⟨gb229, 1, none⟩) (Kd.S_far (p := ⟨gb229, 0, none⟩) (Kd.S_types HO_228002.out BK229.out (by decide)) (fun _ hk => hk.2) (.int .i64 ((rd_T40 l1 x25_1).f0))) (fun _ hk => hk.2) (.slice A228_1 ((rd_T40 l1 x25_1).f1).length c228_1)) (fun _ h_ => h_.1))) hb); have n2_ := am (blk_below (g := gb221) (o := .cells #[.slice A0_0 l0_0.length c0_0] 26 (0, 0)) (by (with_reducible repeat (first | refine blk_drewN ?_ _ | refine blk_drew ?_ | refine blk_alloc ?_ _)); refine blk_far ?_ NB221_229.out _; (with_reducible repeat (first | refine blk_drewN ?_ _ | refine blk_drew ?_ | refine blk_alloc ?_ _)); refine blk_far ?_ NB221_229.out _; (with_reducible repeat (first | refine blk_drewN ?_ _ | refine blk_drew ?_ | refine blk_alloc ?_ _)); exact BK221.out) hb); have n3_ := am (blk_below (g := gb222) (o := .cells #[.int .i64 0, .slice none 0 0, .slice none 0 0] 32 (0, 0)) (by (with_reducible repeat (first | refine blk_drewN ?_ _ | refine blk_drew ?_ | refine blk_alloc ?_ _)); refine blk_far ?_ NB222_229.out _; (with_reducible repeat (first | refine blk_drewN ?_ _ | refine blk_drew ?_ | refine blk_alloc ?_ _)); refine blk_far ?_ NB222_229.out _; (with_reducible repeat (first | refine blk_drewN ?_ _ | refine blk_drew ?_ | refine blk_alloc ?_ _)); exact BK222.out) hb); have n4_ := am (blk_below (g := gb227) (o := .cells #[.int .i64 0, u228001, .slice Ao40 x228002_1.length co40] 32 (0, 0)) (by (with_reducible repeat (first | refine blk_drewN ?_ _ | refine blk_drew ?_ | refine blk_alloc ?_ _)); refine blk_far ?_ NB227_229.out _; (with_reducible repeat (first | refine blk_drewN ?_ _ | refine blk_drew ?_ | refine blk_alloc ?_ _)); refine blk_far ?_ NB227_229.out _; (with_reducible repeat (first | refine blk_drewN ?_ _ | refine blk_drew ?_ | refine blk_alloc ?_ _)); exact BK227.out) hb); have n5_ := am (blk_below (g := gb229) (o := .cells #[.int .i64 ((rd_T40 l1 x25_1).f0), .slice A228_1 ((rd_T40 l1 x25_1).f1).length c228_1] 40 (0, 0)) (by (with_reducible repeat (first | refine blk_drewN ?_ _ | refine blk_drew ?_ | refine blk_alloc ?_ _)); refine blk_put (cs := #[.int .i64 ((rd_T40 l1 x25_1).f0), .slice none 0 0]) ?_ 1 _ rfl; (with_reducible repeat (first | refine blk_drewN ?_ _ | refine blk_drew ?_ | refine blk_alloc ?_ _)); refine blk_put (cs := #[.int .i64 0, .slice none 0 0]) ?_ 0 _ rfl; (with_reducible repeat (first | refine blk_drewN ?_ _ | refine blk_drew ?_ | refine blk_alloc ?_ _)); exact BK229.out) hb); have n6_ := am (below_step bq hb); revert n0_ n1_ n2_ n3_ n4_ n5_ n6_; clear HO_228001 HO_228002 BK221 BK222 BK227 BK229 HB; intro HO_228001 HO_228002 BK221 BK222 BK227 BK229 HB; (try clear hb); (try clear hb2); (try clear hk); (try clear hi); obtain ⟨hcz42_0, hcz42_1, hcz42_2, hfz42_0, hfz42_1, hfz42_2⟩ := q_3 BK227.out; obtain ⟨hcz43_0, hcz43_1, hfz43_0, hfz43_1⟩ := q_2 BK229.out) | ((with_reducible refine gate_callee (f := 62) rfl ?_); refine goesLq (some 37) rfl rfl Try.func62 (by kernel_rfl) rfl #[.agg #[.slice Ao40 x228002_1.length co40], .agg #[.int .i64 ((rd_T40 l1 x25_1).f0), .slice A228_1 ((rd_T40 l1 x25_1).f1).length c228_1]] rfl ?_; (with_reducible refine (impl_settled.calls k1 _ _ x228002_1 ((rd_T40 l1 x25_1).f0) _ _ ((rd_T40 l1 x25_1).f1) t231 _ ?side1 ?side2 ?side3 ?side4 A30.out).mono ?_); (case side1 => exact q_c ((Kd.S_reads' HO_228002.out).2.2)); (case side2 => exact (Kd.S_reads' HO_228002.out).2.1); (case side3 => exact q_c ((Kd.C_below HR228_1.out HB.out))); (case side4 => exact HC228_1.out); rintro e w44 ⟨v232, rfl, ho0, hb⟩; refine ⟨_, rfl, ?_⟩; have n0_ := am (Kd.R_below (q_r (HO_228001.out)) hb); have n1_ := am (Kd.S_elder' (q_s (HO_228002.out)) (Kd.S_base ho0) hb); have n2_ := am (Kd.S_lower (Kd.S_new' ho0 (Kd.S_lt (q_s (HO_228002.out)))) (below_size bq)); have n3_ := am (blk_below (q_b BK221.out) hb); have n4_ := am (blk_below (q_b BK222.out) hb); have n5_ := am (blk_below (q_b BK227.out) hb); have n6_ := am (blk_below (q_b BK229.out) hb); have n7_ := am (below_step bq hb); revert n0_ n1_ n2_ n3_ n4_ n5_ n6_ n7_; clear HO_228001 HO_228002 BK221 BK222 BK227 BK229 HB; intro HO_228001 HO_228002 HO233 BK221 BK222 BK227 BK229 HB; (try clear hb); (try clear hb2); (try clear hk); (try clear hi); (try clear ho0); obtain ⟨Ao45, co45, eo45⟩ := Kd.S_slice HO233.out; subst eo45; obtain ⟨hcz46_0, hcz46_1, hcz46_2, hfz46_0, hfz46_1, hfz46_2⟩ := q_3 BK227.out) | ((with_reducible refine gate_builtin (b := .append) (xs := #[.tmp 40, .tmp 42]) rfl ?_); at_builtin; refine Kd.R_append (Kd.int .i64) (w0 := w) w.heap.size rfl (.tmp 40) (.tmp 42) 30 2 (.int .i64 0) 8 rfl Try.underlying30 info2 rfl (by decide) (by omega) u228001 x228001_1 1 [.int .i64 1] (fun _ => True) (fun _ => False) rfl (by first | (go_simp; done) | (go_simp; rfl)) ?aP (fun _ hk => hk.elim) ?aF ?aO ?aB ?aS ?aL ?_; (case aP => exact rfl); (case aB => exact bq); (case aF => exact (fun _ _ => trivial)); (case aO => exact (by (with_reducible repeat (first | apply Kd.R_alloc | apply Kd.R_drewN | apply Kd.R_drew)); exact Kd.R_mono (Kd.R_far (p := ⟨gb227, 2, none⟩) (Kd.R_types HO_228001.out BK227.out (by decide)) (fun _ hk => hk.2) (.slice Ao45 t231.length co45)) (fun _ hk => trivial))); (case aS => exact (below_size bq)); (case aL => have := LMc31.out; omega); intro v235 w47 ho hb hg hat; rw [← Ny234.out] at ho; have n0_ := am (Kd.S_over' (by (with_reducible repeat (first | apply Kd.S_alloc | apply Kd.S_drewN | apply Kd.S_drew)); exact (Kd.S_mono (Kd.S_far (p := ⟨gb227, 2, none⟩) (Kd.S_types HO_228002.out BK227.out (by decide)) (fun _ hk => hk.2) (.slice Ao45 t231.length co45)) (fun _ h_ => h_.1))) (Kd.R_typed (by (with_reducible repeat (first | apply Kd.R_alloc | apply Kd.R_drewN | apply Kd.R_drew)); exact (Kd.R_mono (Kd.R_far (p := ⟨gb227, 2, none⟩) (Kd.R_types HO_228001.out BK227.out (by decide)) (fun _ hk => hk.2) (.slice Ao45 t231.length co45)) (fun _ h_ => h_.1)))) (by decide) hg); have n1_ := am (blk_grown (g := gb221) (o := .cells #[.slice A0_0 l0_0.length c0_0] 26 (0, 0)) (by (with_reducible repeat (first | refine blk_drewN ?_ _ | refine blk_drew ?_ | refine blk_alloc ?_ _)); refine blk_far ?_ NB221_227.out _; (with_reducible repeat (first | refine blk_drewN ?_ _ | refine blk_drew ?_ | refine blk_alloc ?_ _)); exact BK221.out) hg (Kd.R_ne HO_228001.out BK221.out (by decide))); have n2_ := am (blk_grown (g := gb222) (o := .cells #[.int .i64 0, .slice none 0 0, .slice none 0 0] 32 (0, 0)) (by (with_reducible repeat (first | refine blk_drewN ?_ _ | refine blk_drew ?_ | refine blk_alloc ?_ _)); refine blk_far ?_ NB222_227.out _; (with_reducible repeat (first | refine blk_drewN ?_ _ | refine blk_drew ?_ | refine blk_alloc ?_ _)); exact BK222.out) hg (Kd.R_ne HO_228001.out BK222.out (by decide))); have n3_ := am (blk_grown (g := gb227) (o := .cells #[.int .i64 0, u228001, .slice Ao45 t231.length co45] 32 (0, 0)) (by (with_reducible repeat (first | refine blk_drewN ?_ _ | refine blk_drew ?_ | refine blk_alloc ?_ _)); refine blk_put (cs := #[.int .i64 0, u228001, .slice Ao40 x228002_1.length co40]) ?_ 2 _ rfl; (with_reducible repeat (first | refine blk_drewN ?_ _ | refine blk_drew ?_ | refine blk_alloc ?_ _)); exact BK227.out) hg (Kd.R_ne HO_228001.out BK227.out (by decide))); have n4_ := am (blk_grown (g := gb229) (o := .cells #[.int .i64 ((rd_T40 l1 x25_1).f0), .slice A228_1 ((rd_T40 l1 x25_1).f1).length c228_1] 40 (0, 0)) (by (with_reducible repeat (first | refine blk_drewN ?_ _ | refine blk_drew ?_ | refine blk_alloc ?_ _)); refine blk_far ?_ NB229_227.out _; (with_reducible repeat (first | refine blk_drewN ?_ _ | refine blk_drew ?_ | refine blk_alloc ?_ _)); exact BK229.out) hg (Kd.R_ne HO_228001.out BK229.out (by decide))); have n5_ := am (Kd.S_over' (by (with_reducible repeat (first | apply Kd.S_alloc | apply Kd.S_drewN | apply Kd.S_drew)); exact (Kd.S_mono (Kd.S_far (p := ⟨gb227, 2, none⟩) (Kd.S_types HO233.out BK227.out (by decide)) (fun _ hk => hk.2) (.slice Ao45 t231.length co45)) (fun _ h_ => h_.1))) (Kd.R_typed (by (with_reducible repeat (first | apply Kd.R_alloc | apply Kd.R_drewN | apply Kd.R_drew)); exact (Kd.R_mono (Kd.R_far (p := ⟨gb227, 2, none⟩) (Kd.R_types HO_228001.out BK227.out (by decide)) (fun _ hk => hk.2) (.slice Ao45 t231.length co45)) (fun _ h_ => h_.1)))) (by decide) hg); have n6_ := am (hb); have n7_ := am (ho); revert n0_ n1_ n2_ n3_ n4_ n5_ n6_ n7_; clear HO_228002 BK221 BK222 BK227 BK229 HO233 HB HO_228001; intro HO_228002 BK221 BK222 BK227 BK229 HO233 HB HO236; clear ho hb hg hat; obtain ⟨Ao48, co48, eo48⟩ := Kd.R_slice HO236.out; subst eo48; obtain ⟨hcz49_0, hcz49_1, hcz49_2, hfz49_0, hfz49_1, hfz49_2⟩ := q_3 BK227.out))
          go_roundg k1
          case measure => have := HK1.out; omega
          case rel => exact ⟨(wrap64 (x25_1 + 1)), (y234), (t231), (.slice Ao48 y234.length co48), (.slice Ao45 t231.length co45), q_i, H', ⟨by have := HK1.out; omega⟩, ⟨by (with_reducible repeat (first | apply Kd.R_alloc | apply Kd.R_drewN | apply Kd.R_drew)); exact Kd.R_mono (Kd.R_far (p := ⟨gb227, 1, none⟩) (Kd.R_types HO236.out BK227.out (by decide)) (fun _ hk => hk.2) (.slice Ao48 y234.length co48)) (fun _ hk => trivial)⟩, ⟨by (with_reducible repeat (first | apply Kd.S_alloc | apply Kd.S_drewN | apply Kd.S_drew)); exact Kd.S_mono (Kd.S_far (p := ⟨gb227, 1, none⟩) (Kd.S_types HO233.out BK227.out (by decide)) (fun _ hk => hk.2) (.slice Ao48 y234.length co48)) (fun _ hk => trivial)⟩, ⟨by (with_reducible repeat (first | refine blk_drewN ?_ _ | refine blk_drew ?_ | refine blk_alloc ?_ _)); refine blk_far ?_ NB221_227.out _; (with_reducible repeat (first | refine blk_drewN ?_ _ | refine blk_drew ?_ | refine blk_alloc ?_ _)); exact BK221.out⟩, ⟨by (with_reducible repeat (first | refine blk_drewN ?_ _ | refine blk_drew ?_ | refine blk_alloc ?_ _)); refine blk_far ?_ NB222_227.out _; (with_reducible repeat (first | refine blk_drewN ?_ _ | refine blk_drew ?_ | refine blk_alloc ?_ _)); exact BK222.out⟩, ⟨by (with_reducible repeat (first | refine blk_drewN ?_ _ | refine blk_drew ?_ | refine blk_alloc ?_ _)); refine blk_put (cs := #[.int .i64 0, u228001, .slice Ao45 t231.length co45]) ?_ 1 _ rfl; (with_reducible repeat (first | refine blk_drewN ?_ _ | refine blk_drew ?_ | refine blk_alloc ?_ _)); exact BK227.out⟩, ⟨bq⟩⟩
         ·rw [if_neg c31] at H
          exact absurd H (by simp)
        ·rw [if_neg c29] at H
         have c29b0 : (t230 == 0) = false := beq_eq_false_iff_ne.mpr c29
         have c29b1 : (t230 != 0) = true := bne_iff_ne.mpr c29
         by_cases c50 : x228001_1.length < 17592186044416
         ·rw [if_pos c50] at H
          have LMc50 := am c50
          clear c50
          obtain ⟨y237, hy237⟩ : ∃ y_ : List Int, y_ = (x228001_1 ++ [2]) := ⟨_, rfl⟩
          replace H : (impl_SettleAll.l0 k1 l1 (l1.length : Int) (wrap64 (x25_1 + 1)) 0 y237 x228002_1) = some (r1, r2, r3) := q_h hy237 H
          have Ny237 := am hy237
          clear hy237
          have H' := am H
          clear H
          have p228 : 0 ≤ (x25_1 : Int) := q_d
          have q228 : x25_1 < (l1.length : Int) := q_d
          obtain ⟨ad228, A228_1, c228_1, e228, hx228_0, hx228_1, hl228_1, hi228_1⟩ := at_T40 HR1.out x25_1 p228 q228
          cases e228
          replace hx228_0 := q_x HB.out hx228_0
          replace hx228_1 := q_x HB.out hx228_1
          have HR228_1 := am hi228_1
          have HC228_1 := am hl228_1
          clear hi228_1 hl228_1
          replace p228 := eq_true p228
          replace q228 := eq_true q228
          go_wp2_with (first | ((with_reducible refine gate_dst (N := 8) rfl ?_); refine q_box (N := 8) (cs := #[.int .i64 0, .slice none 0 0]) (t := 40) ?_; intro gb229 hg w51 hbox hb; have n0_ := am (Kd.R_below (q_r (HO_228001.out)) hb); have n1_ := am (Kd.S_below (q_s (HO_228002.out)) hb); have n2_ := am (blk_below (q_b BK221.out) hb); have n3_ := am (blk_below (q_b BK222.out) hb); have n4_ := am (blk_below (q_b BK227.out) hb); have n5_ := am (below_step bq hb); have n6_ := am (hbox); have n7_ := am ((q_g hg bq : w.heap.size ≤ gb229)); have n8_ := n7_; have n9_ := am ((q_n hg (q_b BK221.out) : gb221 ≠ gb229)); have n10_ := am n9_.out.symm; have n11_ := am ((q_n hg (q_b BK222.out) : gb222 ≠ gb229)); have n12_ := am n11_.out.symm; have n13_ := am ((q_n hg (q_b BK227.out) : gb227 ≠ gb229)); have n14_ := am n13_.out.symm; revert n0_ n1_ n2_ n3_ n4_ n5_ n6_ n7_ n8_ n9_ n10_ n11_ n12_ n13_ n14_; clear HO_228001 HO_228002 BK221 BK222 BK227 HB; intro HO_228001 HO_228002 BK221 BK222 BK227 HB BK229 GW229 GE229 NB221_229 NB229_221 NB222_229 NB229_222 NB227_229 NB229_227; clear hb hbox hg; have hnb52 := NB229_221.out; have hnc52 := NB221_229.out; have hnb53 := NB229_222.out; have hnc53 := NB222_229.out; have hnb54 := NB229_227.out; have hnc54 := NB227_229.out; obtain ⟨hcz55_0, hcz55_1, hfz55_0, hfz55_1⟩ := q_2 BK229.out; have hnb56 := NB227_221.out; have hnc56 := NB221_227.out; have hnb57 := NB227_222.out; have hnc57 := NB222_227.out; obtain ⟨hcz58_0, hcz58_1, hcz58_2, hfz58_0, hfz58_1, hfz58_2⟩ := q_3 BK227.out; obtain ⟨Ao59, co59, eo59⟩ := Kd.S_slice HO_228002.out; subst eo59) | ((with_reducible refine gate_callee (f := 61) rfl ?_); refine goesLq (some 32) rfl rfl Try.func61 (by kernel_rfl) rfl #[.agg #[.slice Ao59 x228002_1.length co59], .agg #[.int .i64 ((rd_T40 l1 x25_1).f0), .slice A228_1 ((rd_T40 l1 x25_1).f1).length c228_1]] rfl ?_; (with_reducible refine (impl_canSettle.calls k1 _ _ x228002_1 ((rd_T40 l1 x25_1).f0) _ _ ((rd_T40 l1 x25_1).f1) t230 _ ?side1 ?side2 ?side3 ?side4 A28.out).mono ?_); (case side1 => refine (Kd.S_reads' (e := 64) (base := w.heap.size) (ok := fun k_ => True) (n := x228002_1.length) (c := co59) ?_).2.2; exact (by (with_reducible repeat (first | apply Kd.S_alloc | apply Kd.S_drewN | apply Kd.S_drew)); exact (Kd.S_mono (Kd.S_far (p := ⟨gb229, 1, none⟩) (Kd.S_far (p := ⟨gb229, 0, none⟩) (Kd.S_types HO_228002.out BK229.out (by decide)) (fun _ hk => hk.2) (.int .i64 ((rd_T40 l1 x25_1).f0))) (fun _ hk => hk.2) (.slice A228_1 ((rd_T40 l1 x25_1).f1).length c228_1)) (fun _ h_ => h_.1)))); (case side2 => exact (Kd.S_reads' HO_228002.out).2.1); (case side3 => exact Kd.C_below HR228_1.out bq); (case side4 => exact HC228_1.out); rintro e w60 ⟨rfl, hb⟩; refine ⟨_, rfl, ?_⟩; have n0_ := am (Kd.R_below (by (with_reducible repeat (first | apply Kd.R_alloc | apply Kd.R_drewN | apply Kd.R_drew)); exact (Kd.R_mono (Kd.R_far (p := ⟨gb229, 1, none⟩) (Kd.R_far (p := ⟨gb229, 0, none⟩) (Kd.R_types HO_228001.out BK229.out (by decide)) (fun _ hk => hk.2) (.int .i64 ((rd_T40 l1 x25_1).f0))) (fun _ hk => hk.2) (.slice A228_1 ((rd_T40 l1 x25_1).f1).length c228_1)) (fun _ h_ => h_.1))) hb); have n1_ := am (Kd.S_below (by (with_reducible repeat (first | apply Kd.S_alloc | apply Kd.S_drewN | apply Kd.S_drew)); exact (Kd.S_mono (Kd.S_far (p := ⟨gb229, 1, none⟩) (Kd.S_far (p := ⟨gb229, 0, none⟩) (Kd.S_types HO_228002.out BK229.out (by decide)) (fun _ hk => hk.2) (.int .i64 ((rd_T40 l1 x25_1).f0))) (fun _ hk => hk.2) (.slice A228_1 ((rd_T40 l1 x25_1).f1).length c228_1)) (fun _ h_ => h_.1))) hb); have n2_ := am (blk_below (g := gb221) (o := .cells #[.slice A0_0 l0_0.length c0_0] 26 (0, 0)) (by (with_reducible repeat (first | refine blk_drewN ?_ _ | refine blk_drew ?_ | refine blk_alloc ?_ _)); refine blk_far ?_ NB221_229.out _; (with_reducible repeat (first | refine blk_drewN ?_ _ | refine blk_drew ?_ | refine blk_alloc ?_ _)); refine blk_far ?_ NB221_229.out _; (with_reducible repeat (first | refine blk_drewN ?_ _ | refine blk_drew ?_ | refine blk_alloc ?_ _)); exact BK221.out) hb); have n3_ := am (blk_below (g := gb222) (o := .cells #[.int .i64 0, .slice none 0 0, .slice none 0 0] 32 (0, 0)) (by (with_reducible repeat (first | refine blk_drewN ?_ _ | refine blk_drew ?_ | refine blk_alloc ?_ _)); refine blk_far ?_ NB222_229.out _; (with_reducible repeat (first | refine blk_drewN ?_ _ | refine blk_drew ?_ | refine blk_alloc ?_ _)); refine blk_far ?_ NB222_229.out _; (with_reducible repeat (first | refine blk_drewN ?_ _ | refine blk_drew ?_ | refine blk_alloc ?_ _)); exact BK222.out) hb); have n4_ := am (blk_below (g := gb227) (o := .cells #[.int .i64 0, u228001, .slice Ao59 x228002_1.length co59] 32 (0, 0)) (by (with_reducible repeat (first | refine blk_drewN ?_ _ | refine blk_drew ?_ | refine blk_alloc ?_ _)); refine blk_far ?_ NB227_229.out _; (with_reducible repeat (first | refine blk_drewN ?_ _ | refine blk_drew ?_ | refine blk_alloc ?_ _)); refine blk_far ?_ NB227_229.out _; (with_reducible repeat (first | refine blk_drewN ?_ _ | refine blk_drew ?_ | refine blk_alloc ?_ _)); exact BK227.out) hb); have n5_ := am (blk_below (g := gb229) (o := .cells #[.int .i64 ((rd_T40 l1 x25_1).f0), .slice A228_1 ((rd_T40 l1 x25_1).f1).length c228_1] 40 (0, 0)) (by (with_reducible repeat (first | refine blk_drewN ?_ _ | refine blk_drew ?_ | refine blk_alloc ?_ _)); refine blk_put (cs := #[.int .i64 ((rd_T40 l1 x25_1).f0), .slice none 0 0]) ?_ 1 _ rfl; (with_reducible repeat (first | refine blk_drewN ?_ _ | refine blk_drew ?_ | refine blk_alloc ?_ _)); refine blk_put (cs := #[.int .i64 0, .slice none 0 0]) ?_ 0 _ rfl; (with_reducible repeat (first | refine blk_drewN ?_ _ | refine blk_drew ?_ | refine blk_alloc ?_ _)); exact BK229.out) hb); have n6_ := am (below_step bq hb); revert n0_ n1_ n2_ n3_ n4_ n5_ n6_; clear HO_228001 HO_228002 BK221 BK222 BK227 BK229 HB; intro HO_228001 HO_228002 BK221 BK222 BK227 BK229 HB; (try clear hb); (try clear hb2); (try clear hk); (try clear hi); obtain ⟨hcz61_0, hcz61_1, hcz61_2, hfz61_0, hfz61_1, hfz61_2⟩ := q_3 BK227.out) | ((with_reducible refine gate_builtin (b := .append) (xs := #[.tmp 40, .tmp 42]) rfl ?_); at_builtin; refine Kd.R_append (Kd.int .i64) (w0 := w) w.heap.size rfl (.tmp 40) (.tmp 42) 30 2 (.int .i64 0) 8 rfl Try.underlying30 info2 rfl (by decide) (by omega) u228001 x228001_1 2 [.int .i64 2] (fun _ => True) (fun _ => False) rfl rfl ?aP (fun _ hk => hk.elim) ?aF ?aO ?aB ?aS ?aL ?_; (case aP => exact rfl); (case aB => exact bq); (case aF => exact (fun _ _ => trivial)); (case aO => exact (q_r (HO_228001.out))); (case aS => exact (below_size bq)); (case aL => have := LMc50.out; omega); intro v238 w62 ho hb hg hat; rw [← Ny237.out] at ho; have n0_ := am (Kd.S_over' (q_s (HO_228002.out)) (Kd.R_typed (q_r (HO_228001.out))) (by decide) hg); have n1_ := am (blk_grown (q_b BK221.out) hg (Kd.R_ne HO_228001.out BK221.out (by decide))); have n2_ := am (blk_grown (q_b BK222.out) hg (Kd.R_ne HO_228001.out BK222.out (by decide))); have n3_ := am (blk_grown (q_b BK227.out) hg (Kd.R_ne HO_228001.out BK227.out (by decide))); have n4_ := am (blk_grown (q_b BK229.out) hg (Kd.R_ne HO_228001.out BK229.out (by decide))); have n5_ := am (hb); have n6_ := am (ho); revert n0_ n1_ n2_ n3_ n4_ n5_ n6_; clear HO_228002 BK221 BK222 BK227 BK229 HB HO_228001; intro HO_228002 BK221 BK222 BK227 BK229 HB HO239; clear ho hb hg hat; obtain ⟨Ao63, co63, eo63⟩ := Kd.R_slice HO239.out; subst eo63; obtain ⟨hcz64_0, hcz64_1, hcz64_2, hfz64_0, hfz64_1, hfz64_2⟩ := q_3 BK227.out))
          go_roundg k1
          case measure => have := HK1.out; omega
          case rel => exact ⟨(wrap64 (x25_1 + 1)), (y237), (x228002_1), (.slice Ao63 y237.length co63), (.slice Ao59 x228002_1.length co59), q_i, H', ⟨by have := HK1.out; omega⟩, ⟨by (with_reducible repeat (first | apply Kd.R_alloc | apply Kd.R_drewN | apply Kd.R_drew)); exact Kd.R_mono (Kd.R_far (p := ⟨gb227, 1, none⟩) (Kd.R_types HO239.out BK227.out (by decide)) (fun _ hk => hk.2) (.slice Ao63 y237.length co63)) (fun _ hk => trivial)⟩, ⟨by (with_reducible repeat (first | apply Kd.S_alloc | apply Kd.S_drewN | apply Kd.S_drew)); exact Kd.S_mono (Kd.S_far (p := ⟨gb227, 1, none⟩) (Kd.S_types HO_228002.out BK227.out (by decide)) (fun _ hk => hk.2) (.slice Ao63 y237.length co63)) (fun _ hk => trivial)⟩, ⟨by (with_reducible repeat (first | refine blk_drewN ?_ _ | refine blk_drew ?_ | refine blk_alloc ?_ _)); refine blk_far ?_ NB221_227.out _; (with_reducible repeat (first | refine blk_drewN ?_ _ | refine blk_drew ?_ | refine blk_alloc ?_ _)); exact BK221.out⟩, ⟨by (with_reducible repeat (first | refine blk_drewN ?_ _ | refine blk_drew ?_ | refine blk_alloc ?_ _)); refine blk_far ?_ NB222_227.out _; (with_reducible repeat (first | refine blk_drewN ?_ _ | refine blk_drew ?_ | refine blk_alloc ?_ _)); exact BK222.out⟩, ⟨by (with_reducible repeat (first | refine blk_drewN ?_ _ | refine blk_drew ?_ | refine blk_alloc ?_ _)); refine blk_put (cs := #[.int .i64 0, u228001, .slice Ao59 x228002_1.length co59]) ?_ 1 _ rfl; (with_reducible repeat (first | refine blk_drewN ?_ _ | refine blk_drew ?_ | refine blk_alloc ?_ _)); exact BK227.out⟩, ⟨bq⟩⟩
         ·rw [if_neg c50] at H
          exact absurd H (by simp)
       ·rw [if_neg c27] at H
        exact absurd H (by simp)
      ·rw [if_neg c26] at H
       exact absurd H (by simp)
     ·rw [if_neg c25] at H
      have c25b0 := decide_eq_false c25
      clear c25
      simp only [Option.some.injEq, Prod.mk.injEq] at H
      obtain ⟨rfl, rfl, rfl⟩ := H
      have hnb65 := NB227_221.out
      have hnc65 := NB221_227.out
      have hnb66 := NB227_222.out
      have hnc66 := NB222_227.out
      obtain ⟨hcz67_0, hcz67_1, hcz67_2, hfz67_0, hfz67_1, hfz67_2⟩ := q_3 BK227.out
      have hnb68 := NB222_221.out
      have hnc68 := NB221_222.out
      obtain ⟨hcz69_0, hcz69_1, hcz69_2, hfz69_0, hfz69_1, hfz69_2⟩ := q_3 BK222.out
      obtain ⟨Ao70, co70, eo70⟩ := Kd.R_slice HO_228001.out
      subst eo70
      obtain ⟨Ao71, co71, eo71⟩ := Kd.S_slice HO_228002.out
      subst eo71
      go_wp2
      refine bodyPost_ret (results_cell_row rfl _ _ gb222 32 #[.int .i64 0, .slice Ao70 x228001_1.length co70, .slice Ao71 x228002_1.length co71] (0, 0) _ rfl (by (with_reducible repeat (first | refine blk_drewN ?_ _ | refine blk_drew ?_ | refine blk_alloc ?_ _)); refine blk_put (cs := #[.int .i64 0, .slice Ao70 x228001_1.length co70, .slice none 0 0]) ?_ 2 _ rfl; (with_reducible repeat (first | refine blk_drewN ?_ _ | refine blk_drew ?_ | refine blk_alloc ?_ _)); refine blk_put (cs := #[.int .i64 0, .slice none 0 0, .slice none 0 0]) ?_ 1 _ rfl; (with_reducible repeat (first | refine blk_drewN ?_ _ | refine blk_drew ?_ | refine blk_alloc ?_ _)); refine blk_put (cs := #[.int .i64 0, .slice none 0 0, .slice none 0 0]) ?_ 0 _ rfl; (with_reducible repeat (first | refine blk_drewN ?_ _ | refine blk_drew ?_ | refine blk_alloc ?_ _)); exact BK222.out) Try.underlying32 rfl (by kernel_rfl)) rfl ?_
      exact ⟨_, _, q_e, by (with_reducible repeat (first | apply Kd.R_alloc | apply Kd.R_drewN | apply Kd.R_drew)); exact Kd.R_mono (Kd.R_far (p := ⟨gb222, 2, none⟩) (Kd.R_far (p := ⟨gb222, 1, none⟩) (Kd.R_far (p := ⟨gb222, 0, none⟩) (Kd.R_types HO_228001.out BK222.out (by decide)) (fun _ hk => hk.2) (.int .i64 0)) (fun _ hk => hk.2) (.slice Ao70 x228001_1.length co70)) (fun _ hk => hk.2) (.slice Ao71 x228002_1.length co71)) (fun _ hk => trivial), by (with_reducible repeat (first | apply Kd.S_alloc | apply Kd.S_drewN | apply Kd.S_drew)); exact Kd.S_mono (Kd.S_far (p := ⟨gb222, 2, none⟩) (Kd.S_far (p := ⟨gb222, 1, none⟩) (Kd.S_far (p := ⟨gb222, 0, none⟩) (Kd.S_types HO_228002.out BK222.out (by decide)) (fun _ hk => hk.2) (.int .i64 0)) (fun _ hk => hk.2) (.slice Ao70 x228001_1.length co70)) (fun _ hk => hk.2) (.slice Ao71 x228002_1.length co71)) (fun _ hk => trivial), bq⟩
 ·rw [if_neg c4] at H
  have c4b0 : (t223 == 0) = false := beq_eq_false_iff_ne.mpr c4
  have c4b1 : (t223 != 0) = true := bne_iff_ne.mpr c4
  simp only [Option.some.injEq, Prod.mk.injEq] at H
  obtain ⟨rfl, rfl, rfl⟩ := H
  go_enter Try.func15, Try.ntmps15
  go_wp2_with (first | ((with_reducible refine gate_dst (N := 2) rfl ?_); refine q_box (N := 2) (cs := #[.slice A0_0 l0_0.length c0_0]) (t := 26) ?_; intro gb221 hg w72 hbox hb; have n0_ := am (below_step bq hb); have n1_ := am (hbox); have n2_ := am ((q_g hg bq : w.heap.size ≤ gb221)); have n3_ := n2_; revert n0_ n1_ n2_ n3_; clear HB; intro HB BK221 GW221 GE221; clear hb hbox hg) | ((with_reducible refine gate_dst (N := 4) rfl ?_); refine q_box (N := 4) (cs := #[.int .i64 0, .slice none 0 0, .slice none 0 0]) (t := 32) ?_; intro gb222 hg w73 hbox hb; have n0_ := am (blk_below (q_b BK221.out) hb); have n1_ := am (below_step bq hb); have n2_ := am (hbox); have n3_ := am ((q_g hg bq : w.heap.size ≤ gb222)); have n4_ := n3_; have n5_ := am ((q_n hg (q_b BK221.out) : gb221 ≠ gb222)); have n6_ := am n5_.out.symm; revert n0_ n1_ n2_ n3_ n4_ n5_ n6_; clear BK221 HB; intro BK221 HB BK222 GW222 GE222 NB221_222 NB222_221; clear hb hbox hg; have hnb74 := NB221_222.out; have hnc74 := NB222_221.out; obtain ⟨hcz75_0, hfz75_0⟩ := q_1 BK221.out) | ((with_reducible refine gate_callee (f := 17) rfl ?_); refine goesLq (some 11) rfl rfl Try.func17 (by kernel_rfl) rfl #[.agg #[.slice A0_0 l0_0.length c0_0]] rfl ?_; (with_reducible refine (impl_LedgerFault.calls k _ _ l0_0 t223 _ ?side1 ?side2 A3.out).mono ?_); (case side1 => exact q_c ((Kd.C_below HR0_0.out HB.out))); (case side2 => exact HC0_0.out); rintro e w76 ⟨rfl, hb⟩; refine ⟨_, rfl, ?_⟩; have n0_ := am (blk_below (q_b BK221.out) hb); have n1_ := am (blk_below (q_b BK222.out) hb); have n2_ := am (below_step bq hb); revert n0_ n1_ n2_; clear BK221 BK222 HB; intro BK221 BK222 HB; (try clear hb); (try clear hb2); (try clear hk); (try clear hi); obtain ⟨hcz77_0, hcz77_1, hcz77_2, hfz77_0, hfz77_1, hfz77_2⟩ := q_3 BK222.out))
  refine bodyPost_ret (results_cell_row rfl _ _ gb222 32 #[.int .i64 t223, .slice none 0 0, .slice none 0 0] (0, 0) _ rfl (by (with_reducible repeat (first | refine blk_drewN ?_ _ | refine blk_drew ?_ | refine blk_alloc ?_ _)); refine blk_put (cs := #[.int .i64 t223, .slice none 0 0, .slice none 0 0]) ?_ 2 _ rfl; (with_reducible repeat (first | refine blk_drewN ?_ _ | refine blk_drew ?_ | refine blk_alloc ?_ _)); refine blk_put (cs := #[.int .i64 t223, .slice none 0 0, .slice none 0 0]) ?_ 1 _ rfl; (with_reducible repeat (first | refine blk_drewN ?_ _ | refine blk_drew ?_ | refine blk_alloc ?_ _)); refine blk_put (cs := #[.int .i64 0, .slice none 0 0, .slice none 0 0]) ?_ 0 _ rfl; (with_reducible repeat (first | refine blk_drewN ?_ _ | refine blk_drew ?_ | refine blk_alloc ?_ _)); exact BK222.out) Try.underlying32 rfl (by kernel_rfl)) rfl ?_
  exact ⟨_, _, q_e, by first | exact Kd.R_nil _ _ _ _ _ | exact Kd.N_nil _ _ _ _ _ | exact Kd.V_nil _ _ _ _ _ | exact Kd.Q_nil _ _ _ _ _ | exact Kd.S_nil _ _ _ _ _, by first | exact Kd.S_nil _ _ _ _ _ | exact Kd.N_nil _ _ _ _ _ | exact Kd.V_nil _ _ _ _ _ | exact Kd.Q_nil _ _ _ _ _ | exact Kd.R_nil _ _ _ _ _, bq⟩

/-! ### spec_l1In: function 81 -/
def spec_l1In.f (a0 : Int) (a1 : Int) (a2 : Int) : Option (Bool) := if a0 ≥ a1 then (some (decide (a0 ≤ a2))) else (some false)
theorem spec_l1In.calls (a0 : Int) (a1 : Int) (a2 : Int) (r : Bool) (w : World) (h : spec_l1In.f a0 a1 a2 = some r) :
  Calls Try.prog 81 #[.int .i64 a0, .int .i64 a1, .int .i64 a2] w fun e w' => e = .returned (.bool r) ∧ Drawn0 w w' := by
 have H : (if a0 ≥ a1 then (some (decide (a0 ≤ a2))) else (some false)) = some r := h
 clear h
 by_cases c4 : a0 ≥ a1
 ·rw [if_pos c4] at H
  have c4b0 := decide_eq_true c4
  clear c4
  obtain rfl := Option.some.inj H
  go_enter Try.func81, Try.ntmps81
  go_wp2
  go_ret
  exact ⟨by first | rfl | (simp; done) | (simp [*]; done), q_0⟩
 ·rw [if_neg c4] at H
  have c4b0 := decide_eq_false c4
  clear c4
  obtain rfl := Option.some.inj H
  go_enter Try.func81, Try.ntmps81
  go_wp2
  go_ret
  exact ⟨by first | rfl | (simp; done) | (simp [*]; done), q_0⟩

/-! ### spec_l2Key: function 80 -/
def spec_l2Key.f (a0 : Int) (a1 : Int) : Option (Bool) := (spec_l1In.f a0 0 5).bind fun t240 => (if t240 = true then ((spec_l1In.f a1 0 2).bind fun t241 => (some t241)) else (some false))
theorem spec_l2Key.calls (a0 : Int) (a1 : Int) (r : Bool) (w : World) (h : spec_l2Key.f a0 a1 = some r) :
  Calls Try.prog 80 #[.int .i64 a0, .int .i64 a1] w fun e w' => e = .returned (.bool r) ∧ Drawn0 w w' := by
 have H : ((spec_l1In.f a0 0 5).bind fun t240 => (if t240 = true then ((spec_l1In.f a1 0 2).bind fun t241 => (some t241)) else (some false))) = some r := h
 clear h
 replace H := ob H
 obtain ⟨t240, A30, H⟩ := H
 replace H : (if t240 = true then ((spec_l1In.f a1 0 2).bind fun t241 => (some t241)) else (some false)) = some r := H
 have A3 := am A30
 clear A30
 by_cases c4 : t240 = true
 ·subst c4
  have H1 : ((spec_l1In.f a1 0 2).bind fun t241 => (some t241)) = some r := by rw [if_pos rfl] at H; exact H
  clear H
  have H := H1
  clear H1
  replace H := ob H
  obtain ⟨t241, A50, H⟩ := H
  replace H : (some t241) = some r := H
  have A5 := am A50
  clear A50
  obtain rfl := Option.some.inj H
  go_enter Try.func80, Try.ntmps80
  go_wp2_with (first | ((with_reducible refine gate_callee (f := 81) rfl ?_); refine goesLq (some 6) rfl rfl Try.func81 (by kernel_rfl) rfl #[.int .i64 a0, .int .i64 0, .int .i64 5] rfl ?_; (with_reducible refine (spec_l1In.calls a0 0 5 true _ A3.out).mono ?_); rintro e w' ⟨rfl, ⟨nd, rfl⟩⟩; refine ⟨_, rfl, ?_⟩) | (go_at_call 81; (with_reducible refine (spec_l1In.calls a1 0 2 t241 _ A5.out).mono ?_); rintro e w' ⟨rfl, ⟨nd, rfl⟩⟩))
  go_ret
  exact ⟨by first | rfl | (simp; done) | (simp [*]; done), q_0⟩
 ·replace c4 := Bool.eq_false_iff.mpr c4
  subst c4
  have H1 : (some false) = some r := by rw [if_neg (show ¬ (false = true) by decide)] at H; exact H
  clear H
  have H := H1
  clear H1
  obtain rfl := Option.some.inj H
  go_enter Try.func80, Try.ntmps80
  go_wp2_with (first | ((with_reducible refine gate_callee (f := 81) rfl ?_); refine goesLq (some 6) rfl rfl Try.func81 (by kernel_rfl) rfl #[.int .i64 a0, .int .i64 0, .int .i64 5] rfl ?_; (with_reducible refine (spec_l1In.calls a0 0 5 false _ A3.out).mono ?_); rintro e w' ⟨rfl, ⟨nd, rfl⟩⟩; refine ⟨_, rfl, ?_⟩))
  go_ret
  exact ⟨by first | rfl | (simp; done) | (simp [*]; done), q_0⟩

end Go.Proofs.Ytanegggacfmkcaa.PFnExactSettleAll
