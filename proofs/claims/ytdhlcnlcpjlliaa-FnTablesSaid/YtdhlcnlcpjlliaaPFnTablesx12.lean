/- Functions that a law reaches, as plain Lean functions, with the proof that the machine comes to their answers. No conditions. -/
import Derived.Test.YtdhlcnlcpjlliaaPFnTablesx0
import Derived.Test.YtdhlcnlcpjlliaaPFnTablesx3
import Derived.Test.YtdhlcnlcpjlliaaPFnTablesx6
import Derived.Test.YtdhlcnlcpjlliaaPFnTablesx10
import Derived.Test.YtdhlcnlcpjlliaaPFnTablesx11
namespace Go.Proofs.Ytdhlcnlcpjlliaa.PFnTables
open Go.RowKit Go.Proofs.YtdhlcnlcpjlliaaW.PrintWords Go.Proofs.YtdhlcnlcpjlliaaW.PrintLast Go.Proofs.YtdhlcnlcpjlliaaW.PrintMore
attribute [local go_sem] max2_int min2_int max_two min_two max_three min_three max_four min_four   -- for this text's walks alone
set_option linter.unusedVariables false
set_option linter.unusedSimpArgs false
set_option maxHeartbeats 8000000
set_option maxRecDepth 100000

/-! ### impl_merged: function 102 -/
def impl_merged.f (k : Nat) (l0 : List (List (S49))) : Option ((List (S49))) := (slices_Concat_impl_Row.f k l0).bind fun t344 => ((slices_SortStableFunc_impl_Row.f k t344).bind fun t347 => ((slices_CompactFunc_impl_Row.f k t347).bind fun t348 => (some t348)))
theorem impl_merged.calls (k : Nat) (A0 : Option Addr) (c0 : Nat) (l0 : List (List (S49))) (r : List (S49)) (w : World) (hr0 : Kd.C (Kd.slice 49 k49) w A0 l0.length l0) (hc0 : l0.length ≤ c0) (h : impl_merged.f k l0 = some r) :
  Calls Try.prog 102 #[.slice A0 l0.length c0] w fun e w' => ∃ v0_ : Value, e = .returned (v0_) ∧ Kd.R k49 49 w' w.heap.size (fun _ => True) v0_ r ∧ Below w.heap.size w w' := by
 have HR0 := am hr0
 have HC0 := am hc0
 clear hr0 hc0
 have HB := am (Below.refl w.heap.size w)
 have H : ((slices_Concat_impl_Row.f k l0).bind fun t344 => ((slices_SortStableFunc_impl_Row.f k t344).bind fun t347 => ((slices_CompactFunc_impl_Row.f k t347).bind fun t348 => (some t348)))) = some r := h
 clear h
 replace H := ob H
 obtain ⟨t344, A20, H⟩ := H
 replace H : ((slices_SortStableFunc_impl_Row.f k t344).bind fun t347 => ((slices_CompactFunc_impl_Row.f k t347).bind fun t348 => (some t348))) = some r := H
 have A2 := am A20
 clear A20
 replace H := ob H
 obtain ⟨t347, A30, H⟩ := H
 replace H : ((slices_CompactFunc_impl_Row.f k t347).bind fun t348 => (some t348)) = some r := H
 have A3 := am A30
 clear A30
 replace H := ob H
 obtain ⟨t348, A40, H⟩ := H
 replace H : (some t348) = some r := H
 have A4 := am A40
 clear A40
 obtain rfl := Option.some.inj H
 go_enter Try.func102, Try.ntmps102
 go_wp2_with (first | ((with_reducible refine gate_callee (f := 125) rfl ?_); refine goesLq (some 5) rfl rfl Try.func125 (by kernel_rfl) rfl #[.slice A0 l0.length c0] rfl ?_; (with_reducible refine (slices_Concat_impl_Row.calls k _ _ l0 t344 _ ?side1 ?side2 A2.out).mono ?_); (case side1 => exact q_c (HR0.out)); (case side2 => exact HC0.out); rintro e w5 ⟨v345, rfl, ho0, hb⟩; refine ⟨_, rfl, ?_⟩; have n0_ := am (Kd.R_lower ho0 (below_size bq)); have n1_ := am (below_step bq hb); revert n0_ n1_; clear HB; intro HO346 HB; (try clear hb); (try clear hb2); (try clear hk); (try clear hi); (try clear ho0); obtain ⟨Ao6, co6, eo6⟩ := Kd.R_slice HO346.out; subst eo6) | ((with_reducible refine gate_callee (f := 126) rfl ?_); refine goesLq (some 7) rfl rfl Try.func126 (by kernel_rfl) rfl #[.slice Ao6 t344.length co6, .func (.func 67) #[] #[]] rfl ?_; (with_reducible refine (slices_SortStableFunc_impl_Row.calls k (fun k_ => some k_ = (.slice Ao6 t344.length co6 : Value).ownBlock) (.slice Ao6 t344.length co6) t344 t347 w _ ?side1 ?side2 A3.out).mono ?_); (case side1 => repeat (first | (with_reducible first | exact HB.out | apply below_alloc | apply pw_below_drewN | apply below_drew1) | exact HB.out)); (case side2 => exact Kd.R_tight rfl HO346.out); rintro e w7 ⟨rfl, hy0, hb, hkp⟩; refine ⟨_, rfl, ?_⟩; have n0_ := am (Kd.R_reok rfl hy0 (fun k_ e_ => HO346.out.1 k_ e_)); have n1_ := am (hb); revert n0_ n1_; clear HO346 HB; intro HO346 HB; (try clear hb); (try clear hkp); (try clear hy0)) | ((with_reducible refine gate_callee (f := 127) rfl ?_); refine goesLq (some 9) rfl rfl Try.func127 (by kernel_rfl) rfl #[.slice Ao6 t344.length co6, .func (.func 128) #[] #[]] rfl ?_; (with_reducible refine (slices_CompactFunc_impl_Row.calls k (fun k_ => some k_ = (.slice Ao6 t344.length co6 : Value).ownBlock) (.slice Ao6 t344.length co6) t347 t348 w _ ?side1 ?side2 A4.out).mono ?_); (case side1 => repeat (first | (with_reducible first | exact HB.out | apply below_alloc | apply pw_below_drewN | apply below_drew1) | exact HB.out)); (case side2 => exact Kd.R_tight rfl HO346.out); rintro e w8 ⟨v349, rfl, ho0, hb, hkp⟩; refine ⟨_, rfl, ?_⟩; have n0_ := am (Kd.R_mono (ok' := fun k_ => True) ho0 (fun k_ hk_ => trivial)); have n1_ := am (hb); revert n0_ n1_; clear HB HO346; intro HO350 HB; (try clear hb); (try clear hkp); (try clear ho0)))
 go_ret
 exact ⟨_, q_e, q_r (HO350.out), bq⟩

/-! ### impl_MergeTables: function 56 -/
def impl_MergeTables.l0 : Nat → List (List (S49)) → List (List (S49)) → Int → Int → Option (Int × (List (S49)))
  | 0, _, _, _, _ => none
  | k + 1, x0, x11, x12, x13 => if x13 < x12 then (if 0 ≤ x13 then (if x13 < (x11.length : Int) then ((impl_TableFault.f k (rd_L5 x11 x13)).bind fun t353 => (if t353 = 0 then (impl_MergeTables.l0 k x0 x11 x12 (wrap64 (x13 + 1))) else (some (t353, ([] : List (S49)))))) else (none)) else (none)) else ((impl_merged.f k x0).bind fun t354 => (if (t354.length : Int) > 200 then (some (2, ([] : List (S49)))) else (some (0, t354))))
def impl_MergeTables.f (k : Nat) (l0 : List (List (S49))) : Option (Int × (List (S49))) := if (l0.length : Int) > 8 then (some (2, ([] : List (S49)))) else (impl_MergeTables.l0 k l0 l0 (l0.length : Int) 0)
theorem impl_MergeTables.calls (k : Nat) (A0 : Option Addr) (c0 : Nat) (l0 : List (List (S49))) (r1 : Int) (r2 : List (S49)) (w : World) (hr0 : Kd.C (Kd.slice 49 k49) w A0 l0.length l0) (hc0 : l0.length ≤ c0) (h : impl_MergeTables.f k l0 = some (r1, r2)) :
  Calls Try.prog 56 #[.slice A0 l0.length c0] w fun e w' => ∃ v1_ : Value, e = .returned (.agg #[.int .i64 r1, v1_]) ∧ Kd.R k49 49 w' w.heap.size (fun _ => True) v1_ r2 ∧ Below w.heap.size w w' := by
 have hu46 := Try.underlying46
 have HR0 := am hr0
 have HC0 := am hc0
 clear hr0 hc0
 have HB := am (Below.refl w.heap.size w)
 have H : (if (l0.length : Int) > 8 then (some (2, ([] : List (S49)))) else (impl_MergeTables.l0 k l0 l0 (l0.length : Int) 0)) = some (r1, r2) := h
 clear h
 by_cases c2 : (l0.length : Int) > 8
 ·rw [if_pos c2] at H
  have c2b0 := decide_eq_true c2
  have c2b1 : decide (8 < l0.length) = true := decide_eq_true (by omega)
  clear c2
  simp only [Option.some.injEq, Prod.mk.injEq] at H
  obtain ⟨rfl, rfl⟩ := H
  go_enter Try.func56, Try.ntmps56
  go_wp2_with (first | ((with_reducible refine gate_dst (N := 2) rfl ?_); refine q_box (N := 2) (cs := #[.int .i64 0, .slice none 0 0]) (t := 46) ?_; intro gb351 hg w3 hbox hb; have n0_ := am (below_step bq hb); have n1_ := am (hbox); have n2_ := am ((q_g hg bq : w.heap.size ≤ gb351)); have n3_ := n2_; revert n0_ n1_ n2_ n3_; clear HB; intro HB BK351 GW351 GE351; clear hb hbox hg; obtain ⟨hcz4_0, hcz4_1, hfz4_0, hfz4_1⟩ := q_2 BK351.out))
  refine bodyPost_ret (results_cell_row rfl _ _ gb351 46 #[.int .i64 2, .slice none 0 0] (0, 0) _ rfl (by (with_reducible repeat (first | refine blk_drewN ?_ _ | refine blk_drew ?_ | refine blk_alloc ?_ _)); refine blk_put (cs := #[.int .i64 2, .slice none 0 0]) ?_ 1 _ rfl; (with_reducible repeat (first | refine blk_drewN ?_ _ | refine blk_drew ?_ | refine blk_alloc ?_ _)); refine blk_put (cs := #[.int .i64 0, .slice none 0 0]) ?_ 0 _ rfl; (with_reducible repeat (first | refine blk_drewN ?_ _ | refine blk_drew ?_ | refine blk_alloc ?_ _)); exact BK351.out) Try.underlying46 rfl (by kernel_rfl)) rfl ?_
  exact ⟨_, q_e, by first | exact Kd.R_nil _ _ _ _ _ | exact Kd.N_nil _ _ _ _ _ | exact Kd.V_nil _ _ _ _ _ | exact Kd.Q_nil _ _ _ _ _ | exact Kd.S_nil _ _ _ _ _, bq⟩
 ·rw [if_neg c2] at H
  have c2b0 := decide_eq_false c2
  have c2b1 : decide (8 < l0.length) = false := decide_eq_false (by omega)
  clear c2
  have H' := am H
  clear H
  go_enter Try.func56, Try.ntmps56
  go_wp2_with (first | ((with_reducible refine gate_dst (N := 2) rfl ?_); refine q_box (N := 2) (cs := #[.int .i64 0, .slice none 0 0]) (t := 46) ?_; intro gb351 hg w5 hbox hb; have n0_ := am (below_step bq hb); have n1_ := am (hbox); have n2_ := am ((q_g hg bq : w.heap.size ≤ gb351)); have n3_ := n2_; revert n0_ n1_ n2_ n3_; clear HB; intro HB BK351 GW351 GE351; clear hb hbox hg))
  go_loopg [13] k (fun kq v13 w' => ∃ (x13_1 : Int) (x352000_1 : Int), v13 = .int .i64 x13_1 ∧ Aside0 (impl_MergeTables.l0 kq l0 l0 (l0.length : Int) x13_1 = some (r1, r2)) ∧ Aside0 (kq ≤ k) ∧ Aside0 (w'.heap[gb351]? = some (.cells #[.int .i64 x352000_1, (.slice none 0 0)] 46 (0, 0))) ∧ Aside0 (Below w.heap.size w w'))
  case atStart => exact ⟨(0), (0), q_i, H', ⟨Nat.le_refl _⟩, ⟨q_b BK351.out⟩, ⟨bq⟩⟩
  case round =>
   clear H'
   (try clear c2); (try clear c2b0); (try clear c2b1); (try clear p2); (try clear c5); (try clear hcz4_0); (try clear hcz4_1); (try clear hfz4_0); (try clear hfz4_1)
   obtain ⟨x13_1, x352000_1, rfl, HA, HK1, BK351, HB⟩ := hrel
   cases gk with
   | zero => exact absurd HA.out (by simp [impl_MergeTables.l0])
   | succ k1 =>
    have H := HA.out
    clear HA
    simp only [impl_MergeTables.l0] at H
    by_cases c6 : x13_1 < (l0.length : Int)
    ·rw [if_pos c6] at H
     have c6b0 := decide_eq_true c6
     clear c6
     by_cases c7 : 0 ≤ x13_1
     ·rw [if_pos c7] at H
      have c7b0 := decide_eq_true c7
      clear c7
      by_cases c8 : x13_1 < (l0.length : Int)
      ·rw [if_pos c8] at H
       have c8b0 := decide_eq_true c8
       clear c8
       replace H := ob H
       obtain ⟨t353, A90, H⟩ := H
       replace H : (if t353 = 0 then (impl_MergeTables.l0 k1 l0 l0 (l0.length : Int) (wrap64 (x13_1 + 1))) else (some (t353, ([] : List (S49))))) = some (r1, r2) := H
       have A9 := am A90
       clear A90
       by_cases c10 : t353 = 0
       ·rw [if_pos c10] at H
        have c10b0 : (t353 == 0) = true := beq_iff_eq.mpr c10
        have c10b1 : (t353 != 0) = false := bne_eq_false_iff_eq.mpr c10
        clear c10
        have H' := am H
        clear H
        have p352 : 0 ≤ (x13_1 : Int) := q_d
        have q352 : x13_1 < (l0.length : Int) := q_d
        obtain ⟨ad352, A352_0, c352_0, e352, hx352_0, hl352_0, hi352_0⟩ := at_L5 HR0.out x13_1 p352 q352
        cases e352
        replace hx352_0 := q_x HB.out hx352_0
        have HR352_0 := am hi352_0
        have HC352_0 := am hl352_0
        clear hi352_0 hl352_0
        replace p352 := eq_true p352
        replace q352 := eq_true q352
        go_wp2_with (first | ((with_reducible refine gate_callee (f := 18) rfl ?_); refine goesLq (some 18) rfl rfl Try.func18 (by kernel_rfl) rfl #[.slice A352_0 (rd_L5 l0 x13_1).length c352_0] rfl ?_; (with_reducible refine (impl_TableFault.calls k1 _ _ (rd_L5 l0 x13_1) t353 _ ?side1 ?side2 A9.out).mono ?_); (case side1 => exact q_c ((Kd.C_below HR352_0.out HB.out))); (case side2 => exact HC352_0.out); rintro e w11 ⟨rfl, hb⟩; refine ⟨_, rfl, ?_⟩; have n0_ := am (blk_below (q_b BK351.out) hb); have n1_ := am (below_step bq hb); revert n0_ n1_; clear BK351 HB; intro BK351 HB; (try clear hb); (try clear hb2); (try clear hk); (try clear hi)))
        go_roundg k1
        case measure => have := HK1.out; omega
        case rel => exact ⟨(wrap64 (x13_1 + 1)), (x352000_1), q_i, H', ⟨by have := HK1.out; omega⟩, ⟨q_b BK351.out⟩, ⟨bq⟩⟩
       ·rw [if_neg c10] at H
        have c10b0 : (t353 == 0) = false := beq_eq_false_iff_ne.mpr c10
        have c10b1 : (t353 != 0) = true := bne_iff_ne.mpr c10
        simp only [Option.some.injEq, Prod.mk.injEq] at H
        obtain ⟨rfl, rfl⟩ := H
        have p352 : 0 ≤ (x13_1 : Int) := q_d
        have q352 : x13_1 < (l0.length : Int) := q_d
        obtain ⟨ad352, A352_0, c352_0, e352, hx352_0, hl352_0, hi352_0⟩ := at_L5 HR0.out x13_1 p352 q352
        cases e352
        replace hx352_0 := q_x HB.out hx352_0
        have HR352_0 := am hi352_0
        have HC352_0 := am hl352_0
        clear hi352_0 hl352_0
        replace p352 := eq_true p352
        replace q352 := eq_true q352
        go_wp2_with (first | ((with_reducible refine gate_callee (f := 18) rfl ?_); refine goesLq (some 18) rfl rfl Try.func18 (by kernel_rfl) rfl #[.slice A352_0 (rd_L5 l0 x13_1).length c352_0] rfl ?_; (with_reducible refine (impl_TableFault.calls k1 _ _ (rd_L5 l0 x13_1) t353 _ ?side1 ?side2 A9.out).mono ?_); (case side1 => exact q_c ((Kd.C_below HR352_0.out HB.out))); (case side2 => exact HC352_0.out); rintro e w12 ⟨rfl, hb⟩; refine ⟨_, rfl, ?_⟩; have n0_ := am (blk_below (q_b BK351.out) hb); have n1_ := am (below_step bq hb); revert n0_ n1_; clear BK351 HB; intro BK351 HB; (try clear hb); (try clear hb2); (try clear hk); (try clear hi); obtain ⟨hcz13_0, hcz13_1, hfz13_0, hfz13_1⟩ := q_2 BK351.out))
        refine bodyPost_ret (results_cell_row rfl _ _ gb351 46 #[.int .i64 t353, .slice none 0 0] (0, 0) _ rfl (by (with_reducible repeat (first | refine blk_drewN ?_ _ | refine blk_drew ?_ | refine blk_alloc ?_ _)); refine blk_put (cs := #[.int .i64 t353, .slice none 0 0]) ?_ 1 _ rfl; (with_reducible repeat (first | refine blk_drewN ?_ _ | refine blk_drew ?_ | refine blk_alloc ?_ _)); refine blk_put (cs := #[.int .i64 x352000_1, .slice none 0 0]) ?_ 0 _ rfl; (with_reducible repeat (first | refine blk_drewN ?_ _ | refine blk_drew ?_ | refine blk_alloc ?_ _)); exact BK351.out) Try.underlying46 rfl (by kernel_rfl)) rfl ?_
        exact ⟨_, q_e, by first | exact Kd.R_nil _ _ _ _ _ | exact Kd.N_nil _ _ _ _ _ | exact Kd.V_nil _ _ _ _ _ | exact Kd.Q_nil _ _ _ _ _ | exact Kd.S_nil _ _ _ _ _, bq⟩
      ·rw [if_neg c8] at H
       exact absurd H (by simp)
     ·rw [if_neg c7] at H
      exact absurd H (by simp)
    ·rw [if_neg c6] at H
     have c6b0 := decide_eq_false c6
     clear c6
     replace H := ob H
     obtain ⟨t354, A140, H⟩ := H
     replace H : (if (t354.length : Int) > 200 then (some (2, ([] : List (S49)))) else (some (0, t354))) = some (r1, r2) := H
     have A14 := am A140
     clear A140
     by_cases c15 : (t354.length : Int) > 200
     ·rw [if_pos c15] at H
      have c15b0 := decide_eq_true c15
      have c15b1 : decide (200 < t354.length) = true := decide_eq_true (by omega)
      clear c15
      simp only [Option.some.injEq, Prod.mk.injEq] at H
      obtain ⟨rfl, rfl⟩ := H
      go_wp2_with (first | ((with_reducible refine gate_callee (f := 102) rfl ?_); refine goesLq (some 25) rfl rfl Try.func102 (by kernel_rfl) rfl #[.slice A0 l0.length c0] rfl ?_; (with_reducible refine (impl_merged.calls k1 _ _ l0 t354 _ ?side1 ?side2 A14.out).mono ?_); (case side1 => exact q_c ((Kd.C_below HR0.out HB.out))); (case side2 => exact HC0.out); rintro e w16 ⟨v355, rfl, ho0, hb⟩; refine ⟨_, rfl, ?_⟩; have n0_ := am (Kd.R_lower ho0 (below_size bq)); have n1_ := am (blk_below (q_b BK351.out) hb); have n2_ := am (below_step bq hb); revert n0_ n1_ n2_; clear BK351 HB; intro HO356 BK351 HB; (try clear hb); (try clear hb2); (try clear hk); (try clear hi); (try clear ho0); obtain ⟨Ao17, co17, eo17⟩ := Kd.R_slice HO356.out; subst eo17; obtain ⟨hcz18_0, hcz18_1, hfz18_0, hfz18_1⟩ := q_2 BK351.out))
      refine bodyPost_ret (results_cell_row rfl _ _ gb351 46 #[.int .i64 2, .slice none 0 0] (0, 0) _ rfl (by (with_reducible repeat (first | refine blk_drewN ?_ _ | refine blk_drew ?_ | refine blk_alloc ?_ _)); refine blk_put (cs := #[.int .i64 2, .slice none 0 0]) ?_ 1 _ rfl; (with_reducible repeat (first | refine blk_drewN ?_ _ | refine blk_drew ?_ | refine blk_alloc ?_ _)); refine blk_put (cs := #[.int .i64 x352000_1, .slice none 0 0]) ?_ 0 _ rfl; (with_reducible repeat (first | refine blk_drewN ?_ _ | refine blk_drew ?_ | refine blk_alloc ?_ _)); exact BK351.out) Try.underlying46 rfl (by kernel_rfl)) rfl ?_
      exact ⟨_, q_e, by first | exact Kd.R_nil _ _ _ _ _ | exact Kd.N_nil _ _ _ _ _ | exact Kd.V_nil _ _ _ _ _ | exact Kd.Q_nil _ _ _ _ _ | exact Kd.S_nil _ _ _ _ _, bq⟩
     ·rw [if_neg c15] at H
      have c15b0 := decide_eq_false c15
      have c15b1 : decide (200 < t354.length) = false := decide_eq_false (by omega)
      clear c15
      simp only [Option.some.injEq, Prod.mk.injEq] at H
      obtain ⟨rfl, rfl⟩ := H
      go_wp2_with (first | ((with_reducible refine gate_callee (f := 102) rfl ?_); refine goesLq (some 25) rfl rfl Try.func102 (by kernel_rfl) rfl #[.slice A0 l0.length c0] rfl ?_; (with_reducible refine (impl_merged.calls k1 _ _ l0 t354 _ ?side1 ?side2 A14.out).mono ?_); (case side1 => exact q_c ((Kd.C_below HR0.out HB.out))); (case side2 => exact HC0.out); rintro e w19 ⟨v355, rfl, ho0, hb⟩; refine ⟨_, rfl, ?_⟩; have n0_ := am (Kd.R_lower ho0 (below_size bq)); have n1_ := am (blk_below (q_b BK351.out) hb); have n2_ := am (below_step bq hb); revert n0_ n1_ n2_; clear BK351 HB; intro HO356 BK351 HB; (try clear hb); (try clear hb2); (try clear hk); (try clear hi); (try clear ho0); obtain ⟨Ao20, co20, eo20⟩ := Kd.R_slice HO356.out; subst eo20; obtain ⟨hcz21_0, hcz21_1, hfz21_0, hfz21_1⟩ := q_2 BK351.out))
      refine bodyPost_ret (results_cell_row rfl _ _ gb351 46 #[.int .i64 0, .slice Ao20 t354.length co20] (0, 0) _ rfl (by (with_reducible repeat (first | refine blk_drewN ?_ _ | refine blk_drew ?_ | refine blk_alloc ?_ _)); refine blk_put (cs := #[.int .i64 0, .slice none 0 0]) ?_ 1 _ rfl; (with_reducible repeat (first | refine blk_drewN ?_ _ | refine blk_drew ?_ | refine blk_alloc ?_ _)); refine blk_put (cs := #[.int .i64 x352000_1, .slice none 0 0]) ?_ 0 _ rfl; (with_reducible repeat (first | refine blk_drewN ?_ _ | refine blk_drew ?_ | refine blk_alloc ?_ _)); exact BK351.out) Try.underlying46 rfl (by kernel_rfl)) rfl ?_
      exact ⟨_, q_e, by (with_reducible repeat (first | apply Kd.R_alloc | apply Kd.R_drewN | apply Kd.R_drew)); exact Kd.R_mono (Kd.R_far (p := ⟨gb351, 1, none⟩) (Kd.R_far (p := ⟨gb351, 0, none⟩) (Kd.R_types HO356.out BK351.out (by decide)) (fun _ hk => hk.2) (.int .i64 0)) (fun _ hk => hk.2) (.slice Ao20 t354.length co20)) (fun _ hk => trivial), bq⟩

/-! ### spec_l1In: function 89 -/
def spec_l1In.f (a0 : Int) (a1 : Int) (a2 : Int) : Option (Bool) := if a0 ≥ a1 then (some (decide (a0 ≤ a2))) else (some false)
theorem spec_l1In.calls (a0 : Int) (a1 : Int) (a2 : Int) (r : Bool) (w : World) (h : spec_l1In.f a0 a1 a2 = some r) :
  Calls Try.prog 89 #[.int .i64 a0, .int .i64 a1, .int .i64 a2] w fun e w' => e = .returned (.bool r) ∧ Drawn0 w w' := by
 have H : (if a0 ≥ a1 then (some (decide (a0 ≤ a2))) else (some false)) = some r := h
 clear h
 by_cases c4 : a0 ≥ a1
 ·rw [if_pos c4] at H
  have c4b0 := decide_eq_true c4
  clear c4
  obtain rfl := Option.some.inj H
  go_enter Try.func89, Try.ntmps89
  go_wp2
  go_ret
  exact ⟨by first | rfl | (simp; done) | (simp [*]; done), q_0⟩
 ·rw [if_neg c4] at H
  have c4b0 := decide_eq_false c4
  clear c4
  obtain rfl := Option.some.inj H
  go_enter Try.func89, Try.ntmps89
  go_wp2
  go_ret
  exact ⟨by first | rfl | (simp; done) | (simp [*]; done), q_0⟩

/-! ### spec_RowFault: function 63 -/
def spec_RowFault.j0 : Nat → Bool → ByteArray → Int → ByteArray → Bool → Option (Int)
  | 0, _, _, _, _, _ => none
  | k + 1, x21, x358000, x358001, x358002, x358003 => if x21 = true then (some 1) else (if (x358002.size : Int) > 100 then (some 2) else ((spec_l1In.f x358001 1 1000000).bind fun t358 => (if t358 = true then (some 0) else (some 3))))
def spec_RowFault.f (k : Nat) (a0_0 : ByteArray) (a0_1 : Int) (a0_2 : ByteArray) (a0_3 : Bool) : Option (Int) := if (a0_0.size : Int) < 1 then (spec_RowFault.j0 k true a0_0 a0_1 a0_2 a0_3) else (if (a0_0.size : Int) > 20 then (spec_RowFault.j0 k true a0_0 a0_1 a0_2 a0_3) else (if a0_3 = true then (spec_RowFault.j0 k (a0_2.toList != ([] : List UInt8)) a0_0 a0_1 a0_2 a0_3) else (spec_RowFault.j0 k false a0_0 a0_1 a0_2 a0_3)))
theorem spec_RowFault.calls (k : Nat) (a0_0 : ByteArray) (a0_1 : Int) (a0_2 : ByteArray) (a0_3 : Bool) (r : Int) (w : World) (h : spec_RowFault.f k a0_0 a0_1 a0_2 a0_3 = some r) :
  Calls Try.prog 63 #[.agg #[.string a0_0, .int .i64 a0_1, .string a0_2, .bool a0_3]] w fun e w' => e = .returned (.int .i64 r) ∧ Below w.heap.size w w' := by
 have hu49 := Try.underlying49
 have HB := am (Below.refl w.heap.size w)
 have H : (if (a0_0.size : Int) < 1 then (spec_RowFault.j0 k true a0_0 a0_1 a0_2 a0_3) else (if (a0_0.size : Int) > 20 then (spec_RowFault.j0 k true a0_0 a0_1 a0_2 a0_3) else (if a0_3 = true then (spec_RowFault.j0 k (a0_2.toList != ([] : List UInt8)) a0_0 a0_1 a0_2 a0_3) else (spec_RowFault.j0 k false a0_0 a0_1 a0_2 a0_3)))) = some r := h
 clear h
 have HC2 := am H
 clear H
 go_enter Try.func63, Try.ntmps63
 go_upto_region 1 with (first | ((with_reducible refine gate_dst (N := 1) rfl ?_); (try (refine gate_guard (by rfl) ?_; dsimp only)); refine q_box (N := 1) (cs := #[.string a0_0, .int .i64 a0_1, .string a0_2, .bool a0_3]) (t := 49) ?_; intro gb357 hg w3 hbox hb; have n0_ := am (below_step bq hb); have n1_ := am (hbox); have n2_ := am ((q_g hg bq : w.heap.size ≤ gb357)); have n3_ := n2_; revert n0_ n1_ n2_ n3_; clear HB; intro HB BK357 GW357 GE357; clear hb hbox hg))
 (try simp only [Act.put, List.setIfInBounds_toArray, List.set_cons_zero, List.set_cons_succ])
 go_cut [21] (fun v21 wc => ∃ (kq : Nat) (x21_1 : Bool), v21 = .bool x21_1 ∧ Aside0 (spec_RowFault.j0 kq x21_1 a0_0 a0_1 a0_2 a0_3 = some r) ∧ Aside0 (kq ≤ k) ∧ Aside0 (wc.heap[gb357]? = some (.cells #[.string a0_0, .int .i64 a0_1, .string a0_2, .bool a0_3] 49 (0, 0))) ∧ Aside0 (Below w.heap.size w wc))
 case first =>
  have H := HC2.out
  clear HC2
  by_cases c4 : (a0_0.size : Int) < 1
  ·rw [if_pos c4] at H
   have c4b0 := decide_eq_true c4
   have c4b1 : decide (a0_0.size < 1) = true := decide_eq_true (by omega)
   clear c4
   (first | rw [c4b0] | (simp only [i64_w, i32_w]; rw [c4b0]) | skip)
   have H' := am H
   clear H
   obtain ⟨hcz5_0, hcz5_1, hcz5_2, hcz5_3, hfz5_0, hfz5_1, hfz5_2, hfz5_3⟩ := q_4 BK357.out
   go_wp2
   go_meet
   case rel => exact ⟨_, (true), q_i, H', ⟨by first | omega | exact Nat.le_refl _⟩, ⟨q_b BK357.out⟩, ⟨bq⟩⟩
  ·rw [if_neg c4] at H
   have c4b0 := decide_eq_false c4
   have c4b1 : decide (a0_0.size < 1) = false := decide_eq_false (by omega)
   clear c4
   (first | rw [c4b0] | (simp only [i64_w, i32_w]; rw [c4b0]) | skip)
   by_cases c6 : (a0_0.size : Int) > 20
   ·rw [if_pos c6] at H
    have c6b0 := decide_eq_true c6
    have c6b1 : decide (20 < a0_0.size) = true := decide_eq_true (by omega)
    clear c6
    have H' := am H
    clear H
    obtain ⟨hcz7_0, hcz7_1, hcz7_2, hcz7_3, hfz7_0, hfz7_1, hfz7_2, hfz7_3⟩ := q_4 BK357.out
    go_wp2
    go_meet
    case rel => exact ⟨_, (true), q_i, H', ⟨by first | omega | exact Nat.le_refl _⟩, ⟨q_b BK357.out⟩, ⟨bq⟩⟩
   ·rw [if_neg c6] at H
    have c6b0 := decide_eq_false c6
    have c6b1 : decide (20 < a0_0.size) = false := decide_eq_false (by omega)
    clear c6
    by_cases c8 : a0_3 = true
    ·subst c8
     have H1 : (spec_RowFault.j0 k (a0_2.toList != ([] : List UInt8)) a0_0 a0_1 a0_2 true) = some r := by rw [if_pos rfl] at H; exact H
     clear H
     have H := H1
     clear H1
     have H' := am H
     clear H
     obtain ⟨hcz9_0, hcz9_1, hcz9_2, hcz9_3, hfz9_0, hfz9_1, hfz9_2, hfz9_3⟩ := q_4 BK357.out
     go_wp2
     go_meet
     case rel => exact ⟨_, ((a0_2.toList != ([] : List UInt8))), q_i, H', ⟨by first | omega | exact Nat.le_refl _⟩, ⟨q_b BK357.out⟩, ⟨bq⟩⟩
    ·replace c8 := Bool.eq_false_iff.mpr c8
     subst c8
     have H1 : (spec_RowFault.j0 k false a0_0 a0_1 a0_2 false) = some r := by rw [if_neg (show ¬ (false = true) by decide)] at H; exact H
     clear H
     have H := H1
     clear H1
     have H' := am H
     clear H
     obtain ⟨hcz10_0, hcz10_1, hcz10_2, hcz10_3, hfz10_0, hfz10_1, hfz10_2, hfz10_3⟩ := q_4 BK357.out
     go_wp2
     go_meet
     case rel => exact ⟨_, (false), q_i, H', ⟨by first | omega | exact Nat.le_refl _⟩, ⟨q_b BK357.out⟩, ⟨bq⟩⟩
 case rest =>
  clear HC2
  (try clear p2); (try clear c4); (try clear c4b0); (try clear c4b1); (try clear c6); (try clear c6b0); (try clear c6b1); (try clear c8); (try clear hcz10_0); (try clear hcz10_1); (try clear hcz10_2); (try clear hcz10_3)
  (try clear hcz5_0); (try clear hcz5_1); (try clear hcz5_2); (try clear hcz5_3); (try clear hcz7_0); (try clear hcz7_1); (try clear hcz7_2); (try clear hcz7_3); (try clear hcz9_0); (try clear hcz9_1)
  (try clear hcz9_2); (try clear hcz9_3); (try clear hfz10_0); (try clear hfz10_1); (try clear hfz10_2); (try clear hfz10_3); (try clear hfz5_0); (try clear hfz5_1); (try clear hfz5_2); (try clear hfz5_3)
  (try clear hfz7_0); (try clear hfz7_1); (try clear hfz7_2); (try clear hfz7_3); (try clear hfz9_0); (try clear hfz9_1); (try clear hfz9_2); (try clear hfz9_3)
  obtain ⟨kq, x21_1, rfl, HA, HJ1, BK357, HB⟩ := hcut
  cases kq with
  | zero => exact absurd HA.out (by simp [spec_RowFault.j0])
  | succ kj1 =>
   have H := HA.out
   clear HA
   simp only [spec_RowFault.j0] at H
   by_cases c11 : x21_1 = true
   ·subst c11
    have H1 : (some 1) = some r := by rw [if_pos rfl] at H; exact H
    clear H
    have H := H1
    clear H1
    obtain rfl := Option.some.inj H
    go_wp2
    go_ret
    exact ⟨q_e, bq⟩
   ·replace c11 := Bool.eq_false_iff.mpr c11
    subst c11
    have H1 : (if (a0_2.size : Int) > 100 then (some 2) else ((spec_l1In.f a0_1 1 1000000).bind fun t358 => (if t358 = true then (some 0) else (some 3)))) = some r := by rw [if_neg (show ¬ (false = true) by decide)] at H; exact H
    clear H
    have H := H1
    clear H1
    by_cases c12 : (a0_2.size : Int) > 100
    ·rw [if_pos c12] at H
     have c12b0 := decide_eq_true c12
     have c12b1 : decide (100 < a0_2.size) = true := decide_eq_true (by omega)
     clear c12
     obtain rfl := Option.some.inj H
     obtain ⟨hcz13_0, hcz13_1, hcz13_2, hcz13_3, hfz13_0, hfz13_1, hfz13_2, hfz13_3⟩ := q_4 BK357.out
     go_wp2
     go_ret
     exact ⟨q_e, bq⟩
    ·rw [if_neg c12] at H
     have c12b0 := decide_eq_false c12
     have c12b1 : decide (100 < a0_2.size) = false := decide_eq_false (by omega)
     clear c12
     replace H := ob H
     obtain ⟨t358, A140, H⟩ := H
     replace H : (if t358 = true then (some 0) else (some 3)) = some r := H
     have A14 := am A140
     clear A140
     by_cases c15 : t358 = true
     ·subst c15
      have H1 : (some 0) = some r := by rw [if_pos rfl] at H; exact H
      clear H
      have H := H1
      clear H1
      obtain rfl := Option.some.inj H
      obtain ⟨hcz16_0, hcz16_1, hcz16_2, hcz16_3, hfz16_0, hfz16_1, hfz16_2, hfz16_3⟩ := q_4 BK357.out
      go_wp2_with (first | ((with_reducible refine gate_callee (f := 89) rfl ?_); refine goesLq (some 28) rfl rfl Try.func89 (by kernel_rfl) rfl #[.int .i64 a0_1, .int .i64 1, .int .i64 1000000] rfl ?_; (with_reducible refine (spec_l1In.calls a0_1 1 1000000 true _ A14.out).mono ?_); rintro e w' ⟨rfl, ⟨nd, rfl⟩⟩; refine ⟨_, rfl, ?_⟩))
      go_ret
      exact ⟨q_e, bq⟩
     ·replace c15 := Bool.eq_false_iff.mpr c15
      subst c15
      have H1 : (some 3) = some r := by rw [if_neg (show ¬ (false = true) by decide)] at H; exact H
      clear H
      have H := H1
      clear H1
      obtain rfl := Option.some.inj H
      obtain ⟨hcz17_0, hcz17_1, hcz17_2, hcz17_3, hfz17_0, hfz17_1, hfz17_2, hfz17_3⟩ := q_4 BK357.out
      go_wp2_with (first | ((with_reducible refine gate_callee (f := 89) rfl ?_); refine goesLq (some 28) rfl rfl Try.func89 (by kernel_rfl) rfl #[.int .i64 a0_1, .int .i64 1, .int .i64 1000000] rfl ?_; (with_reducible refine (spec_l1In.calls a0_1 1 1000000 false _ A14.out).mono ?_); rintro e w' ⟨rfl, ⟨nd, rfl⟩⟩; refine ⟨_, rfl, ?_⟩))
      go_ret
      exact ⟨q_e, bq⟩

end Go.Proofs.Ytdhlcnlcpjlliaa.PFnTables
