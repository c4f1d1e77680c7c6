/- Functions that a law reaches, as plain Lean functions, with the proof that the machine comes to their answers. No conditions. -/
import Derived.Test.YtanegggacfmkcaaPFnSettlesx0
import Derived.Test.YtanegggacfmkcaaPFnSettlesx13
namespace Go.Proofs.Ytanegggacfmkcaa.PFnSettles
open Go.RowKit Go.Proofs.YtanegggacfmkcaaW.PrintWords Go.Proofs.YtanegggacfmkcaaW.PrintLast Go.Proofs.YtanegggacfmkcaaW.PrintMore
attribute [local go_sem] max2_int min2_int max_two min_two max_three min_three max_four min_four   -- for this text's walks alone
set_option linter.unusedVariables false
set_option linter.unusedSimpArgs false
set_option maxHeartbeats 8000000
set_option maxRecDepth 100000

/-! ### spec_LedgerFault: function 46 -/
mutual
def spec_LedgerFault.j0 : Nat → Bool → List (List (S104)) → Option (Int)
  | 0, _, _ => none
  | k + 1, x14, x271000 => if x14 = true then (some 2) else (spec_LedgerFault.l0 k 0 x271000)
def spec_LedgerFault.l0 : Nat → Int → List (List (S104)) → Option (Int)
  | 0, _, _ => none
  | k + 1, x3, x271000 => if x3 < (x271000.length : Int) then (if 0 ≤ x3 then ((spec_BalancesFault.f k (rd_L3 x271000 x3)).bind fun t272 => (if t272 = 0 then (spec_LedgerFault.l0 k (wrap64 (x3 + 1)) x271000) else (some t272))) else (none)) else (some 0)
end
def spec_LedgerFault.f (k : Nat) (l0_0 : List (List (S104))) : Option (Int) := if (l0_0.length : Int) < 1 then (spec_LedgerFault.j0 k true l0_0) else (spec_LedgerFault.j0 k (decide ((l0_0.length : Int) > 3)) l0_0)
theorem spec_LedgerFault.calls (k : Nat) (A0_0 : Option Addr) (c0_0 : Nat) (l0_0 : List (List (S104))) (r : Int) (w : World) (hr0_0 : Kd.C (Kd.slice 104 k104) w A0_0 l0_0.length l0_0) (hc0_0 : l0_0.length ≤ c0_0) (h : spec_LedgerFault.f k l0_0 = some r) :
  Calls Try.prog 46 #[.agg #[.slice A0_0 l0_0.length c0_0]] w fun e w' => e = .returned (.int .i64 r) ∧ Below w.heap.size w w' := by
 have hu26 := Try.underlying26; have HR0_0 := am hr0_0; have HC0_0 := am hc0_0; clear hr0_0 hc0_0; have HB := am (Below.refl w.heap.size w); have H : (if (l0_0.length : Int) < 1 then (spec_LedgerFault.j0 k true l0_0) else (spec_LedgerFault.j0 k (decide ((l0_0.length : Int) > 3)) l0_0)) = some r := h; clear h; have HC2 := am H; clear H; go_enter Try.func46, Try.ntmps46; go_upto_region 1 with (first | ((with_reducible refine gate_dst (N := 1) rfl ?_); (try (refine gate_guard (by rfl) ?_; dsimp only)); refine q_box (N := 1) (cs := #[.slice A0_0 l0_0.length c0_0]) (t := 26) ?_; intro gb270 hg w3 hbox hb; have n0_ := am (below_step bq hb); have n1_ := am (hbox); have n2_ := am ((q_g hg bq : w.heap.size ≤ gb270)); have n3_ := n2_; revert n0_ n1_ n2_ n3_; clear HB; intro HB BK270 GW270 GE270; clear hb hbox hg))
 (try simp only [Act.put, List.setIfInBounds_toArray, List.set_cons_zero, List.set_cons_succ]); go_cut [14] (fun v14 wc => ∃ (kq : Nat) (x14_1 : Bool), v14 = .bool x14_1 ∧ Aside0 (spec_LedgerFault.j0 kq x14_1 l0_0 = some r) ∧ Aside0 (kq ≤ k) ∧ Aside0 (wc.heap[gb270]? = some (.cells #[(.slice A0_0 l0_0.length c0_0)] 26 (0, 0))) ∧ Aside0 (Below w.heap.size w wc))
 case first =>
  have H := HC2.out; clear HC2; by_cases c4 : (l0_0.length : Int) < 1
  ·rw [if_pos c4] at H; have c4b0 := decide_eq_true c4; have c4b1 : decide (l0_0.length < 1) = true := decide_eq_true (by omega); clear c4; (first | rw [c4b0] | (simp only [i64_w, i32_w]; rw [c4b0]) | skip); have H' := am H; clear H; obtain ⟨hcz5_0, hfz5_0⟩ := q_1 BK270.out; go_wp2; go_meet
   case rel => exact ⟨_, (true), q_i, H', ⟨by first | omega | exact Nat.le_refl _⟩, ⟨q_b BK270.out⟩, ⟨bq⟩⟩
  ·rw [if_neg c4] at H; have c4b0 := decide_eq_false c4; have c4b1 : decide (l0_0.length < 1) = false := decide_eq_false (by omega); clear c4; (first | rw [c4b0] | (simp only [i64_w, i32_w]; rw [c4b0]) | skip); have H' := am H; clear H; obtain ⟨hcz6_0, hfz6_0⟩ := q_1 BK270.out; go_wp2; go_meet
   case rel => exact ⟨_, (decide ((l0_0.length : Int) > 3)), q_i, H', ⟨by first | omega | exact Nat.le_refl _⟩, ⟨q_b BK270.out⟩, ⟨bq⟩⟩
 case rest =>
  clear HC2; (try clear p2 c4 c4b0 c4b1 hcz5_0 hcz6_0 hfz5_0 hfz6_0); obtain ⟨kq, x14_1, rfl, HA, HJ1, BK270, HB⟩ := hcut
  cases kq with
  | zero => exact absurd HA.out (by simp [spec_LedgerFault.j0])
  | succ kj1 =>
   have H := HA.out; clear HA; simp only [spec_LedgerFault.j0] at H; by_cases c7 : x14_1 = true
   ·subst c7; have H1 : (some 2) = some r := by rw [if_pos rfl] at H; exact H
    clear H; have H := H1; clear H1; obtain rfl := Option.some.inj H; go_wp2; go_ret; exact ⟨q_e, bq⟩
   ·replace c7 := Bool.eq_false_iff.mpr c7; subst c7; have H1 : (spec_LedgerFault.l0 kj1 0 l0_0) = some r := by rw [if_neg (show ¬ (false = true) by decide)] at H; exact H
    clear H; have H := H1; clear H1; have H' := am H; clear H; go_wp2; go_loopg [3] kj1 (fun kq v3 w' => ∃ (x3_2 : Int), v3 = .int .i64 x3_2 ∧ Aside0 (spec_LedgerFault.l0 kq x3_2 l0_0 = some r) ∧ Aside0 (kq ≤ kj1) ∧ Aside0 (w'.heap[gb270]? = some (.cells #[(.slice A0_0 l0_0.length c0_0)] 26 (0, 0))) ∧ Aside0 (Below w.heap.size w w'))
    case atStart => exact ⟨(0), q_i, H', ⟨Nat.le_refl _⟩, ⟨q_b BK270.out⟩, ⟨bq⟩⟩
    case round =>
     clear H'; (try clear p2 c4 c4b0 c4b1 c7 hcz5_0 hcz6_0 hfz5_0 hfz6_0 p2); obtain ⟨x3_2, rfl, HA, HK2, BK270, HB⟩ := hrel
     cases gk with
     | zero => exact absurd HA.out (by simp [spec_LedgerFault.l0])
     | succ k2 =>
      have H := HA.out; clear HA; simp only [spec_LedgerFault.l0] at H; by_cases c8 : x3_2 < (l0_0.length : Int)
      ·rw [if_pos c8] at H; have c8b0 := decide_eq_true c8; clear c8; by_cases c9 : 0 ≤ x3_2
       ·rw [if_pos c9] at H; have c9b0 := decide_eq_true c9; clear c9; replace H := ob H; obtain ⟨t272, A100, H⟩ := H; replace H : (if t272 = 0 then (spec_LedgerFault.l0 k2 (wrap64 (x3_2 + 1)) l0_0) else (some t272)) = some r := H; have A10 := am A100; clear A100; by_cases c11 : t272 = 0
        ·rw [if_pos c11] at H; have c11b0 : (t272 == 0) = true := beq_iff_eq.mpr c11; have c11b1 : (t272 != 0) = false := bne_eq_false_iff_eq.mpr c11; clear c11; have H' := am H; clear H; obtain ⟨hcz12_0, hfz12_0⟩ := q_1 BK270.out; have p271 : 0 ≤ (x3_2 : Int) := q_d; have q271 : x3_2 < (l0_0.length : Int) := q_d; obtain ⟨ad271, A271_0, c271_0, e271, hx271_0, hl271_0, hi271_0⟩ := at_L3 HR0_0.out x3_2 p271 q271; cases e271; replace hx271_0 := q_x HB.out hx271_0; have HR271_0 := am hi271_0; have HC271_0 := am hl271_0; clear hi271_0 hl271_0; replace p271 := eq_true p271; replace q271 := eq_true q271; go_wp2_with (first | (refine q_go 34 (some 27) Try.func34 #[.slice A271_0 (rd_L3 l0_0 x3_2).length c271_0] ?_; (with_reducible refine (spec_BalancesFault.calls k2 _ _ (rd_L3 l0_0 x3_2) t272 _ ?side1 ?side2 A10.out).mono ?_); (case side1 => exact q_c ((Kd.C_below HR271_0.out HB.out))); (case side2 => exact HC271_0.out); rintro e w13 ⟨rfl, hb⟩; refine ⟨_, rfl, ?_⟩; have n0_ := am (blk_below (q_b BK270.out) hb); have n1_ := am (below_step bq hb); revert n0_ n1_; clear BK270 HB; intro BK270 HB; (try clear hb))); go_roundg k2
         case measure => have := HJ1.out; have := HK2.out; omega
         case rel => exact ⟨(wrap64 (x3_2 + 1)), q_i, H', ⟨by have := HJ1.out; have := HK2.out; omega⟩, ⟨q_b BK270.out⟩, ⟨bq⟩⟩
        ·rw [if_neg c11] at H; have c11b0 : (t272 == 0) = false := beq_eq_false_iff_ne.mpr c11; have c11b1 : (t272 != 0) = true := bne_iff_ne.mpr c11; obtain rfl := Option.some.inj H; obtain ⟨hcz14_0, hfz14_0⟩ := q_1 BK270.out; have p271 : 0 ≤ (x3_2 : Int) := q_d; have q271 : x3_2 < (l0_0.length : Int) := q_d; obtain ⟨ad271, A271_0, c271_0, e271, hx271_0, hl271_0, hi271_0⟩ := at_L3 HR0_0.out x3_2 p271 q271; cases e271; replace hx271_0 := q_x HB.out hx271_0; have HR271_0 := am hi271_0; have HC271_0 := am hl271_0; clear hi271_0 hl271_0; replace p271 := eq_true p271; replace q271 := eq_true q271; go_wp2_with (first | (refine q_go 34 (some 27) Try.func34 #[.slice A271_0 (rd_L3 l0_0 x3_2).length c271_0] ?_; (with_reducible refine (spec_BalancesFault.calls k2 _ _ (rd_L3 l0_0 x3_2) t272 _ ?side1 ?side2 A10.out).mono ?_); (case side1 => exact q_c ((Kd.C_below HR271_0.out HB.out))); (case side2 => exact HC271_0.out); rintro e w15 ⟨rfl, hb⟩; refine ⟨_, rfl, ?_⟩; have n0_ := am (blk_below (q_b BK270.out) hb); have n1_ := am (below_step bq hb); revert n0_ n1_; clear BK270 HB; intro BK270 HB; (try clear hb))); go_ret; exact ⟨q_e, bq⟩
       ·rw [if_neg c9] at H; exact absurd H (by simp)
      ·rw [if_neg c8] at H; have c8b0 := decide_eq_false c8; clear c8; obtain rfl := Option.some.inj H; obtain ⟨hcz16_0, hfz16_0⟩ := q_1 BK270.out; go_wp2; go_ret; exact ⟨q_e, bq⟩

/-! ### spec_l1Id: function 123 -/
def spec_l1Id.f (a0 : Int) : Option (Bool) := (spec_l1In.f a0 1 1000000000).bind fun t273 => (some t273)
theorem spec_l1Id.calls (a0 : Int) (r : Bool) (w : World) (h : spec_l1Id.f a0 = some r) :
  Calls Try.prog 123 #[.int .i64 a0] w fun e w' => e = .returned (.bool r) ∧ Drawn0 w w' := by
 have H : ((spec_l1In.f a0 1 1000000000).bind fun t273 => (some t273)) = some r := h; clear h; replace H := ob H; obtain ⟨t273, A20, H⟩ := H; replace H : (some t273) = some r := H; have A2 := am A20; clear A20; obtain rfl := Option.some.inj H; go_enter Try.func123, Try.ntmps123; go_wp2_with (first | (refine q_go 81 (some 4) Try.func81 #[.int .i64 a0, .int .i64 1, .int .i64 1000000000] ?_; (with_reducible refine (spec_l1In.calls a0 1 1000000000 t273 _ A2.out).mono ?_); rintro e w' ⟨rfl, ⟨nd, rfl⟩⟩; refine ⟨_, rfl, ?_⟩)); go_ret; exact ⟨by first | rfl | (simp; done) | (simp [*]; done), q_0⟩

/-! ### spec_LegFault: function 124 -/
def spec_LegFault.j0 : Nat → Bool → Int → Int → Int → Int → Option (Int)
  | 0, _, _, _, _, _ => none
  | k + 1, x24, x275000, x275001, x275002, x275003 => if x24 = true then (some 3) else (if x275003 = 0 then (some 1) else (some 0))
def spec_LegFault.f (k : Nat) (a0_0 : Int) (a0_1 : Int) (a0_2 : Int) (a0_3 : Int) : Option (Int) := (spec_l1In.f a0_0 0 2).bind fun t275 => (if t275 = true then ((spec_l1In.f a0_1 0 5).bind fun t276 => (if t276 = true then ((spec_l1In.f a0_2 0 2).bind fun t277 => (if t277 = true then ((spec_l1In.f a0_3 (-1000000000000) 1000000000000).bind fun t278 => (spec_LegFault.j0 k (!t278) a0_0 a0_1 a0_2 a0_3)) else (spec_LegFault.j0 k true a0_0 a0_1 a0_2 a0_3))) else (spec_LegFault.j0 k true a0_0 a0_1 a0_2 a0_3))) else (spec_LegFault.j0 k true a0_0 a0_1 a0_2 a0_3))
theorem spec_LegFault.calls (k : Nat) (a0_0 : Int) (a0_1 : Int) (a0_2 : Int) (a0_3 : Int) (r : Int) (w : World) (h : spec_LegFault.f k a0_0 a0_1 a0_2 a0_3 = some r) :
  Calls Try.prog 124 #[.agg #[.int .i64 a0_0, .int .i64 a0_1, .int .i64 a0_2, .int .i64 a0_3]] w fun e w' => e = .returned (.int .i64 r) ∧ Below w.heap.size w w' := by
 have hu86 := Try.underlying86; have HB := am (Below.refl w.heap.size w); have H : ((spec_l1In.f a0_0 0 2).bind fun t275 => (if t275 = true then ((spec_l1In.f a0_1 0 5).bind fun t276 => (if t276 = true then ((spec_l1In.f a0_2 0 2).bind fun t277 => (if t277 = true then ((spec_l1In.f a0_3 (-1000000000000) 1000000000000).bind fun t278 => (spec_LegFault.j0 k (!t278) a0_0 a0_1 a0_2 a0_3)) else (spec_LegFault.j0 k true a0_0 a0_1 a0_2 a0_3))) else (spec_LegFault.j0 k true a0_0 a0_1 a0_2 a0_3))) else (spec_LegFault.j0 k true a0_0 a0_1 a0_2 a0_3))) = some r := h; clear h; have HC2 := am H; clear H; go_enter Try.func124, Try.ntmps124; go_upto_region 1 with (first | (refine q_bx 1 (cs := #[.int .i64 a0_0, .int .i64 a0_1, .int .i64 a0_2, .int .i64 a0_3]) (t := 86) ?_; intro gb274 hg w3 hbox hb; have n0_ := am (below_step bq hb); have n1_ := am (hbox); have n2_ := am ((q_g hg bq : w.heap.size ≤ gb274)); have n3_ := n2_; revert n0_ n1_ n2_ n3_; clear HB; intro HB BK274 GW274 GE274; clear hb hbox hg))
 (try simp only [Act.put, List.setIfInBounds_toArray, List.set_cons_zero, List.set_cons_succ]); go_cut [24] (fun v24 wc => ∃ (kq : Nat) (x24_1 : Bool), v24 = .bool x24_1 ∧ Aside0 (spec_LegFault.j0 kq x24_1 a0_0 a0_1 a0_2 a0_3 = some r) ∧ Aside0 (kq ≤ k) ∧ Aside0 (wc.heap[gb274]? = some (.cells #[.int .i64 a0_0, .int .i64 a0_1, .int .i64 a0_2, .int .i64 a0_3] 86 (0, 0))) ∧ Aside0 (Below w.heap.size w wc))
 case first =>
  have H := HC2.out; clear HC2; replace H := ob H; obtain ⟨t275, A40, H⟩ := H; replace H : (if t275 = true then ((spec_l1In.f a0_1 0 5).bind fun t276 => (if t276 = true then ((spec_l1In.f a0_2 0 2).bind fun t277 => (if t277 = true then ((spec_l1In.f a0_3 (-1000000000000) 1000000000000).bind fun t278 => (spec_LegFault.j0 k (!t278) a0_0 a0_1 a0_2 a0_3)) else (spec_LegFault.j0 k true a0_0 a0_1 a0_2 a0_3))) else (spec_LegFault.j0 k true a0_0 a0_1 a0_2 a0_3))) else (spec_LegFault.j0 k true a0_0 a0_1 a0_2 a0_3)) = some r := H; have A4 := am A40; clear A40; by_cases c5 : t275 = true
  ·subst c5; have H1 : ((spec_l1In.f a0_1 0 5).bind fun t276 => (if t276 = true then ((spec_l1In.f a0_2 0 2).bind fun t277 => (if t277 = true then ((spec_l1In.f a0_3 (-1000000000000) 1000000000000).bind fun t278 => (spec_LegFault.j0 k (!t278) a0_0 a0_1 a0_2 a0_3)) else (spec_LegFault.j0 k true a0_0 a0_1 a0_2 a0_3))) else (spec_LegFault.j0 k true a0_0 a0_1 a0_2 a0_3))) = some r := by rw [if_pos rfl] at H; exact H
   clear H; have H := H1; clear H1; replace H := ob H; obtain ⟨t276, A60, H⟩ := H; replace H : (if t276 = true then ((spec_l1In.f a0_2 0 2).bind fun t277 => (if t277 = true then ((spec_l1In.f a0_3 (-1000000000000) 1000000000000).bind fun t278 => (spec_LegFault.j0 k (!t278) a0_0 a0_1 a0_2 a0_3)) else (spec_LegFault.j0 k true a0_0 a0_1 a0_2 a0_3))) else (spec_LegFault.j0 k true a0_0 a0_1 a0_2 a0_3)) = some r := H; have A6 := am A60; clear A60; by_cases c7 : t276 = true
   ·subst c7; have H1 : ((spec_l1In.f a0_2 0 2).bind fun t277 => (if t277 = true then ((spec_l1In.f a0_3 (-1000000000000) 1000000000000).bind fun t278 => (spec_LegFault.j0 k (!t278) a0_0 a0_1 a0_2 a0_3)) else (spec_LegFault.j0 k true a0_0 a0_1 a0_2 a0_3))) = some r := by rw [if_pos rfl] at H; exact H
    clear H; have H := H1; clear H1; replace H := ob H; obtain ⟨t277, A80, H⟩ := H; replace H : (if t277 = true then ((spec_l1In.f a0_3 (-1000000000000) 1000000000000).bind fun t278 => (spec_LegFault.j0 k (!t278) a0_0 a0_1 a0_2 a0_3)) else (spec_LegFault.j0 k true a0_0 a0_1 a0_2 a0_3)) = some r := H; have A8 := am A80; clear A80; by_cases c9 : t277 = true
    ·subst c9; have H1 : ((spec_l1In.f a0_3 (-1000000000000) 1000000000000).bind fun t278 => (spec_LegFault.j0 k (!t278) a0_0 a0_1 a0_2 a0_3)) = some r := by rw [if_pos rfl] at H; exact H
     clear H; have H := H1; clear H1; replace H := ob H; obtain ⟨t278, A100, H⟩ := H; replace H : (spec_LegFault.j0 k (!t278) a0_0 a0_1 a0_2 a0_3) = some r := H; have A10 := am A100; clear A100; have H' := am H; clear H; obtain ⟨hcz11_0, hcz11_1, hcz11_2, hcz11_3, hfz11_0, hfz11_1, hfz11_2, hfz11_3⟩ := q_4 BK274.out; go_wp2_with (first | (refine q_go 81 (some 5) Try.func81 #[.int .i64 a0_0, .int .i64 0, .int .i64 2] ?_; (with_reducible refine (spec_l1In.calls a0_0 0 2 true _ A4.out).mono ?_); rintro e w' ⟨rfl, ⟨nd, rfl⟩⟩; refine ⟨_, rfl, ?_⟩) | (go_at_call 81; (with_reducible refine (spec_l1In.calls a0_1 0 5 true _ A6.out).mono ?_); rintro e w' ⟨rfl, ⟨nd, rfl⟩⟩) | (go_at_call 81; (with_reducible refine (spec_l1In.calls a0_2 0 2 true _ A8.out).mono ?_); rintro e w' ⟨rfl, ⟨nd, rfl⟩⟩) | (go_at_call 81; (with_reducible refine (spec_l1In.calls a0_3 (-1000000000000) 1000000000000 t278 _ A10.out).mono ?_); rintro e w' ⟨rfl, ⟨nd, rfl⟩⟩)); go_meet
     case rel => exact ⟨_, (!t278), q_i, H', ⟨by first | omega | exact Nat.le_refl _⟩, ⟨q_b BK274.out⟩, ⟨bq⟩⟩
    ·replace c9 := Bool.eq_false_iff.mpr c9; subst c9; have H1 : (spec_LegFault.j0 k true a0_0 a0_1 a0_2 a0_3) = some r := by rw [if_neg (show ¬ (false = true) by decide)] at H; exact H
     clear H; have H := H1; clear H1; have H' := am H; clear H; obtain ⟨hcz12_0, hcz12_1, hcz12_2, hcz12_3, hfz12_0, hfz12_1, hfz12_2, hfz12_3⟩ := q_4 BK274.out; go_wp2_with (first | (refine q_go 81 (some 5) Try.func81 #[.int .i64 a0_0, .int .i64 0, .int .i64 2] ?_; (with_reducible refine (spec_l1In.calls a0_0 0 2 true _ A4.out).mono ?_); rintro e w' ⟨rfl, ⟨nd, rfl⟩⟩; refine ⟨_, rfl, ?_⟩) | (go_at_call 81; (with_reducible refine (spec_l1In.calls a0_1 0 5 true _ A6.out).mono ?_); rintro e w' ⟨rfl, ⟨nd, rfl⟩⟩) | (go_at_call 81; (with_reducible refine (spec_l1In.calls a0_2 0 2 false _ A8.out).mono ?_); rintro e w' ⟨rfl, ⟨nd, rfl⟩⟩)); go_meet
     case rel => exact ⟨_, (true), q_i, H', ⟨by first | omega | exact Nat.le_refl _⟩, ⟨q_b BK274.out⟩, ⟨bq⟩⟩
   ·replace c7 := Bool.eq_false_iff.mpr c7; subst c7; have H1 : (spec_LegFault.j0 k true a0_0 a0_1 a0_2 a0_3) = some r := by rw [if_neg (show ¬ (false = true) by decide)] at H; exact H
    clear H; have H := H1; clear H1; have H' := am H; clear H; obtain ⟨hcz13_0, hcz13_1, hcz13_2, hcz13_3, hfz13_0, hfz13_1, hfz13_2, hfz13_3⟩ := q_4 BK274.out; go_wp2_with (first | (refine q_go 81 (some 5) Try.func81 #[.int .i64 a0_0, .int .i64 0, .int .i64 2] ?_; (with_reducible refine (spec_l1In.calls a0_0 0 2 true _ A4.out).mono ?_); rintro e w' ⟨rfl, ⟨nd, rfl⟩⟩; refine ⟨_, rfl, ?_⟩) | (go_at_call 81; (with_reducible refine (spec_l1In.calls a0_1 0 5 false _ A6.out).mono ?_); rintro e w' ⟨rfl, ⟨nd, rfl⟩⟩)); go_meet
    case rel => exact ⟨_, (true), q_i, H', ⟨by first | omega | exact Nat.le_refl _⟩, ⟨q_b BK274.out⟩, ⟨bq⟩⟩
  ·replace c5 := Bool.eq_false_iff.mpr c5; subst c5; have H1 : (spec_LegFault.j0 k true a0_0 a0_1 a0_2 a0_3) = some r := by rw [if_neg (show ¬ (false = true) by decide)] at H; exact H
   clear H; have H := H1; clear H1; have H' := am H; clear H; obtain ⟨hcz14_0, hcz14_1, hcz14_2, hcz14_3, hfz14_0, hfz14_1, hfz14_2, hfz14_3⟩ := q_4 BK274.out; go_wp2_with (first | (refine q_go 81 (some 5) Try.func81 #[.int .i64 a0_0, .int .i64 0, .int .i64 2] ?_; (with_reducible refine (spec_l1In.calls a0_0 0 2 false _ A4.out).mono ?_); rintro e w' ⟨rfl, ⟨nd, rfl⟩⟩; refine ⟨_, rfl, ?_⟩)); go_meet
   case rel => exact ⟨_, (true), q_i, H', ⟨by first | omega | exact Nat.le_refl _⟩, ⟨q_b BK274.out⟩, ⟨bq⟩⟩
 case rest =>
  clear HC2; (try clear c1 p2 c5 c7 c8 c9 c12 hcz11_0 hcz11_1 hcz11_2 hcz11_3 hcz12_0); (try clear hcz12_1 hcz12_2 hcz12_3 hcz13_0 hcz13_1 hcz13_2 hcz13_3 hcz14_0 hcz14_1 hcz14_2); (try clear hcz14_3 hfz11_0 hfz11_1 hfz11_2 hfz11_3 hfz12_0 hfz12_1 hfz12_2 hfz12_3 hfz13_0); (try clear hfz13_1 hfz13_2 hfz13_3 hfz14_0 hfz14_1 hfz14_2 hfz14_3); obtain ⟨kq, x24_1, rfl, HA, HJ1, BK274, HB⟩ := hcut
  cases kq with
  | zero => exact absurd HA.out (by simp [spec_LegFault.j0])
  | succ kj1 =>
   have H := HA.out; clear HA; simp only [spec_LegFault.j0] at H; by_cases c15 : x24_1 = true
   ·subst c15; have H1 : (some 3) = some r := by rw [if_pos rfl] at H; exact H
    clear H; have H := H1; clear H1; obtain rfl := Option.some.inj H; go_wp2; go_ret; exact ⟨q_e, bq⟩
   ·replace c15 := Bool.eq_false_iff.mpr c15; subst c15; have H1 : (if a0_3 = 0 then (some 1) else (some 0)) = some r := by rw [if_neg (show ¬ (false = true) by decide)] at H; exact H
    clear H; have H := H1; clear H1; by_cases c16 : a0_3 = 0
    ·rw [if_pos c16] at H; have c16b0 : (a0_3 == 0) = true := beq_iff_eq.mpr c16; have c16b1 : (a0_3 != 0) = false := bne_eq_false_iff_eq.mpr c16; clear c16; obtain rfl := Option.some.inj H; obtain ⟨hcz17_0, hcz17_1, hcz17_2, hcz17_3, hfz17_0, hfz17_1, hfz17_2, hfz17_3⟩ := q_4 BK274.out; go_wp2; go_ret; exact ⟨q_e, bq⟩
    ·rw [if_neg c16] at H; have c16b0 : (a0_3 == 0) = false := beq_eq_false_iff_ne.mpr c16; have c16b1 : (a0_3 != 0) = true := bne_iff_ne.mpr c16; obtain rfl := Option.some.inj H; obtain ⟨hcz18_0, hcz18_1, hcz18_2, hcz18_3, hfz18_0, hfz18_1, hfz18_2, hfz18_3⟩ := q_4 BK274.out; go_wp2; go_ret; exact ⟨q_e, bq⟩

end Go.Proofs.Ytanegggacfmkcaa.PFnSettles
