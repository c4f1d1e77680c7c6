/- The functions that a law reaches, each as a plain Lean function with the proof that the machine comes to its answer: written by program (the kit's print, turned by wip/gen). No conditions. -/
import Derived.Test.YtcdpiejcdeedoaaPFnExactUnframeAllx0
import Derived.Test.YtcdpiejcdeedoaaPFnExactUnframeAllx1
import Derived.Test.YtcdpiejcdeedoaaPFnExactUnframeAllx3
namespace Go.Proofs.Ytcdpiejcdeedoaa.PFnExactUnframeAll
open Go.RowKit Go.Proofs.YtcdpiejcdeedoaaW.PrintWords Go.Proofs.YtcdpiejcdeedoaaW.PrintLast Go.Proofs.YtcdpiejcdeedoaaW.PrintMore
attribute [local go_sem] max2_int min2_int max_two min_two max_three min_three max_four min_four   -- for this text's walks alone
set_option linter.unusedVariables false
set_option linter.unusedSimpArgs false

/-! ### spec_UnframeAll: function 37 -/
def spec_UnframeAll.f (k : Nat) (l0 : List Int) : Option (Int × Int × (List (List Int))) := if (l0.length : Int) > 6000 then (some (2, 0, ([] : List (List Int)))) else ((spec_l3Records.f k l0).bind fun bt171 => (some (0, bt171.2, bt171.1)))
set_option maxHeartbeats 8000000 in
set_option maxRecDepth 100000 in
theorem spec_UnframeAll.calls (k : Nat) (A0 : Option Addr) (c0 : Nat) (l0 : List Int) (r1 : Int) (r2 : Int) (r3 : List (List Int)) (w : World) (hr0 : Kd.C (Kd.int .u8) w A0 l0.length l0) (hc0 : l0.length ≤ c0) (h : spec_UnframeAll.f k l0 = some (r1, r2, r3)) :
  Calls Try.prog 37 #[.slice A0 l0.length c0] w fun e w' => ∃ v2_ : Value, e = .returned (.agg #[.int .i64 r1, .int .i64 r2, v2_]) ∧ Kd.S (Kd.slice 5 (Kd.int .u8)) 22 w' w.heap.size (fun _ => True) v2_ r3 ∧ Below w.heap.size w w' := by
 have hu43 := Try.underlying43
 have HR0 := Aside0.mk hr0
 have HC0 := Aside0.mk hc0
 clear hr0 hc0
 have HB := Aside0.mk (Below.refl w.heap.size w)
 have H : (if (l0.length : Int) > 6000 then (some (2, 0, ([] : List (List Int)))) else ((spec_l3Records.f k l0).bind fun bt171 => (some (0, bt171.2, bt171.1)))) = some (r1, r2, r3) := h
 clear h
 by_cases c2 : (l0.length : Int) > 6000
 ·rw [if_pos c2] at H
  have c2b0 := decide_eq_true c2
  have c2b1 : decide (6000 < l0.length) = true := decide_eq_true (by omega)
  clear c2
  simp only [Option.some.injEq, Prod.mk.injEq] at H
  obtain ⟨rfl, rfl, rfl⟩ := H
  go_enter Try.func37, Try.ntmps37
  go_wp2_with (first | ((with_reducible refine gate_dst (N := 2) rfl ?_); refine q_box (N := 2) (cs := #[.int .i64 0, .int .i64 0, .slice none 0 0]) (t := 43) ?_; intro gb170 hg w3 hbox hb; have n0_ := Aside0.mk (below_step bq hb); have n1_ := Aside0.mk (hbox); have n2_ := Aside0.mk ((q_g hg bq : w.heap.size ≤ gb170)); have n3_ := Aside0.mk ((q_g hg bq : w.heap.size ≤ gb170)); revert n0_ n1_ n2_ n3_; clear HB; intro HB BK170 GW170 GE170; clear hb hbox hg; obtain ⟨hcz4_0, hcz4_1, hcz4_2, hfz4_0, hfz4_1, hfz4_2⟩ := q_3 BK170.out))
  refine bodyPost_ret (results_cell_row rfl _ _ gb170 43 #[.int .i64 2, .int .i64 0, .slice none 0 0] (0, 0) _ rfl (by (with_reducible repeat (first | refine blk_drewN ?_ _ | refine blk_drew ?_ | refine blk_alloc ?_ _)); refine blk_put (cs := #[.int .i64 2, .int .i64 0, .slice none 0 0]) ?_ 2 _ rfl; (with_reducible repeat (first | refine blk_drewN ?_ _ | refine blk_drew ?_ | refine blk_alloc ?_ _)); refine blk_put (cs := #[.int .i64 2, .int .i64 0, .slice none 0 0]) ?_ 1 _ rfl; (with_reducible repeat (first | refine blk_drewN ?_ _ | refine blk_drew ?_ | refine blk_alloc ?_ _)); refine blk_put (cs := #[.int .i64 0, .int .i64 0, .slice none 0 0]) ?_ 0 _ rfl; (with_reducible repeat (first | refine blk_drewN ?_ _ | refine blk_drew ?_ | refine blk_alloc ?_ _)); exact BK170.out) Try.underlying43 rfl (by kernel_rfl)) rfl ?_
  exact ⟨_, q_e, by first | exact Kd.S_nil _ _ _ _ _ | exact Kd.N_nil _ _ _ _ _ | exact Kd.V_nil _ _ _ _ _ | exact Kd.Q_nil _ _ _ _ _ | exact Kd.R_nil _ _ _ _ _, bq⟩
 ·rw [if_neg c2] at H
  have c2b0 := decide_eq_false c2
  have c2b1 : decide (6000 < l0.length) = false := decide_eq_false (by omega)
  clear c2
  replace H := Option.bind_eq_some_iff.mp H
  obtain ⟨⟨t171, t172⟩, A50, H⟩ := H
  replace H : (some (0, t172, t171)) = some (r1, r2, r3) := H
  have A5 := Aside0.mk A50
  clear A50
  simp only [Option.some.injEq, Prod.mk.injEq] at H
  obtain ⟨rfl, rfl, rfl⟩ := H
  go_enter Try.func37, Try.ntmps37
  go_wp2_with (first | ((with_reducible refine gate_dst (N := 2) rfl ?_); refine q_box (N := 2) (cs := #[.int .i64 0, .int .i64 0, .slice none 0 0]) (t := 43) ?_; intro gb170 hg w6 hbox hb; have n0_ := Aside0.mk (below_step bq hb); have n1_ := Aside0.mk (hbox); have n2_ := Aside0.mk ((q_g hg bq : w.heap.size ≤ gb170)); have n3_ := Aside0.mk ((q_g hg bq : w.heap.size ≤ gb170)); revert n0_ n1_ n2_ n3_; clear HB; intro HB BK170 GW170 GE170; clear hb hbox hg) | ((with_reducible refine gate_callee (f := 64) rfl ?_); refine goesLq (some 11) rfl rfl Try.func64 (by kernel_rfl) rfl #[.slice A0 l0.length c0] rfl ?_; (with_reducible refine (spec_l3Records.calls k _ _ l0 t171 t172 _ ?side1 ?side2 A5.out).mono ?_); (case side1 => exact q_c ((Kd.C_below HR0.out HB.out))); (case side2 => exact HC0.out); rintro e w7 ⟨v173, rfl, ho0, hb⟩; refine ⟨_, rfl, ?_⟩; have n0_ := Aside0.mk (Kd.S_lower ho0 (below_size bq)); have n1_ := Aside0.mk (blk_below (q_b BK170.out) hb); have n2_ := Aside0.mk (below_step bq hb); revert n0_ n1_ n2_; clear BK170 HB; intro HO174 BK170 HB; (try clear hb); (try clear hb2); (try clear hk); (try clear hi); (try clear ho0); obtain ⟨Ao8, co8, eo8⟩ := Kd.S_slice HO174.out; subst eo8; obtain ⟨hcz9_0, hcz9_1, hcz9_2, hfz9_0, hfz9_1, hfz9_2⟩ := q_3 BK170.out))
  refine bodyPost_ret (results_cell_row rfl _ _ gb170 43 #[.int .i64 0, .int .i64 t172, .slice Ao8 t171.length co8] (0, 0) _ rfl (by (with_reducible repeat (first | refine blk_drewN ?_ _ | refine blk_drew ?_ | refine blk_alloc ?_ _)); refine blk_put (cs := #[.int .i64 0, .int .i64 t172, .slice none 0 0]) ?_ 2 _ rfl; (with_reducible repeat (first | refine blk_drewN ?_ _ | refine blk_drew ?_ | refine blk_alloc ?_ _)); refine blk_put (cs := #[.int .i64 0, .int .i64 0, .slice none 0 0]) ?_ 1 _ rfl; (with_reducible repeat (first | refine blk_drewN ?_ _ | refine blk_drew ?_ | refine blk_alloc ?_ _)); refine blk_put (cs := #[.int .i64 0, .int .i64 0, .slice none 0 0]) ?_ 0 _ rfl; (with_reducible repeat (first | refine blk_drewN ?_ _ | refine blk_drew ?_ | refine blk_alloc ?_ _)); exact BK170.out) Try.underlying43 rfl (by kernel_rfl)) rfl ?_
  exact ⟨_, q_e, by (with_reducible repeat (first | apply Kd.S_alloc | apply Kd.S_drewN | apply Kd.S_drew)); exact Kd.S_mono (Kd.S_far (p := ⟨gb170, 2, none⟩) (Kd.S_far (p := ⟨gb170, 1, none⟩) (Kd.S_far (p := ⟨gb170, 0, none⟩) (Kd.S_types HO174.out BK170.out (by decide)) (fun _ hk => hk.2) (.int .i64 0)) (fun _ hk => hk.2) (.int .i64 t172)) (fun _ hk => hk.2) (.slice Ao8 t171.length co8)) (fun _ hk => trivial), bq⟩

/-! ### laws_eqByteSS: function 65 -/
def laws_eqByteSS.l0 : Nat → List (List Int) → List (List Int) → Int → Option (Bool)
  | 0, _, _, _ => none
  | k + 1, x0, x1, x5 => if x5 < (x0.length : Int) then (if 0 ≤ x5 then (if x5 < (x1.length : Int) then ((laws_eqByteS.f k (rd_L1 x0 x5) (rd_L1 x1 x5)).bind fun t177 => (if t177 = true then (laws_eqByteSS.l0 k x0 x1 (wrap64 (x5 + 1))) else (some false))) else (none)) else (none)) else (some true)
def laws_eqByteSS.f (k : Nat) (l0 : List (List Int)) (l1 : List (List Int)) : Option (Bool) := if (l0.length : Int) = (l1.length : Int) then (laws_eqByteSS.l0 k l0 l1 0) else (some false)
set_option maxHeartbeats 8000000 in
set_option maxRecDepth 100000 in
theorem laws_eqByteSS.calls (k : Nat) (A0 : Option Addr) (c0 : Nat) (l0 : List (List Int)) (A1 : Option Addr) (c1 : Nat) (l1 : List (List Int)) (r : Bool) (w : World) (hr0 : Kd.C (Kd.slice 5 (Kd.int .u8)) w A0 l0.length l0) (hc0 : l0.length ≤ c0) (hr1 : Kd.C (Kd.slice 5 (Kd.int .u8)) w A1 l1.length l1) (hc1 : l1.length ≤ c1) (h : laws_eqByteSS.f k l0 l1 = some r) :
  Calls Try.prog 65 #[.slice A0 l0.length c0, .slice A1 l1.length c1] w fun e w' => e = .returned (.bool r) ∧ Drawn0 w w' := by
 have HR0 := Aside0.mk hr0
 have HC0 := Aside0.mk hc0
 clear hr0 hc0
 have HR1 := Aside0.mk hr1
 have HC1 := Aside0.mk hc1
 clear hr1 hc1
 have H : (if (l0.length : Int) = (l1.length : Int) then (laws_eqByteSS.l0 k l0 l1 0) else (some false)) = some r := h
 clear h
 by_cases c3 : (l0.length : Int) = (l1.length : Int)
 ·rw [if_pos c3] at H
  have c3b0 : ((l0.length : Int) == (l1.length : Int)) = true := beq_iff_eq.mpr c3
  have c3b1 : ((l0.length : Int) != (l1.length : Int)) = false := bne_eq_false_iff_eq.mpr c3
  have c3b2 : (l0.length == l1.length) = true := by first | simpa using c3 | (simp at c3 ⊢; omega)
  clear c3
  have H' := Aside0.mk H
  clear H
  go_enter Try.func65, Try.ntmps65
  go_wp2
  repeat (go_quiet (fail); try go_wp2)
  go_loopg [5] k (fun kq v5 w' => ∃ (x5_1 : Int), v5 = .int .i64 x5_1 ∧ Aside0 (laws_eqByteSS.l0 kq l0 l1 x5_1 = some r) ∧ Aside0 (kq ≤ k) ∧ Drawn0 w w')
  case atStart => exact ⟨(0), q_i, H', ⟨Nat.le_refl _⟩, q_0⟩
  case round =>
   clear H'
   (try clear c1); (try clear p2); (try clear c3); (try clear c3b0); (try clear c3b1); (try clear c3b2)
   obtain ⟨x5_1, rfl, HA, HK1, ⟨m1, rfl⟩⟩ := hrel
   cases gk with
   | zero => exact absurd HA.out (by simp [laws_eqByteSS.l0])
   | succ k1 =>
    have H := HA.out
    clear HA
    simp only [laws_eqByteSS.l0] at H
    by_cases c4 : x5_1 < (l0.length : Int)
    ·rw [if_pos c4] at H
     have c4b0 := decide_eq_true c4
     clear c4
     by_cases c5 : 0 ≤ x5_1
     ·rw [if_pos c5] at H
      have c5b0 := decide_eq_true c5
      clear c5
      by_cases c6 : x5_1 < (l1.length : Int)
      ·rw [if_pos c6] at H
       have c6b0 := decide_eq_true c6
       clear c6
       replace H := Option.bind_eq_some_iff.mp H
       obtain ⟨t177, A70, H⟩ := H
       replace H : (if t177 = true then (laws_eqByteSS.l0 k1 l0 l1 (wrap64 (x5_1 + 1))) else (some false)) = some r := H
       have A7 := Aside0.mk A70
       clear A70
       by_cases c8 : t177 = true
       ·subst c8
        have H1 : (laws_eqByteSS.l0 k1 l0 l1 (wrap64 (x5_1 + 1))) = some r := by rw [if_pos rfl] at H; exact H
        clear H
        have H := H1
        clear H1
        have H' := Aside0.mk H
        clear H
        have p175 : 0 ≤ (x5_1 : Int) := q_d
        have q175 : x5_1 < (l0.length : Int) := q_d
        obtain ⟨ad175, A175_0, c175_0, e175, hx175_0, hl175_0, hi175_0⟩ := at_L1 HR0.out x5_1 p175 q175
        cases e175
        have HR175_0 := Aside0.mk hi175_0
        have HC175_0 := Aside0.mk hl175_0
        clear hi175_0 hl175_0
        replace p175 := eq_true p175
        replace q175 := eq_true q175
        have p176 : 0 ≤ (x5_1 : Int) := q_d
        have q176 : x5_1 < (l1.length : Int) := q_d
        obtain ⟨ad176, A176_0, c176_0, e176, hx176_0, hl176_0, hi176_0⟩ := at_L1 HR1.out x5_1 p176 q176
        cases e176
        have HR176_0 := Aside0.mk hi176_0
        have HC176_0 := Aside0.mk hl176_0
        clear hi176_0 hl176_0
        replace p176 := eq_true p176
        replace q176 := eq_true q176
        go_wp2_with (first | (go_at_call 23; (with_reducible refine (laws_eqByteS.calls k1 _ _ (rd_L1 l0 x5_1) _ _ (rd_L1 l1 x5_1) true _ ?side1 ?side2 ?side3 ?side4 A7.out).mono ?_); (case side1 => exact q_c (HR175_0.out)); (case side2 => exact HC175_0.out); (case side3 => exact q_c (HR176_0.out)); (case side4 => exact HC176_0.out); rintro e w' ⟨rfl, ⟨nd, rfl⟩⟩; (try first | exact ⟨rfl, _, World.drewN_drewN _ _ _⟩ | exact ⟨rfl, _, Eq.trans (World.drewN_drewN _ _ _) (congrArg (World.drewN _) (Nat.add_assoc _ _ _))⟩)))
        repeat (go_quiet (first | (go_at_call 23; (with_reducible refine (laws_eqByteS.calls k1 _ _ (rd_L1 l0 x5_1) _ _ (rd_L1 l1 x5_1) true _ ?side1 ?side2 ?side3 ?side4 A7.out).mono ?_); (case side1 => exact q_c (HR175_0.out)); (case side2 => exact HC175_0.out); (case side3 => exact q_c (HR176_0.out)); (case side4 => exact HC176_0.out); rintro e w' ⟨rfl, ⟨nd, rfl⟩⟩; (try first | exact ⟨rfl, _, World.drewN_drewN _ _ _⟩ | exact ⟨rfl, _, Eq.trans (World.drewN_drewN _ _ _) (congrArg (World.drewN _) (Nat.add_assoc _ _ _))⟩))); try go_wp2_with (first | (go_at_call 23; (with_reducible refine (laws_eqByteS.calls k1 _ _ (rd_L1 l0 x5_1) _ _ (rd_L1 l1 x5_1) true _ ?side1 ?side2 ?side3 ?side4 A7.out).mono ?_); (case side1 => exact q_c (HR175_0.out)); (case side2 => exact HC175_0.out); (case side3 => exact q_c (HR176_0.out)); (case side4 => exact HC176_0.out); rintro e w' ⟨rfl, ⟨nd, rfl⟩⟩; (try first | exact ⟨rfl, _, World.drewN_drewN _ _ _⟩ | exact ⟨rfl, _, Eq.trans (World.drewN_drewN _ _ _) (congrArg (World.drewN _) (Nat.add_assoc _ _ _))⟩))))
        go_roundg k1
        case measure => have := HK1.out; omega
        case rel => exact ⟨(wrap64 (x5_1 + 1)), q_i, H', ⟨by have := HK1.out; omega⟩, q_0⟩
       ·replace c8 := Bool.eq_false_iff.mpr c8
        subst c8
        have H1 : (some false) = some r := by rw [if_neg (show ¬ (false = true) by decide)] at H; exact H
        clear H
        have H := H1
        clear H1
        obtain rfl := Option.some.inj H
        have p175 : 0 ≤ (x5_1 : Int) := q_d
        have q175 : x5_1 < (l0.length : Int) := q_d
        obtain ⟨ad175, A175_0, c175_0, e175, hx175_0, hl175_0, hi175_0⟩ := at_L1 HR0.out x5_1 p175 q175
        cases e175
        have HR175_0 := Aside0.mk hi175_0
        have HC175_0 := Aside0.mk hl175_0
        clear hi175_0 hl175_0
        replace p175 := eq_true p175
        replace q175 := eq_true q175
        have p176 : 0 ≤ (x5_1 : Int) := q_d
        have q176 : x5_1 < (l1.length : Int) := q_d
        obtain ⟨ad176, A176_0, c176_0, e176, hx176_0, hl176_0, hi176_0⟩ := at_L1 HR1.out x5_1 p176 q176
        cases e176
        have HR176_0 := Aside0.mk hi176_0
        have HC176_0 := Aside0.mk hl176_0
        clear hi176_0 hl176_0
        replace p176 := eq_true p176
        replace q176 := eq_true q176
        go_wp2_with (first | (go_at_call 23; (with_reducible refine (laws_eqByteS.calls k1 _ _ (rd_L1 l0 x5_1) _ _ (rd_L1 l1 x5_1) false _ ?side1 ?side2 ?side3 ?side4 A7.out).mono ?_); (case side1 => exact q_c (HR175_0.out)); (case side2 => exact HC175_0.out); (case side3 => exact q_c (HR176_0.out)); (case side4 => exact HC176_0.out); rintro e w' ⟨rfl, ⟨nd, rfl⟩⟩; (try first | exact ⟨rfl, _, World.drewN_drewN _ _ _⟩ | exact ⟨rfl, _, Eq.trans (World.drewN_drewN _ _ _) (congrArg (World.drewN _) (Nat.add_assoc _ _ _))⟩)))
        repeat (go_quiet (first | (go_at_call 23; (with_reducible refine (laws_eqByteS.calls k1 _ _ (rd_L1 l0 x5_1) _ _ (rd_L1 l1 x5_1) false _ ?side1 ?side2 ?side3 ?side4 A7.out).mono ?_); (case side1 => exact q_c (HR175_0.out)); (case side2 => exact HC175_0.out); (case side3 => exact q_c (HR176_0.out)); (case side4 => exact HC176_0.out); rintro e w' ⟨rfl, ⟨nd, rfl⟩⟩; (try first | exact ⟨rfl, _, World.drewN_drewN _ _ _⟩ | exact ⟨rfl, _, Eq.trans (World.drewN_drewN _ _ _) (congrArg (World.drewN _) (Nat.add_assoc _ _ _))⟩))); try go_wp2_with (first | (go_at_call 23; (with_reducible refine (laws_eqByteS.calls k1 _ _ (rd_L1 l0 x5_1) _ _ (rd_L1 l1 x5_1) false _ ?side1 ?side2 ?side3 ?side4 A7.out).mono ?_); (case side1 => exact q_c (HR175_0.out)); (case side2 => exact HC175_0.out); (case side3 => exact q_c (HR176_0.out)); (case side4 => exact HC176_0.out); rintro e w' ⟨rfl, ⟨nd, rfl⟩⟩; (try first | exact ⟨rfl, _, World.drewN_drewN _ _ _⟩ | exact ⟨rfl, _, Eq.trans (World.drewN_drewN _ _ _) (congrArg (World.drewN _) (Nat.add_assoc _ _ _))⟩))))
        go_ret
        exact ⟨by first | rfl | (simp; done) | (simp [*]; done), q_0⟩
      ·rw [if_neg c6] at H
       exact absurd H (by simp)
     ·rw [if_neg c5] at H
      exact absurd H (by simp)
    ·rw [if_neg c4] at H
     have c4b0 := decide_eq_false c4
     clear c4
     obtain rfl := Option.some.inj H
     go_wp2
     repeat (go_quiet (fail); try go_wp2)
     go_ret
     exact ⟨by first | rfl | (simp; done) | (simp [*]; done), q_0⟩
 ·rw [if_neg c3] at H
  have c3b0 : ((l0.length : Int) == (l1.length : Int)) = false := beq_eq_false_iff_ne.mpr c3
  have c3b1 : ((l0.length : Int) != (l1.length : Int)) = true := bne_iff_ne.mpr c3
  have c3b2 : (l0.length == l1.length) = false := by first | simpa using c3 | (simp at c3 ⊢; omega)
  obtain rfl := Option.some.inj H
  go_enter Try.func65, Try.ntmps65
  go_wp2
  repeat (go_quiet (fail); try go_wp2)
  go_ret
  exact ⟨by first | rfl | (simp; done) | (simp [*]; done), q_0⟩

/-! ### laws_eqRecordsResult: function 38 -/
def laws_eqRecordsResult.f (k : Nat) (a0_0 : Int) (a0_1 : Int) (l0_2 : List (List Int)) (a1_0 : Int) (a1_1 : Int) (l1_2 : List (List Int)) : Option (Bool) := if a0_0 = a1_0 then (if a0_1 = a1_1 then ((laws_eqByteSS.f k l0_2 l1_2).bind fun t180 => (if t180 = true then (some true) else (some false))) else (some false)) else (some false)
set_option maxHeartbeats 8000000 in
set_option maxRecDepth 100000 in
theorem laws_eqRecordsResult.calls (k : Nat) (a0_0 : Int) (a0_1 : Int) (A0_2 : Option Addr) (c0_2 : Nat) (l0_2 : List (List Int)) (a1_0 : Int) (a1_1 : Int) (A1_2 : Option Addr) (c1_2 : Nat) (l1_2 : List (List Int)) (r : Bool) (w : World) (hr0_2 : Kd.C (Kd.slice 5 (Kd.int .u8)) w A0_2 l0_2.length l0_2) (hc0_2 : l0_2.length ≤ c0_2) (hr1_2 : Kd.C (Kd.slice 5 (Kd.int .u8)) w A1_2 l1_2.length l1_2) (hc1_2 : l1_2.length ≤ c1_2) (h : laws_eqRecordsResult.f k a0_0 a0_1 l0_2 a1_0 a1_1 l1_2 = some r) :
  Calls Try.prog 38 #[.agg #[.int .i64 a0_0, .int .i64 a0_1, .slice A0_2 l0_2.length c0_2], .agg #[.int .i64 a1_0, .int .i64 a1_1, .slice A1_2 l1_2.length c1_2]] w fun e w' => e = .returned (.bool r) ∧ Below w.heap.size w w' := by
 have hu43 := Try.underlying43
 have HR0_2 := Aside0.mk hr0_2
 have HC0_2 := Aside0.mk hc0_2
 clear hr0_2 hc0_2
 have HR1_2 := Aside0.mk hr1_2
 have HC1_2 := Aside0.mk hc1_2
 clear hr1_2 hc1_2
 have HB := Aside0.mk (Below.refl w.heap.size w)
 have H : (if a0_0 = a1_0 then (if a0_1 = a1_1 then ((laws_eqByteSS.f k l0_2 l1_2).bind fun t180 => (if t180 = true then (some true) else (some false))) else (some false)) else (some false)) = some r := h
 clear h
 by_cases c3 : a0_0 = a1_0
 ·rw [if_pos c3] at H
  have c3b0 : (a0_0 == a1_0) = true := beq_iff_eq.mpr c3
  have c3b1 : (a0_0 != a1_0) = false := bne_eq_false_iff_eq.mpr c3
  clear c3
  by_cases c4 : a0_1 = a1_1
  ·rw [if_pos c4] at H
   have c4b0 : (a0_1 == a1_1) = true := beq_iff_eq.mpr c4
   have c4b1 : (a0_1 != a1_1) = false := bne_eq_false_iff_eq.mpr c4
   clear c4
   replace H := Option.bind_eq_some_iff.mp H
   obtain ⟨t180, A50, H⟩ := H
   replace H : (if t180 = true then (some true) else (some false)) = some r := H
   have A5 := Aside0.mk A50
   clear A50
   by_cases c6 : t180 = true
   ·subst c6
    have H1 : (some true) = some r := by rw [if_pos rfl] at H; exact H
    clear H
    have H := H1
    clear H1
    obtain rfl := Option.some.inj H
    go_enter Try.func38, Try.ntmps38
    go_wp2_with (first | ((with_reducible refine gate_dst (N := 2) rfl ?_); refine q_box (N := 2) (cs := #[.int .i64 a0_0, .int .i64 a0_1, .slice A0_2 l0_2.length c0_2]) (t := 43) ?_; intro gb178 hg w7 hbox hb; have n0_ := Aside0.mk (below_step bq hb); have n1_ := Aside0.mk (hbox); have n2_ := Aside0.mk ((q_g hg bq : w.heap.size ≤ gb178)); have n3_ := Aside0.mk ((q_g hg bq : w.heap.size ≤ gb178)); revert n0_ n1_ n2_ n3_; clear HB; intro HB BK178 GW178 GE178; clear hb hbox hg) | ((with_reducible refine gate_dst (N := 3) rfl ?_); refine q_box (N := 3) (cs := #[.int .i64 a1_0, .int .i64 a1_1, .slice A1_2 l1_2.length c1_2]) (t := 43) ?_; intro gb179 hg w8 hbox hb; have n0_ := Aside0.mk (blk_below (q_b BK178.out) hb); have n1_ := Aside0.mk (below_step bq hb); have n2_ := Aside0.mk (hbox); have n3_ := Aside0.mk ((q_g hg bq : w.heap.size ≤ gb179)); have n4_ := Aside0.mk ((q_g hg bq : w.heap.size ≤ gb179)); have n5_ := Aside0.mk ((q_n hg (q_b BK178.out) : gb178 ≠ gb179)); have n6_ := Aside0.mk ((q_m hg (q_b BK178.out) : gb179 ≠ gb178)); revert n0_ n1_ n2_ n3_ n4_ n5_ n6_; clear BK178 HB; intro BK178 HB BK179 GW179 GE179 NB178_179 NB179_178; clear hb hbox hg; have hnb9 := NB178_179.out; have hnc9 := NB179_178.out; obtain ⟨hcz10_0, hcz10_1, hcz10_2, hfz10_0, hfz10_1, hfz10_2⟩ := q_3 BK178.out; obtain ⟨hcz11_0, hcz11_1, hcz11_2, hfz11_0, hfz11_1, hfz11_2⟩ := q_3 BK179.out) | ((with_reducible refine gate_callee (f := 65) rfl ?_); refine goesLq (some 19) rfl rfl Try.func65 (by kernel_rfl) rfl #[.slice A0_2 l0_2.length c0_2, .slice A1_2 l1_2.length c1_2] rfl ?_; (with_reducible refine (laws_eqByteSS.calls k _ _ l0_2 _ _ l1_2 true _ ?side1 ?side2 ?side3 ?side4 A5.out).mono ?_); (case side1 => exact q_c ((Kd.C_below HR0_2.out HB.out))); (case side2 => exact HC0_2.out); (case side3 => exact q_c ((Kd.C_below HR1_2.out HB.out))); (case side4 => exact HC1_2.out); rintro e w' ⟨rfl, ⟨nd, rfl⟩⟩; refine ⟨_, rfl, ?_⟩))
    go_ret
    exact ⟨q_e, bq⟩
   ·replace c6 := Bool.eq_false_iff.mpr c6
    subst c6
    have H1 : (some false) = some r := by rw [if_neg (show ¬ (false = true) by decide)] at H; exact H
    clear H
    have H := H1
    clear H1
    obtain rfl := Option.some.inj H
    go_enter Try.func38, Try.ntmps38
    go_wp2_with (first | ((with_reducible refine gate_dst (N := 2) rfl ?_); refine q_box (N := 2) (cs := #[.int .i64 a0_0, .int .i64 a0_1, .slice A0_2 l0_2.length c0_2]) (t := 43) ?_; intro gb178 hg w12 hbox hb; have n0_ := Aside0.mk (below_step bq hb); have n1_ := Aside0.mk (hbox); have n2_ := Aside0.mk ((q_g hg bq : w.heap.size ≤ gb178)); have n3_ := Aside0.mk ((q_g hg bq : w.heap.size ≤ gb178)); revert n0_ n1_ n2_ n3_; clear HB; intro HB BK178 GW178 GE178; clear hb hbox hg) | ((with_reducible refine gate_dst (N := 3) rfl ?_); refine q_box (N := 3) (cs := #[.int .i64 a1_0, .int .i64 a1_1, .slice A1_2 l1_2.length c1_2]) (t := 43) ?_; intro gb179 hg w13 hbox hb; have n0_ := Aside0.mk (blk_below (q_b BK178.out) hb); have n1_ := Aside0.mk (below_step bq hb); have n2_ := Aside0.mk (hbox); have n3_ := Aside0.mk ((q_g hg bq : w.heap.size ≤ gb179)); have n4_ := Aside0.mk ((q_g hg bq : w.heap.size ≤ gb179)); have n5_ := Aside0.mk ((q_n hg (q_b BK178.out) : gb178 ≠ gb179)); have n6_ := Aside0.mk ((q_m hg (q_b BK178.out) : gb179 ≠ gb178)); revert n0_ n1_ n2_ n3_ n4_ n5_ n6_; clear BK178 HB; intro BK178 HB BK179 GW179 GE179 NB178_179 NB179_178; clear hb hbox hg; have hnb14 := NB178_179.out; have hnc14 := NB179_178.out; obtain ⟨hcz15_0, hcz15_1, hcz15_2, hfz15_0, hfz15_1, hfz15_2⟩ := q_3 BK178.out; obtain ⟨hcz16_0, hcz16_1, hcz16_2, hfz16_0, hfz16_1, hfz16_2⟩ := q_3 BK179.out) | ((with_reducible refine gate_callee (f := 65) rfl ?_); refine goesLq (some 19) rfl rfl Try.func65 (by kernel_rfl) rfl #[.slice A0_2 l0_2.length c0_2, .slice A1_2 l1_2.length c1_2] rfl ?_; (with_reducible refine (laws_eqByteSS.calls k _ _ l0_2 _ _ l1_2 false _ ?side1 ?side2 ?side3 ?side4 A5.out).mono ?_); (case side1 => exact q_c ((Kd.C_below HR0_2.out HB.out))); (case side2 => exact HC0_2.out); (case side3 => exact q_c ((Kd.C_below HR1_2.out HB.out))); (case side4 => exact HC1_2.out); rintro e w' ⟨rfl, ⟨nd, rfl⟩⟩; refine ⟨_, rfl, ?_⟩))
    go_ret
    exact ⟨q_e, bq⟩
  ·rw [if_neg c4] at H
   have c4b0 : (a0_1 == a1_1) = false := beq_eq_false_iff_ne.mpr c4
   have c4b1 : (a0_1 != a1_1) = true := bne_iff_ne.mpr c4
   obtain rfl := Option.some.inj H
   go_enter Try.func38, Try.ntmps38
   go_wp2_with (first | ((with_reducible refine gate_dst (N := 2) rfl ?_); refine q_box (N := 2) (cs := #[.int .i64 a0_0, .int .i64 a0_1, .slice A0_2 l0_2.length c0_2]) (t := 43) ?_; intro gb178 hg w17 hbox hb; have n0_ := Aside0.mk (below_step bq hb); have n1_ := Aside0.mk (hbox); have n2_ := Aside0.mk ((q_g hg bq : w.heap.size ≤ gb178)); have n3_ := Aside0.mk ((q_g hg bq : w.heap.size ≤ gb178)); revert n0_ n1_ n2_ n3_; clear HB; intro HB BK178 GW178 GE178; clear hb hbox hg) | ((with_reducible refine gate_dst (N := 3) rfl ?_); refine q_box (N := 3) (cs := #[.int .i64 a1_0, .int .i64 a1_1, .slice A1_2 l1_2.length c1_2]) (t := 43) ?_; intro gb179 hg w18 hbox hb; have n0_ := Aside0.mk (blk_below (q_b BK178.out) hb); have n1_ := Aside0.mk (below_step bq hb); have n2_ := Aside0.mk (hbox); have n3_ := Aside0.mk ((q_g hg bq : w.heap.size ≤ gb179)); have n4_ := Aside0.mk ((q_g hg bq : w.heap.size ≤ gb179)); have n5_ := Aside0.mk ((q_n hg (q_b BK178.out) : gb178 ≠ gb179)); have n6_ := Aside0.mk ((q_m hg (q_b BK178.out) : gb179 ≠ gb178)); revert n0_ n1_ n2_ n3_ n4_ n5_ n6_; clear BK178 HB; intro BK178 HB BK179 GW179 GE179 NB178_179 NB179_178; clear hb hbox hg; have hnb19 := NB178_179.out; have hnc19 := NB179_178.out; obtain ⟨hcz20_0, hcz20_1, hcz20_2, hfz20_0, hfz20_1, hfz20_2⟩ := q_3 BK178.out; obtain ⟨hcz21_0, hcz21_1, hcz21_2, hfz21_0, hfz21_1, hfz21_2⟩ := q_3 BK179.out))
   go_ret
   exact ⟨q_e, bq⟩
 ·rw [if_neg c3] at H
  have c3b0 : (a0_0 == a1_0) = false := beq_eq_false_iff_ne.mpr c3
  have c3b1 : (a0_0 != a1_0) = true := bne_iff_ne.mpr c3
  obtain rfl := Option.some.inj H
  go_enter Try.func38, Try.ntmps38
  go_wp2_with (first | ((with_reducible refine gate_dst (N := 2) rfl ?_); refine q_box (N := 2) (cs := #[.int .i64 a0_0, .int .i64 a0_1, .slice A0_2 l0_2.length c0_2]) (t := 43) ?_; intro gb178 hg w22 hbox hb; have n0_ := Aside0.mk (below_step bq hb); have n1_ := Aside0.mk (hbox); have n2_ := Aside0.mk ((q_g hg bq : w.heap.size ≤ gb178)); have n3_ := Aside0.mk ((q_g hg bq : w.heap.size ≤ gb178)); revert n0_ n1_ n2_ n3_; clear HB; intro HB BK178 GW178 GE178; clear hb hbox hg) | ((with_reducible refine gate_dst (N := 3) rfl ?_); refine q_box (N := 3) (cs := #[.int .i64 a1_0, .int .i64 a1_1, .slice A1_2 l1_2.length c1_2]) (t := 43) ?_; intro gb179 hg w23 hbox hb; have n0_ := Aside0.mk (blk_below (q_b BK178.out) hb); have n1_ := Aside0.mk (below_step bq hb); have n2_ := Aside0.mk (hbox); have n3_ := Aside0.mk ((q_g hg bq : w.heap.size ≤ gb179)); have n4_ := Aside0.mk ((q_g hg bq : w.heap.size ≤ gb179)); have n5_ := Aside0.mk ((q_n hg (q_b BK178.out) : gb178 ≠ gb179)); have n6_ := Aside0.mk ((q_m hg (q_b BK178.out) : gb179 ≠ gb178)); revert n0_ n1_ n2_ n3_ n4_ n5_ n6_; clear BK178 HB; intro BK178 HB BK179 GW179 GE179 NB178_179 NB179_178; clear hb hbox hg; have hnb24 := NB178_179.out; have hnc24 := NB179_178.out; obtain ⟨hcz25_0, hcz25_1, hcz25_2, hfz25_0, hfz25_1, hfz25_2⟩ := q_3 BK178.out; obtain ⟨hcz26_0, hcz26_1, hcz26_2, hfz26_0, hfz26_1, hfz26_2⟩ := q_3 BK179.out))
  go_ret
  exact ⟨q_e, bq⟩

/-! ### laws_markByteSS: function 66 -/
def laws_markByteSS.l0 : Nat → List (List Int) → Int → Int → Option (Int × List (List Int))
  | 0, _, _, _ => none
  | k + 1, x0, x1, x5 => if x5 < (x0.length : Int) then (if 0 ≤ x5 then ((laws_markByteS.f k (x0.getD x5.toNat []) x1).bind fun bt => (laws_markByteSS.l0 k (x0.set x5.toNat bt.2) bt.1 (wrap64 (x5 + 1)))) else (none)) else (some (x1, x0))
def laws_markByteSS.f (k : Nat) (l0 : List (List Int)) (a1 : Int) : Option (Int × List (List Int)) := laws_markByteSS.l0 k l0 a1 0
set_option maxHeartbeats 8000000 in
set_option maxRecDepth 100000 in
theorem laws_markByteSS.calls (k : Nat) (P0_ : Nat → Prop) (u9000_ : Value) (l0 : List (List Int)) (a1 : Int) (r1 : Int) (r2 : List (List Int)) (w0 w : World) (hB : Below w0.heap.size w0 w) (ho0 : Kd.S (Kd.slice 5 (Kd.int .u8)) 22 w w0.heap.size P0_ u9000_ l0) (h : laws_markByteSS.f k l0 a1 = some (r1, r2)) :
  Calls Try.prog 66 #[u9000_, .int .i64 a1] w fun e w' => e = .returned (.int .i64 r1) ∧ Kd.S (Kd.slice 5 (Kd.int .u8)) 22 w' w0.heap.size P0_ u9000_ r2 ∧ Below w0.heap.size w0 w' ∧ Kept w w' (fun k_ => P0_ k_) := by
 have HO0 := Aside0.mk ho0
 have HK := Aside0.mk (Kept.refl w (fun k_ => P0_ k_))
 have HB := Aside0.mk hB
 clear hB ho0
 have H' := Aside0.mk (show laws_markByteSS.l0 k l0 a1 0 = some (r1, r2) from h)
 clear h
 go_enter Try.func66, Try.ntmps66
 go_wp2
 go_loopg [1, 5] k (fun kq v1 v5 w' => ∃ (x0_1 : List (List Int)) (x1_1 : Int) (x5_1 : Int), v1 = .int .i64 x1_1 ∧ v5 = .int .i64 x5_1 ∧ Aside0 (laws_markByteSS.l0 kq x0_1 x1_1 x5_1 = some (r1, r2)) ∧ Aside0 (kq ≤ k) ∧ Aside0 (Kd.S (Kd.slice 5 (Kd.int .u8)) 22 w' w0.heap.size P0_ u9000_ x0_1) ∧ Aside0 (Kept w w' (fun k_ => P0_ k_)) ∧ Aside0 (Below w0.heap.size w0 w'))
 case atStart => exact ⟨l0, a1, 0, rfl, rfl, H', ⟨Nat.le_refl _⟩, HO0, HK, HB⟩
 case round =>
  clear H'
  obtain ⟨x0_1, x1_1, x5_1, rfl, rfl, HA, HK1, HO_0, HK, HB⟩ := hrel
  cases gk with
  | zero => exact absurd HA.out (by simp [laws_markByteSS.l0])
  | succ k1 =>
   have H := HA.out
   clear HA
   simp only [laws_markByteSS.l0] at H
   by_cases c3 : x5_1 < (x0_1.length : Int)
   ·rw [if_pos c3] at H
    by_cases c4 : 0 ≤ x5_1
    ·rw [if_pos c4] at H
     obtain ⟨⟨t1, t2⟩, A10, H⟩ := Option.bind_eq_some_iff.mp H
     have A1 := Aside0.mk A10
     have H' := Aside0.mk (show laws_markByteSS.l0 k1 (x0_1.set x5_1.toNat t2) t1 (wrap64 (x5_1 + 1)) = some (r1, r2) from H)
     clear H A10
     obtain ⟨go5, co5, eo5, gb5, gl5, cl5, HG5⟩ := Kd.R_form (Kd.S_R HO_0.out) (by omega)
     subst eo5
     clear gb5 gl5 HG5
     obtain ⟨oki, cs_, hcl, hM, hcc, hfr, hoki, hH⟩ := Kd.S_elem HO_0.out [] x5_1 c4 c3
     obtain ⟨yi, hyi⟩ : ∃ y_ : (List Int), y_ = x0_1.getD x5_1.toNat [] := ⟨_, rfl⟩
     have A1 := Aside0.mk (show laws_markByteS.f k1 yi x1_1 = some (t1, t2) from by rw [hyi]; exact A1.out)
     rw [← hyi] at hM
     clear hyi
     obtain ⟨vi_, rfl, hR⟩ := hM
     have hx5_0 : wr.cell? ⟨go5, (x5_1 : Int).toNat, none⟩ = some vi_ := by have h_ := hcc 0 vi_ rfl; simpa [Kd.slice] using h_
     have hf5_0 : wr.frozen? ⟨go5, (x5_1 : Int).toNat, none⟩ = false := by have h_ := hfr 0; simpa [Kd.slice] using h_
     obtain ⟨Ai, ci, rfl⟩ := Kd.R_slice hR
     have HRI := Aside0.mk hR
     have HOK := Aside0.mk hoki
     have HH := Aside0.mk hH
     clear hR hoki hH hcc hfr hcl
     have c3b0 := decide_eq_true c3
     have c4b0 := decide_eq_true c4
     have p5 := eq_true c4
     have q5 := eq_true c3
     clear c3 c4
     go_wp2_with (first | ((with_reducible refine gate_callee (f := 24) rfl ?_); refine goesL_ (some 17) rfl rfl Try.func24 (by kernel_rfl) rfl #[.slice Ai yi.length ci, .int .i64 x1_1] rfl (by (try simp only [List.map_toArray, List.map_cons, List.map_nil]); first | done | rfl) ?_; (with_reducible refine (laws_markByteS.calls k1 oki _ _ x1_1 t1 t2 w0 _ ?side1 ?side2 A1.out).mono ?_); (case side1 => exact HB.out); (case side2 => exact HRI.out); rintro e w8 ⟨rfl, hy, hb, hkp⟩; refine ⟨_, rfl, ?_⟩; have n0_ := Aside0.mk (show Kd.S (Kd.slice 5 (Kd.int .u8)) 22 w8 w0.heap.size P0_ (.slice (some ⟨go5, 0, none⟩) x0_1.length co5) (x0_1.set x5_1.toNat t2) from Kd.H_back (Kd.H_kept HH.out hkp (fun _ _ hn hs => hn hs)) ⟨_, rfl, Kd.R_reok rfl hy (fun k_ e_ => HRI.out.1 k_ e_)⟩ (fun _ h_ => h_)); have n1_ := Aside0.mk (HK.out.then_ hkp (fun k_ hk => .inl (HOK.out k_ hk).1)); have n2_ := Aside0.mk hb; clear HO_0 HK HB HH; have HO_0 := n0_; have HK := n1_; have HB := n2_; clear n0_ n1_ n2_ hy hb hkp))
     go_roundg k1
     case measure => have := HK1.out; omega
     case rel => exact ⟨_, t1, (wrap64 (x5_1 + 1)), q_i, q_i, H', ⟨by have := HK1.out; omega⟩, HO_0, HK, HB⟩
    ·rw [if_neg c4] at H
     exact absurd H (by simp)
   ·rw [if_neg c3] at H
    have c3b0 := decide_eq_false c3
    clear c3
    simp only [Option.some.injEq, Prod.mk.injEq] at H
    obtain ⟨rfl, rfl⟩ := H
    obtain ⟨Ao9, co9, eo9⟩ := Kd.S_slice HO_0.out
    subst eo9
    go_wp2
    go_ret
    exact ⟨by first | rfl | (simp; done), HO_0.out, HB.out, HK.out⟩

/-! ### laws_markRecordsResult: function 39 -/
def laws_markRecordsResult.f (k : Nat) (a0_0 : Int) (a0_1 : Int) (l0_2 : List (List Int)) (a1 : Int) : Option (Int × List (List Int)) := laws_markByteSS.f k l0_2 a1
set_option maxHeartbeats 8000000 in
set_option maxRecDepth 100000 in
theorem laws_markRecordsResult.calls (k : Nat) (a0_0 : Int) (a0_1 : Int) (P0_2_ : Nat → Prop) (u9000_ : Value) (l0_2 : List (List Int)) (a1 : Int) (r1 : Int) (r2 : List (List Int)) (w0 w : World) (hB : Below w0.heap.size w0 w) (ho0_2 : Kd.S (Kd.slice 5 (Kd.int .u8)) 22 w w0.heap.size P0_2_ u9000_ l0_2) (h : laws_markRecordsResult.f k a0_0 a0_1 l0_2 a1 = some (r1, r2)) :
  Calls Try.prog 39 #[.agg #[.int .i64 a0_0, .int .i64 a0_1, u9000_], .int .i64 a1] w fun e w' => e = .returned (.int .i64 r1) ∧ Kd.S (Kd.slice 5 (Kd.int .u8)) 22 w' w0.heap.size P0_2_ u9000_ r2 ∧ Below w0.heap.size w0 w' ∧ Kept w w' (fun k_ => P0_2_ k_) := by
 have HB := Aside0.mk hB
 have HK := Aside0.mk (Kept.refl w (fun k_ => P0_2_ k_))
 have HO2 := Aside0.mk ho0_2
 clear hB ho0_2
 have A1 := Aside0.mk (show laws_markByteSS.f k l0_2 a1 = some (r1, r2) from h)
 clear h
 obtain ⟨Ao2, co2, eo2⟩ := Kd.S_slice HO2.out
 subst eo2
 go_enter Try.func39, Try.ntmps39
 go_wp2_with (first | ((with_reducible refine gate_dst (N := 2) rfl ?_); refine q_box (N := 2) (cs := #[.int .i64 a0_0, .int .i64 a0_1, .slice Ao2 l0_2.length co2]) (t := 43) ?_; intro gb hg w5 hbox hb; replace HO2 := Aside0.mk (Kd.S_below HO2.out hb); have n1_ := Aside0.mk (HK.out.below hb); have n2_ := Aside0.mk (below_then HB.out HB.out.size hb); have BK := Aside0.mk hbox; clear HK HB; have HK := n1_; have HB := n2_; clear n1_ n2_ hbox; obtain ⟨hcz0, hcz1, hcz2, hfz0, hfz1, hfz2⟩ := q_3 BK.out; clear hb hg) | ((with_reducible refine gate_dst (N := 8) rfl ?_); refine goesL_ (some 8) rfl rfl Try.func66 (by kernel_rfl) rfl #[.slice Ao2 l0_2.length co2, .int .i64 a1] rfl (by (try simp only [List.map_toArray, List.map_cons, List.map_nil]); first | done | rfl) ?_; (with_reducible refine (laws_markByteSS.calls k P0_2_ _ l0_2 a1 r1 r2 w0 _ ?side1 ?side2 A1.out).mono ?_); (case side1 => exact HB.out); (case side2 => exact HO2.out); rintro e w8 ⟨rfl, hy, hb, hkp⟩; refine ⟨_, rfl, ?_⟩; replace HO2 := Aside0.mk hy; replace HK := Aside0.mk (HK.out.then_ hkp (fun k_ hk => .inl hk)); replace HB := Aside0.mk hb; clear hy hb hkp))
 go_ret
 exact ⟨rfl, HO2.out, HB.out, HK.out⟩

/-! ### laws_heldByteS: function 56 -/
def laws_heldByteS.l0 : Nat → List Int → Int → Int → Option (Int)
  | 0, _, _, _ => none
  | k + 1, x0, x1, x5 => if x5 < (x0.length : Int) then (if 0 ≤ x5 then (if (rd x0 x5) = ((x1) % 256) then (laws_heldByteS.l0 k x0 (wrap64 (x1 + 1)) (wrap64 (x5 + 1))) else (some (-1))) else (none)) else (some x1)
def laws_heldByteS.f (k : Nat) (l0 : List Int) (a1 : Int) : Option (Int) := laws_heldByteS.l0 k l0 a1 0
set_option maxHeartbeats 8000000 in
set_option maxRecDepth 100000 in
theorem laws_heldByteS.calls (k : Nat) (A0 : Option Addr) (c0 : Nat) (l0 : List Int) (a1 : Int) (r : Int) (w : World) (hr0 : Kd.C (Kd.int .u8) w A0 l0.length l0) (hc0 : l0.length ≤ c0) (h : laws_heldByteS.f k l0 a1 = some r) :
  Calls Try.prog 56 #[.slice A0 l0.length c0, .int .i64 a1] w fun e w' => e = .returned (.int .i64 r) ∧ Drawn0 w w' := by
 have HR0 := Aside0.mk hr0
 have HC0 := Aside0.mk hc0
 clear hr0 hc0
 have H : (laws_heldByteS.l0 k l0 a1 0) = some r := h
 clear h
 have H' := Aside0.mk H
 clear H
 go_enter Try.func56, Try.ntmps56
 go_wp2
 go_loopg [1, 5] k (fun kq v1 v5 w' => ∃ (x1_1 : Int) (x5_1 : Int), v1 = .int .i64 x1_1 ∧ v5 = .int .i64 x5_1 ∧ Aside0 (laws_heldByteS.l0 kq l0 x1_1 x5_1 = some r) ∧ Aside0 (kq ≤ k) ∧ Drawn0 w w')
 case atStart => exact ⟨(a1), (0), q_i, q_i, H', ⟨Nat.le_refl _⟩, q_0⟩
 case round =>
  clear H'
  (try clear p2)
  obtain ⟨x1_1, x5_1, rfl, rfl, HA, HK1, ⟨m1, rfl⟩⟩ := hrel
  cases gk with
  | zero => exact absurd HA.out (by simp [laws_heldByteS.l0])
  | succ k1 =>
   have H := HA.out
   clear HA
   simp only [laws_heldByteS.l0] at H
   by_cases c3 : x5_1 < (l0.length : Int)
   ·rw [if_pos c3] at H
    have c3b0 := decide_eq_true c3
    clear c3
    by_cases c4 : 0 ≤ x5_1
    ·rw [if_pos c4] at H
     have c4b0 := decide_eq_true c4
     clear c4
     by_cases c5 : (rd l0 x5_1) = ((x1_1) % 256)
     ·rw [if_pos c5] at H
      have c5b0 : ((rd l0 x5_1) == ((x1_1) % 256)) = true := beq_iff_eq.mpr c5
      have c5b1 : ((rd l0 x5_1) != ((x1_1) % 256)) = false := bne_eq_false_iff_eq.mpr c5
      clear c5
      have H' := Aside0.mk H
      clear H
      have p181 : 0 ≤ (x5_1 : Int) := q_d
      have q181 : x5_1 < (l0.length : Int) := q_d
      obtain ⟨ad181, e181, hx181_0⟩ := Kd.at_int HR0.out x5_1 p181 q181
      cases e181
      replace p181 := eq_true p181
      replace q181 := eq_true q181
      go_wp2
      go_roundg k1
      case measure => have := HK1.out; omega
      case rel => exact ⟨(wrap64 (x1_1 + 1)), (wrap64 (x5_1 + 1)), q_i, q_i, H', ⟨by have := HK1.out; omega⟩, q_0⟩
     ·rw [if_neg c5] at H
      have c5b0 : ((rd l0 x5_1) == ((x1_1) % 256)) = false := beq_eq_false_iff_ne.mpr c5
      have c5b1 : ((rd l0 x5_1) != ((x1_1) % 256)) = true := bne_iff_ne.mpr c5
      obtain rfl := Option.some.inj H
      have p181 : 0 ≤ (x5_1 : Int) := q_d
      have q181 : x5_1 < (l0.length : Int) := q_d
      obtain ⟨ad181, e181, hx181_0⟩ := Kd.at_int HR0.out x5_1 p181 q181
      cases e181
      replace p181 := eq_true p181
      replace q181 := eq_true q181
      go_wp2
      go_ret
      exact ⟨by first | rfl | (simp; done) | (simp [*]; done), q_0⟩
    ·rw [if_neg c4] at H
     exact absurd H (by simp)
   ·rw [if_neg c3] at H
    have c3b0 := decide_eq_false c3
    clear c3
    obtain rfl := Option.some.inj H
    go_wp2
    go_ret
    exact ⟨by first | rfl | (simp; done) | (simp [*]; done), q_0⟩

/-! ### laws_heldByteSS: function 67 -/
def laws_heldByteSS.l0 : Nat → List (List Int) → Int → Int → Option (Int)
  | 0, _, _, _ => none
  | k + 1, x0, x1, x5 => if x5 < (x0.length : Int) then (if 0 ≤ x5 then ((laws_heldByteS.f k (rd_L1 x0 x5) x1).bind fun t183 => (if t183 < 0 then (some (-1)) else (laws_heldByteSS.l0 k x0 t183 (wrap64 (x5 + 1))))) else (none)) else (some x1)
def laws_heldByteSS.f (k : Nat) (l0 : List (List Int)) (a1 : Int) : Option (Int) := laws_heldByteSS.l0 k l0 a1 0
set_option maxHeartbeats 8000000 in
set_option maxRecDepth 100000 in
theorem laws_heldByteSS.calls (k : Nat) (A0 : Option Addr) (c0 : Nat) (l0 : List (List Int)) (a1 : Int) (r : Int) (w : World) (hr0 : Kd.C (Kd.slice 5 (Kd.int .u8)) w A0 l0.length l0) (hc0 : l0.length ≤ c0) (h : laws_heldByteSS.f k l0 a1 = some r) :
  Calls Try.prog 67 #[.slice A0 l0.length c0, .int .i64 a1] w fun e w' => e = .returned (.int .i64 r) ∧ Drawn0 w w' := by
 have HR0 := Aside0.mk hr0
 have HC0 := Aside0.mk hc0
 clear hr0 hc0
 have H : (laws_heldByteSS.l0 k l0 a1 0) = some r := h
 clear h
 have H' := Aside0.mk H
 clear H
 go_enter Try.func67, Try.ntmps67
 go_wp2
 go_loopg [1, 5] k (fun kq v1 v5 w' => ∃ (x1_1 : Int) (x5_1 : Int), v1 = .int .i64 x1_1 ∧ v5 = .int .i64 x5_1 ∧ Aside0 (laws_heldByteSS.l0 kq l0 x1_1 x5_1 = some r) ∧ Aside0 (kq ≤ k) ∧ Drawn0 w w')
 case atStart => exact ⟨(a1), (0), q_i, q_i, H', ⟨Nat.le_refl _⟩, q_0⟩
 case round =>
  clear H'
  (try clear p2)
  obtain ⟨x1_1, x5_1, rfl, rfl, HA, HK1, ⟨m1, rfl⟩⟩ := hrel
  cases gk with
  | zero => exact absurd HA.out (by simp [laws_heldByteSS.l0])
  | succ k1 =>
   have H := HA.out
   clear HA
   simp only [laws_heldByteSS.l0] at H
   by_cases c3 : x5_1 < (l0.length : Int)
   ·rw [if_pos c3] at H
    have c3b0 := decide_eq_true c3
    clear c3
    by_cases c4 : 0 ≤ x5_1
    ·rw [if_pos c4] at H
     have c4b0 := decide_eq_true c4
     clear c4
     replace H := Option.bind_eq_some_iff.mp H
     obtain ⟨t183, A50, H⟩ := H
     replace H : (if t183 < 0 then (some (-1)) else (laws_heldByteSS.l0 k1 l0 t183 (wrap64 (x5_1 + 1)))) = some r := H
     have A5 := Aside0.mk A50
     clear A50
     by_cases c6 : t183 < 0
     ·rw [if_pos c6] at H
      have c6b0 := decide_eq_true c6
      clear c6
      obtain rfl := Option.some.inj H
      have p182 : 0 ≤ (x5_1 : Int) := q_d
      have q182 : x5_1 < (l0.length : Int) := q_d
      obtain ⟨ad182, A182_0, c182_0, e182, hx182_0, hl182_0, hi182_0⟩ := at_L1 HR0.out x5_1 p182 q182
      cases e182
      have HR182_0 := Aside0.mk hi182_0
      have HC182_0 := Aside0.mk hl182_0
      clear hi182_0 hl182_0
      replace p182 := eq_true p182
      replace q182 := eq_true q182
      go_wp2_with (first | ((with_reducible refine gate_callee (f := 56) rfl ?_); refine goesLq (some 17) rfl rfl Try.func56 (by kernel_rfl) rfl #[.slice A182_0 (rd_L1 l0 x5_1).length c182_0, .int .i64 x1_1] rfl ?_; (with_reducible refine (laws_heldByteS.calls k1 _ _ (rd_L1 l0 x5_1) x1_1 t183 _ ?side1 ?side2 A5.out).mono ?_); (case side1 => exact q_c (HR182_0.out)); (case side2 => exact HC182_0.out); rintro e w' ⟨rfl, ⟨nd, rfl⟩⟩; refine ⟨_, rfl, ?_⟩))
      go_ret
      exact ⟨by first | rfl | (simp; done) | (simp [*]; done), q_0⟩
     ·rw [if_neg c6] at H
      have c6b0 := decide_eq_false c6
      clear c6
      have H' := Aside0.mk H
      clear H
      have p182 : 0 ≤ (x5_1 : Int) := q_d
      have q182 : x5_1 < (l0.length : Int) := q_d
      obtain ⟨ad182, A182_0, c182_0, e182, hx182_0, hl182_0, hi182_0⟩ := at_L1 HR0.out x5_1 p182 q182
      cases e182
      have HR182_0 := Aside0.mk hi182_0
      have HC182_0 := Aside0.mk hl182_0
      clear hi182_0 hl182_0
      replace p182 := eq_true p182
      replace q182 := eq_true q182
      go_wp2_with (first | ((with_reducible refine gate_callee (f := 56) rfl ?_); refine goesLq (some 17) rfl rfl Try.func56 (by kernel_rfl) rfl #[.slice A182_0 (rd_L1 l0 x5_1).length c182_0, .int .i64 x1_1] rfl ?_; (with_reducible refine (laws_heldByteS.calls k1 _ _ (rd_L1 l0 x5_1) x1_1 t183 _ ?side1 ?side2 A5.out).mono ?_); (case side1 => exact q_c (HR182_0.out)); (case side2 => exact HC182_0.out); rintro e w' ⟨rfl, ⟨nd, rfl⟩⟩; refine ⟨_, rfl, ?_⟩))
      go_roundg k1
      case measure => have := HK1.out; omega
      case rel => exact ⟨(t183), (wrap64 (x5_1 + 1)), q_i, q_i, H', ⟨by have := HK1.out; omega⟩, q_0⟩
    ·rw [if_neg c4] at H
     exact absurd H (by simp)
   ·rw [if_neg c3] at H
    have c3b0 := decide_eq_false c3
    clear c3
    obtain rfl := Option.some.inj H
    go_wp2
    go_ret
    exact ⟨by first | rfl | (simp; done) | (simp [*]; done), q_0⟩

/-! ### laws_heldRecordsResult: function 40 -/
def laws_heldRecordsResult.f (k : Nat) (a0_0 : Int) (a0_1 : Int) (l0_2 : List (List Int)) (a1 : Int) : Option (Int) := (laws_heldByteSS.f k l0_2 a1).bind fun t185 => (if t185 < 0 then (some (-1)) else (some t185))
set_option maxHeartbeats 8000000 in
set_option maxRecDepth 100000 in
theorem laws_heldRecordsResult.calls (k : Nat) (a0_0 : Int) (a0_1 : Int) (A0_2 : Option Addr) (c0_2 : Nat) (l0_2 : List (List Int)) (a1 : Int) (r : Int) (w : World) (hr0_2 : Kd.C (Kd.slice 5 (Kd.int .u8)) w A0_2 l0_2.length l0_2) (hc0_2 : l0_2.length ≤ c0_2) (h : laws_heldRecordsResult.f k a0_0 a0_1 l0_2 a1 = some r) :
  Calls Try.prog 40 #[.agg #[.int .i64 a0_0, .int .i64 a0_1, .slice A0_2 l0_2.length c0_2], .int .i64 a1] w fun e w' => e = .returned (.int .i64 r) ∧ Below w.heap.size w w' := by
 have hu43 := Try.underlying43
 have HR0_2 := Aside0.mk hr0_2
 have HC0_2 := Aside0.mk hc0_2
 clear hr0_2 hc0_2
 have HB := Aside0.mk (Below.refl w.heap.size w)
 have H : ((laws_heldByteSS.f k l0_2 a1).bind fun t185 => (if t185 < 0 then (some (-1)) else (some t185))) = some r := h
 clear h
 replace H := Option.bind_eq_some_iff.mp H
 obtain ⟨t185, A30, H⟩ := H
 replace H : (if t185 < 0 then (some (-1)) else (some t185)) = some r := H
 have A3 := Aside0.mk A30
 clear A30
 by_cases c4 : t185 < 0
 ·rw [if_pos c4] at H
  have c4b0 := decide_eq_true c4
  clear c4
  obtain rfl := Option.some.inj H
  go_enter Try.func40, Try.ntmps40
  go_wp2_with (first | ((with_reducible refine gate_dst (N := 2) rfl ?_); refine q_box (N := 2) (cs := #[.int .i64 a0_0, .int .i64 a0_1, .slice A0_2 l0_2.length c0_2]) (t := 43) ?_; intro gb184 hg w5 hbox hb; have n0_ := Aside0.mk (below_step bq hb); have n1_ := Aside0.mk (hbox); have n2_ := Aside0.mk ((q_g hg bq : w.heap.size ≤ gb184)); have n3_ := Aside0.mk ((q_g hg bq : w.heap.size ≤ gb184)); revert n0_ n1_ n2_ n3_; clear HB; intro HB BK184 GW184 GE184; clear hb hbox hg; obtain ⟨hcz6_0, hcz6_1, hcz6_2, hfz6_0, hfz6_1, hfz6_2⟩ := q_3 BK184.out) | ((with_reducible refine gate_callee (f := 67) rfl ?_); refine goesLq (some 8) rfl rfl Try.func67 (by kernel_rfl) rfl #[.slice A0_2 l0_2.length c0_2, .int .i64 a1] rfl ?_; (with_reducible refine (laws_heldByteSS.calls k _ _ l0_2 a1 t185 _ ?side1 ?side2 A3.out).mono ?_); (case side1 => exact q_c ((Kd.C_below HR0_2.out HB.out))); (case side2 => exact HC0_2.out); rintro e w' ⟨rfl, ⟨nd, rfl⟩⟩; refine ⟨_, rfl, ?_⟩))
  go_ret
  exact ⟨q_e, bq⟩
 ·rw [if_neg c4] at H
  have c4b0 := decide_eq_false c4
  clear c4
  obtain rfl := Option.some.inj H
  go_enter Try.func40, Try.ntmps40
  go_wp2_with (first | ((with_reducible refine gate_dst (N := 2) rfl ?_); refine q_box (N := 2) (cs := #[.int .i64 a0_0, .int .i64 a0_1, .slice A0_2 l0_2.length c0_2]) (t := 43) ?_; intro gb184 hg w7 hbox hb; have n0_ := Aside0.mk (below_step bq hb); have n1_ := Aside0.mk (hbox); have n2_ := Aside0.mk ((q_g hg bq : w.heap.size ≤ gb184)); have n3_ := Aside0.mk ((q_g hg bq : w.heap.size ≤ gb184)); revert n0_ n1_ n2_ n3_; clear HB; intro HB BK184 GW184 GE184; clear hb hbox hg; obtain ⟨hcz8_0, hcz8_1, hcz8_2, hfz8_0, hfz8_1, hfz8_2⟩ := q_3 BK184.out) | ((with_reducible refine gate_callee (f := 67) rfl ?_); refine goesLq (some 8) rfl rfl Try.func67 (by kernel_rfl) rfl #[.slice A0_2 l0_2.length c0_2, .int .i64 a1] rfl ?_; (with_reducible refine (laws_heldByteSS.calls k _ _ l0_2 a1 t185 _ ?side1 ?side2 A3.out).mono ?_); (case side1 => exact q_c ((Kd.C_below HR0_2.out HB.out))); (case side2 => exact HC0_2.out); rintro e w' ⟨rfl, ⟨nd, rfl⟩⟩; refine ⟨_, rfl, ?_⟩))
  go_ret
  exact ⟨q_e, bq⟩

/-! ### laws_FnExactUnframeAll: function 7 -/
theorem q_nR {α : Type} {d : Kd α} {e : Nat} {w wp wj : World} {ok : Nat → Prop} {v : Value} {r : List α} (hb : Below w.heap.size w wp) (ho : Kd.R d e wj wp.heap.size ok v r) : Kd.R d e wj w.heap.size (fun k_ => wp.heap.size ≤ k_ ∧ k_ < wj.heap.size) v r := Kd.R_lower (Kd.R_mono (Kd.R_bound ho) (fun _ h => ⟨h.2.1, h.2.2.1⟩)) (below_size hb)
theorem q_nS {α : Type} {d : Kd α} {e : Nat} {w wp wj : World} {ok : Nat → Prop} {v : Value} {r : List α} (hb : Below w.heap.size w wp) (ho : Kd.S d e wj wp.heap.size ok v r) : Kd.S d e wj w.heap.size (fun k_ => wp.heap.size ≤ k_ ∧ k_ < wj.heap.size) v r := Kd.S_lower (Kd.S_mono (Kd.S_bound ho) (fun _ h => ⟨h.2.1, h.2.2.1⟩)) (below_size hb)
theorem q_iv {a b c d : Nat} (h : b ≤ c) (k : Nat) (h1 : a ≤ k ∧ k < b) (h2 : c ≤ k ∧ k < d) : False := by omega
theorem q_vi {a b c d : Nat} (h : d ≤ a) (k : Nat) (h1 : a ≤ k ∧ k < b) (h2 : c ≤ k ∧ k < d) : False := by omega
theorem q_ig {a b g : Nat} (h : b ≤ g) (k : Nat) (h1 : a ≤ k ∧ k < b) (h2 : k = g) : False := by omega
theorem q_if {c : Prop} [Decidable c] {α : Type} {a : Option α} {r : α} (h : (if c then a else none) = some r) : c ∧ a = some r := by
  by_cases hc : c
  · rw [if_pos hc] at h; exact ⟨hc, h⟩
  · rw [if_neg hc] at h; cases h
theorem q_fi {c : Prop} [Decidable c] {α : Type} {a : Option α} {r : α} (h : (if c then none else a) = some r) : ¬ c ∧ a = some r := by
  by_cases hc : c
  · rw [if_pos hc] at h; cases h
  · rw [if_neg hc] at h; exact ⟨hc, h⟩
theorem q_lenR {α : Type} {d : Kd α} {e : Nat} {w : World} {b : Nat} {ok : Nat → Prop} {A : Option Addr} {n c : Nat} {xs : List α} (h : Kd.R d e w b ok (.slice A n c) xs) : d.C w A xs.length xs ∧ xs.length ≤ c ∧ n = xs.length := by have h_ := Kd.R_reads' h; exact ⟨h_.2.2, by rw [← h_.1]; exact h_.2.1, h_.1⟩
theorem q_lenS {α : Type} {d : Kd α} {e : Nat} {w : World} {b : Nat} {ok : Nat → Prop} {A : Option Addr} {n c : Nat} {xs : List α} (h : Kd.S d e w b ok (.slice A n c) xs) : d.C w A xs.length xs ∧ xs.length ≤ c ∧ n = xs.length := q_lenR (Kd.S_R h)
def laws_FnExactUnframeAll.f (k : Nat) (l0 : List Int) : Option (Bool) := (if (l0.length : Int) > 1048576 then (some true) else (laws_toByteS.f k l0).bind fun b1 => (spec_UnframeAll.f k b1).bind fun b2 => (laws_toByteS.f k l0).bind fun b5 => (impl_UnframeAll.f k b5).bind fun b6 => (laws_eqRecordsResult.f k b6.1 b6.2.1 b6.2.2 b2.1 b2.2.1 b2.2.2).bind fun b9 => (if b9 = true then (laws_toByteS.f k l0).bind fun b10 => (laws_eqByteS.f k b5 b10).bind fun b11 => (if b11 = true then (laws_markByteS.f k b5 1).bind fun b12 => (if b12.1 < 0 then none else (laws_eqRecordsResult.f k b6.1 b6.2.1 b6.2.2 b2.1 b2.2.1 b2.2.2).bind fun b13 => (if b13 = true then (laws_markRecordsResult.f k b6.1 b6.2.1 b6.2.2 1).bind fun b14 => (laws_heldRecordsResult.f k b6.1 b6.2.1 b14.2 1).bind fun b15 => (if b15 < 0 then none else (if b15 = b14.1 then (laws_toByteS.f k l0).bind fun b16 => (impl_UnframeAll.f k b16).bind fun b17 => (laws_eqRecordsResult.f k b17.1 b17.2.1 b17.2.2 b2.1 b2.2.1 b2.2.2).bind fun b20 => (if b20 = true then (laws_heldRecordsResult.f k b6.1 b6.2.1 b14.2 1).bind fun b21 => (if b21 < 0 then none else (if b21 = b14.1 then (some true) else none)) else none) else none)) else none)) else none) else none))
set_option maxHeartbeats 40000000 in
set_option maxRecDepth 100000 in
theorem laws_FnExactUnframeAll.calls (k : Nat) (A0 : Option Addr) (c0 : Nat) (l0 : List Int) (r : Bool) (w : World) (hr0 : Kd.C (Kd.int .u8) w A0 l0.length l0) (hc0 : l0.length ≤ c0) (h : laws_FnExactUnframeAll.f k l0 = some r) :
    Calls Try.prog 7 #[.slice A0 l0.length c0] w fun e w' => e = .returned (.bool r) ∧ Below w.heap.size w w' := by
  have HB := Aside0.mk (Below.refl w.heap.size w)
  have HR0 := Aside0.mk hr0
  have HC0 := Aside0.mk hc0
  clear hr0 hc0
  have hu43 := Try.underlying43
  unfold laws_FnExactUnframeAll.f at h
  by_cases c27 : (l0.length : Int) > 1048576
  · rw [if_pos c27] at h
    obtain rfl := Option.some.inj h
    have c27b := decide_eq_true (show 1048576 < (l0.length : Int) from c27)
    have c27n := decide_eq_true (show 1048576 < l0.length from by omega)
    clear c27 h
    go_enter Try.func7, Try.ntmps7
    go_wp2
    go_ret
    exact ⟨by first | rfl | (simp; done), HB.out⟩
  · rw [if_neg c27] at h
    have c27b := decide_eq_false (show ¬ (1048576 < (l0.length : Int)) from c27)
    have c27n := decide_eq_false (show ¬ (1048576 < l0.length) from by omega)
    clear c27
    obtain ⟨t1, A10, h⟩ := Option.bind_eq_some_iff.mp h
    have A1 := Aside0.mk (show laws_toByteS.f k l0 = some t1 from A10)
    clear A10
    obtain ⟨⟨t2, t3, t4⟩, A20, h⟩ := Option.bind_eq_some_iff.mp h
    have A2 := Aside0.mk (show spec_UnframeAll.f k t1 = some (t2, t3, t4) from A20)
    clear A20
    obtain ⟨t6, A50, h⟩ := Option.bind_eq_some_iff.mp h
    have A5 := Aside0.mk (show laws_toByteS.f k l0 = some t6 from A50)
    clear A50
    obtain ⟨⟨t7, t8, t9⟩, A60, h⟩ := Option.bind_eq_some_iff.mp h
    have A6 := Aside0.mk (show impl_UnframeAll.f k t6 = some (t7, t8, t9) from A60)
    clear A60
    obtain ⟨t11, A90, h⟩ := Option.bind_eq_some_iff.mp h
    have A9 := Aside0.mk (show laws_eqRecordsResult.f k t7 t8 t9 t2 t3 t4 = some t11 from A90)
    clear A90
    obtain ⟨c28, h⟩ := q_if h
    subst c28
    obtain ⟨t12, A100, h⟩ := Option.bind_eq_some_iff.mp h
    have A10 := Aside0.mk (show laws_toByteS.f k l0 = some t12 from A100)
    clear A100
    obtain ⟨t13, A110, h⟩ := Option.bind_eq_some_iff.mp h
    have A11 := Aside0.mk (show laws_eqByteS.f k t6 t12 = some t13 from A110)
    clear A110
    obtain ⟨c29, h⟩ := q_if h
    subst c29
    obtain ⟨⟨t14, t15⟩, A120, h⟩ := Option.bind_eq_some_iff.mp h
    have A12 := Aside0.mk (show laws_markByteS.f k t6 1 = some (t14, t15) from A120)
    clear A120
    obtain ⟨c30, h⟩ := q_fi h
    have c30b := decide_eq_false c30
    clear c30
    obtain ⟨t16, A130, h⟩ := Option.bind_eq_some_iff.mp h
    have A13 := Aside0.mk (show laws_eqRecordsResult.f k t7 t8 t9 t2 t3 t4 = some t16 from A130)
    clear A130
    obtain ⟨c31, h⟩ := q_if h
    subst c31
    obtain ⟨⟨t17, t18⟩, A140, h⟩ := Option.bind_eq_some_iff.mp h
    have A14 := Aside0.mk (show laws_markRecordsResult.f k t7 t8 t9 1 = some (t17, t18) from A140)
    clear A140
    obtain ⟨t19, A150, h⟩ := Option.bind_eq_some_iff.mp h
    have A15 := Aside0.mk (show laws_heldRecordsResult.f k t7 t8 t18 1 = some t19 from A150)
    clear A150
    obtain ⟨c32, h⟩ := q_fi h
    have c32b := decide_eq_false c32
    clear c32
    obtain ⟨c33, h⟩ := q_if h
    have c33b : (t19 == t17) = true := beq_iff_eq.mpr c33
    have c33n : (t19 != t17) = false := bne_eq_false_iff_eq.mpr c33
    clear c33
    obtain ⟨t20, A160, h⟩ := Option.bind_eq_some_iff.mp h
    have A16 := Aside0.mk (show laws_toByteS.f k l0 = some t20 from A160)
    clear A160
    obtain ⟨⟨t21, t22, t23⟩, A170, h⟩ := Option.bind_eq_some_iff.mp h
    have A17 := Aside0.mk (show impl_UnframeAll.f k t20 = some (t21, t22, t23) from A170)
    clear A170
    obtain ⟨t25, A200, h⟩ := Option.bind_eq_some_iff.mp h
    have A20 := Aside0.mk (show laws_eqRecordsResult.f k t21 t22 t23 t2 t3 t4 = some t25 from A200)
    clear A200
    obtain ⟨c34, h⟩ := q_if h
    subst c34
    obtain ⟨t26, A210, h⟩ := Option.bind_eq_some_iff.mp h
    have A21 := Aside0.mk (show laws_heldRecordsResult.f k t7 t8 t18 1 = some t26 from A210)
    clear A210
    obtain ⟨c35, h⟩ := q_fi h
    have c35b := decide_eq_false c35
    clear c35
    obtain ⟨c36, h⟩ := q_if h
    have c36b : (t26 == t17) = true := beq_iff_eq.mpr c36
    have c36n : (t26 != t17) = false := bne_eq_false_iff_eq.mpr c36
    clear c36
    obtain rfl : true = r := Option.some.inj h
    clear h
    go_enter Try.func7, Try.ntmps7
    go_wp2_with (first | ((with_reducible refine gate_dst (N := 14) rfl ?_); refine goesL_ (some 14) rfl rfl Try.func20 (by kernel_rfl) rfl #[.slice A0 l0.length c0] rfl (by (try simp only [List.map_toArray, List.map_cons, List.map_nil]); first | done | rfl) ?_; (with_reducible refine (laws_toByteS.calls k _ _ l0 t1 _ ?side1 ?side2 A1.out).mono ?_); (case side1 => exact Kd.C_below HR0.out HB.out); (case side2 => exact HC0.out); rintro e w1_ ⟨vO1, rfl, ho0, hb⟩; refine ⟨_, rfl, ?_⟩; have O1 := Aside0.mk (q_nR HB.out ho0); have UO1 := Aside0.mk (Nat.le_refl w1_.heap.size); replace HB := Aside0.mk (below_step HB.out hb); obtain ⟨A1_, c1_, eo_⟩ := Kd.R_slice O1.out; subst eo_; clear hb ho0) | ((with_reducible refine gate_dst (N := 15) rfl ?_); refine goesL_ (some 15) rfl rfl Try.func37 (by kernel_rfl) rfl #[.slice A1_ t1.length c1_] rfl (by (try simp only [List.map_toArray, List.map_cons, List.map_nil]); first | done | rfl) ?_; (with_reducible refine (spec_UnframeAll.calls k _ _ t1 t2 t3 t4 _ ?side1 ?side2 A2.out).mono ?_); (case side1 => exact (q_lenR O1.out).1); (case side2 => exact (q_lenR O1.out).2.1); rintro e w2_ ⟨vO4, rfl, ho0, hb⟩; refine ⟨_, rfl, ?_⟩; have O4 := Aside0.mk (q_nS HB.out ho0); have UO4 := Aside0.mk (Nat.le_refl w2_.heap.size); clear O1; replace HB := Aside0.mk (below_step HB.out hb); obtain ⟨A4_, c4_, eo_⟩ := Kd.S_slice O4.out; subst eo_; clear hb ho0) | ((with_reducible refine gate_dst (N := 3) rfl ?_); refine q_box (N := 3) (cs := #[.int .i64 0, .int .i64 0, .slice none 0 0]) (t := 43) ?_; intro g5 hg_ w3_ hbox hb; have GB5 := Aside0.mk (q_g hg_ HB.out); have DHB5_O4 := Aside0.mk (show _ ≤ g5 from by rw [hg_]; exact UO4.out); replace O4 := Aside0.mk (Kd.S_below O4.out hb); replace UO4 := Aside0.mk (Nat.le_trans UO4.out hb.size); replace HB := Aside0.mk (below_step HB.out hb); have B5 := Aside0.mk hbox; clear hb hbox hg_; obtain ⟨hcw3__0, hcw3__1, hcw3__2, hfw3__0, hfw3__1, hfw3__2⟩ := q_3 B5.out) | ((with_reducible refine gate_store (t := 43) (p := 3) rfl ?_); refine store_event (t := 43) (p := 3) (v := ?vo4) (w1 := (((w3_.setCell ⟨g5, 0, none⟩ (.int .i64 t2)).setCell ⟨g5, 1, none⟩ (.int .i64 t3)).setCell ⟨g5, 2, none⟩ (.slice A4_ t4.length c4_))) ?hg ?ho ?hn ?hr ?_; (case ho => rfl); (case hg => rfl); (case hn => rfl); (case hr => first | (go_simp; done) | (go_simp; rfl)); intro w4_ hw_; have hk_ : Kept w3_ w4_ (fun k_ => k_ = g5) := (by rw [hw_]; exact (Kept.setCell (Kept.setCell (Kept.setCell (Kept.refl w3_ (fun k_ => k_ = g5)) (.inl rfl) _) (.inl rfl) _) (.inl rfl) _)); replace B5 := Aside0.mk (show w4_.heap[g5]? = some (.cells #[.int .i64 t2, .int .i64 t3, .slice A4_ t4.length c4_] 43 (0, 0)) from by rw [hw_]; exact (blk_put (blk_put (blk_put B5.out 0 _ rfl) 1 _ rfl) 2 _ rfl)); replace O4 := Aside0.mk (Kd.S_kept O4.out hk_ (fun k_ h1_ h2_ => q_ig DHB5_O4.out k_ h1_ h2_)); replace UO4 := Aside0.mk (Nat.le_trans UO4.out hk_.1); replace HB := Aside0.mk (show Below w.heap.size w w4_ from by rw [hw_]; exact (below_set (below_set (below_set HB.out GB5.out) GB5.out) GB5.out)); clear hk_ hw_) | ((with_reducible refine gate_dst (N := 17) rfl ?_); refine goesL_ (some 17) rfl rfl Try.func20 (by kernel_rfl) rfl #[.slice A0 l0.length c0] rfl (by (try simp only [List.map_toArray, List.map_cons, List.map_nil]); first | done | rfl) ?_; (with_reducible refine (laws_toByteS.calls k _ _ l0 t6 _ ?side1 ?side2 A5.out).mono ?_); (case side1 => exact Kd.C_below HR0.out HB.out); (case side2 => exact HC0.out); rintro e w5_ ⟨vO6, rfl, ho0, hb⟩; refine ⟨_, rfl, ?_⟩; have O6 := Aside0.mk (q_nR HB.out ho0); have UO6 := Aside0.mk (Nat.le_refl w5_.heap.size); have DO4_O6 := Aside0.mk UO4.out; have DGB5_O6 := Aside0.mk (blk_lt B5.out); replace O4 := Aside0.mk (Kd.S_below O4.out hb); replace UO4 := Aside0.mk (Nat.le_trans UO4.out hb.size); replace B5 := Aside0.mk (blk_below B5.out hb); replace HB := Aside0.mk (below_step HB.out hb); obtain ⟨A6_, c6_, eo_⟩ := Kd.R_slice O6.out; subst eo_; clear hb ho0) | ((with_reducible refine gate_dst (N := 19) rfl ?_); refine goesL_ (some 19) rfl rfl Try.func30 (by kernel_rfl) rfl #[.slice A6_ t6.length c6_] rfl (by (try simp only [List.map_toArray, List.map_cons, List.map_nil]); first | done | rfl) ?_; (with_reducible refine (impl_UnframeAll.calls k _ _ t6 t7 t8 t9 _ ?side1 ?side2 A6.out).mono ?_); (case side1 => exact (q_lenR O6.out).1); (case side2 => exact (q_lenR O6.out).2.1); rintro e w6_ ⟨vO9, rfl, ho0, hb⟩; refine ⟨_, rfl, ?_⟩; have O9 := Aside0.mk (q_nS HB.out ho0); have UO9 := Aside0.mk (Nat.le_refl w6_.heap.size); have DO4_O9 := Aside0.mk UO4.out; have DO6_O9 := Aside0.mk UO6.out; have DGB5_O9 := Aside0.mk (blk_lt B5.out); replace O4 := Aside0.mk (Kd.S_below O4.out hb); replace UO4 := Aside0.mk (Nat.le_trans UO4.out hb.size); replace O6 := Aside0.mk (Kd.R_below O6.out hb); replace UO6 := Aside0.mk (Nat.le_trans UO6.out hb.size); replace B5 := Aside0.mk (blk_below B5.out hb); replace HB := Aside0.mk (below_step HB.out hb); obtain ⟨A9_, c9_, eo_⟩ := Kd.S_slice O9.out; subst eo_; clear hb ho0) | ((with_reducible refine gate_dst (N := 5) rfl ?_); refine q_box (N := 5) (cs := #[.int .i64 0, .int .i64 0, .slice none 0 0]) (t := 43) ?_; intro g10 hg_ w7_ hbox hb; have NEB5_B10 := Aside0.mk (show g5 ≠ g10 from by rw [hg_]; exact Nat.ne_of_lt (blk_lt B5.out)); have GB10 := Aside0.mk (q_g hg_ HB.out); have DHB10_O4 := Aside0.mk (show _ ≤ g10 from by rw [hg_]; exact UO4.out); have DHB10_O6 := Aside0.mk (show _ ≤ g10 from by rw [hg_]; exact UO6.out); have DHB10_O9 := Aside0.mk (show _ ≤ g10 from by rw [hg_]; exact UO9.out); replace O4 := Aside0.mk (Kd.S_below O4.out hb); replace UO4 := Aside0.mk (Nat.le_trans UO4.out hb.size); replace O6 := Aside0.mk (Kd.R_below O6.out hb); replace UO6 := Aside0.mk (Nat.le_trans UO6.out hb.size); replace O9 := Aside0.mk (Kd.S_below O9.out hb); replace UO9 := Aside0.mk (Nat.le_trans UO9.out hb.size); replace B5 := Aside0.mk (blk_below B5.out hb); replace HB := Aside0.mk (below_step HB.out hb); have B10 := Aside0.mk hbox; clear hb hbox hg_; obtain ⟨hcw7__0, hcw7__1, hcw7__2, hfw7__0, hfw7__1, hfw7__2⟩ := q_3 B10.out) | ((with_reducible refine gate_store (t := 43) (p := 5) rfl ?_); refine store_event (t := 43) (p := 5) (v := ?vo8) (w1 := (((w7_.setCell ⟨g10, 0, none⟩ (.int .i64 t7)).setCell ⟨g10, 1, none⟩ (.int .i64 t8)).setCell ⟨g10, 2, none⟩ (.slice A9_ t9.length c9_))) ?hg ?ho ?hn ?hr ?_; (case ho => rfl); (case hg => rfl); (case hn => rfl); (case hr => first | (go_simp; done) | (go_simp; rfl)); intro w8_ hw_; have hk_ : Kept w7_ w8_ (fun k_ => k_ = g10) := (by rw [hw_]; exact (Kept.setCell (Kept.setCell (Kept.setCell (Kept.refl w7_ (fun k_ => k_ = g10)) (.inl rfl) _) (.inl rfl) _) (.inl rfl) _)); replace B10 := Aside0.mk (show w8_.heap[g10]? = some (.cells #[.int .i64 t7, .int .i64 t8, .slice A9_ t9.length c9_] 43 (0, 0)) from by rw [hw_]; exact (blk_put (blk_put (blk_put B10.out 0 _ rfl) 1 _ rfl) 2 _ rfl)); replace O4 := Aside0.mk (Kd.S_kept O4.out hk_ (fun k_ h1_ h2_ => q_ig DHB10_O4.out k_ h1_ h2_)); replace UO4 := Aside0.mk (Nat.le_trans UO4.out hk_.1); replace O6 := Aside0.mk (Kd.R_kept O6.out hk_ (fun k_ h1_ h2_ => q_ig DHB10_O6.out k_ h1_ h2_)); replace UO6 := Aside0.mk (Nat.le_trans UO6.out hk_.1); replace O9 := Aside0.mk (Kd.S_kept O9.out hk_ (fun k_ h1_ h2_ => q_ig DHB10_O9.out k_ h1_ h2_)); replace UO9 := Aside0.mk (Nat.le_trans UO9.out hk_.1); replace B5 := Aside0.mk (blk_kept B5.out hk_ (by intro h_; exact absurd h_ NEB5_B10.out)); replace HB := Aside0.mk (show Below w.heap.size w w8_ from by rw [hw_]; exact (below_set (below_set (below_set HB.out GB10.out) GB10.out) GB10.out)); clear hk_ hw_; obtain ⟨hcw8_B5_0, hcw8_B5_1, hcw8_B5_2, hfw8_B5_0, hfw8_B5_1, hfw8_B5_2⟩ := q_3 B5.out; obtain ⟨hcw8_B10_0, hcw8_B10_1, hcw8_B10_2, hfw8_B10_0, hfw8_B10_1, hfw8_B10_2⟩ := q_3 B10.out) | ((with_reducible refine gate_dst (N := 22) rfl ?_); refine goesL_ (some 22) rfl rfl Try.func38 (by kernel_rfl) rfl #[.agg #[.int .i64 t7, .int .i64 t8, .slice A9_ t9.length c9_], .agg #[.int .i64 t2, .int .i64 t3, .slice A4_ t4.length c4_]] rfl (by (try simp only [List.map_toArray, List.map_cons, List.map_nil]); first | done | rfl) ?_; (with_reducible refine (laws_eqRecordsResult.calls k t7 t8 _ _ t9 t2 t3 _ _ t4 true _ ?side1 ?side2 ?side3 ?side4 A9.out).mono ?_); (case side1 => exact (q_lenS O9.out).1); (case side2 => exact (q_lenS O9.out).2.1); (case side3 => exact (q_lenS O4.out).1); (case side4 => exact (q_lenS O4.out).2.1); rintro e w9_ ⟨rfl, hb⟩; refine ⟨_, rfl, ?_⟩; replace O4 := Aside0.mk (Kd.S_below O4.out hb); replace UO4 := Aside0.mk (Nat.le_trans UO4.out hb.size); replace O6 := Aside0.mk (Kd.R_below O6.out hb); replace UO6 := Aside0.mk (Nat.le_trans UO6.out hb.size); replace O9 := Aside0.mk (Kd.S_below O9.out hb); replace UO9 := Aside0.mk (Nat.le_trans UO9.out hb.size); replace B5 := Aside0.mk (blk_below B5.out hb); replace B10 := Aside0.mk (blk_below B10.out hb); replace HB := Aside0.mk (below_step HB.out hb); clear hb) | ((with_reducible refine gate_dst (N := 26) rfl ?_); refine goesL_ (some 26) rfl rfl Try.func20 (by kernel_rfl) rfl #[.slice A0 l0.length c0] rfl (by (try simp only [List.map_toArray, List.map_cons, List.map_nil]); first | done | rfl) ?_; (with_reducible refine (laws_toByteS.calls k _ _ l0 t12 _ ?side1 ?side2 A10.out).mono ?_); (case side1 => exact Kd.C_below HR0.out HB.out); (case side2 => exact HC0.out); rintro e w10_ ⟨vO12, rfl, ho0, hb⟩; refine ⟨_, rfl, ?_⟩; have O12 := Aside0.mk (q_nR HB.out ho0); have UO12 := Aside0.mk (Nat.le_refl w10_.heap.size); have DO6_O12 := Aside0.mk UO6.out; have DO9_O12 := Aside0.mk UO9.out; replace O4 := Aside0.mk (Kd.S_below O4.out hb); replace UO4 := Aside0.mk (Nat.le_trans UO4.out hb.size); replace O6 := Aside0.mk (Kd.R_below O6.out hb); replace UO6 := Aside0.mk (Nat.le_trans UO6.out hb.size); replace O9 := Aside0.mk (Kd.S_below O9.out hb); replace UO9 := Aside0.mk (Nat.le_trans UO9.out hb.size); replace B5 := Aside0.mk (blk_below B5.out hb); replace B10 := Aside0.mk (blk_below B10.out hb); replace HB := Aside0.mk (below_step HB.out hb); obtain ⟨A12_, c12_, eo_⟩ := Kd.R_slice O12.out; subst eo_; clear hb ho0) | ((with_reducible refine gate_dst (N := 27) rfl ?_); refine goesL_ (some 27) rfl rfl Try.func23 (by kernel_rfl) rfl #[.slice A6_ t6.length c6_, .slice A12_ t12.length c12_] rfl (by (try simp only [List.map_toArray, List.map_cons, List.map_nil]); first | done | rfl) ?_; (with_reducible refine (laws_eqByteS.calls k _ _ t6 _ _ t12 true _ ?side1 ?side2 ?side3 ?side4 A11.out).mono ?_); (case side1 => exact (q_lenR O6.out).1); (case side2 => exact (q_lenR O6.out).2.1); (case side3 => exact (q_lenR O12.out).1); (case side4 => exact (q_lenR O12.out).2.1); rintro e w11_ ⟨rfl, hd_⟩; refine ⟨_, rfl, ?_⟩; have hb := hd_.below; replace O4 := Aside0.mk (Kd.S_below O4.out hb); replace UO4 := Aside0.mk (Nat.le_trans UO4.out hb.size); replace O6 := Aside0.mk (Kd.R_below O6.out hb); replace UO6 := Aside0.mk (Nat.le_trans UO6.out hb.size); replace O9 := Aside0.mk (Kd.S_below O9.out hb); replace UO9 := Aside0.mk (Nat.le_trans UO9.out hb.size); clear O12; replace B5 := Aside0.mk (blk_below B5.out hb); replace B10 := Aside0.mk (blk_below B10.out hb); replace HB := Aside0.mk (below_step HB.out hb); clear hb hd_) | ((with_reducible refine gate_dst (N := 31) rfl ?_); refine goesL_ (some 31) rfl rfl Try.func24 (by kernel_rfl) rfl #[.slice A6_ t6.length c6_, .int .i64 1] rfl (by (try simp only [List.map_toArray, List.map_cons, List.map_nil]); first | done | rfl) ?_; (with_reducible refine (laws_markByteS.calls k (fun k_ => w4_.heap.size ≤ k_ ∧ k_ < w5_.heap.size) _ t6 1 t14 t15 w _ ?side1 ?side2 A12.out).mono ?_); (case side1 => exact HB.out); (case side2 => exact O6.out); rintro e w12_ ⟨rfl, hy0, hb, hkp⟩; refine ⟨_, rfl, ?_⟩; have hk_ := hkp; replace O4 := Aside0.mk (Kd.S_kept O4.out hk_ (fun k_ h1_ h2_ => q_iv DO4_O6.out k_ h1_ h2_)); replace UO4 := Aside0.mk (Nat.le_trans UO4.out hk_.1); replace O9 := Aside0.mk (Kd.S_kept O9.out hk_ (fun k_ h1_ h2_ => q_vi DO6_O9.out k_ h1_ h2_)); replace UO9 := Aside0.mk (Nat.le_trans UO9.out hk_.1); replace B5 := Aside0.mk (blk_kept B5.out hk_ (fun h_ => Nat.not_le_of_lt DGB5_O6.out h_.1)); replace B10 := Aside0.mk (blk_kept B10.out hk_ (fun h_ => Nat.not_lt_of_le DHB10_O6.out h_.2)); clear O6; replace HB := Aside0.mk hb; clear hb hkp hk_ hy0; obtain ⟨hcw12_B5_0, hcw12_B5_1, hcw12_B5_2, hfw12_B5_0, hfw12_B5_1, hfw12_B5_2⟩ := q_3 B5.out; obtain ⟨hcw12_B10_0, hcw12_B10_1, hcw12_B10_2, hfw12_B10_0, hfw12_B10_1, hfw12_B10_2⟩ := q_3 B10.out) | ((with_reducible refine gate_dst (N := 42) rfl ?_); refine goesL_ (some 42) rfl rfl Try.func39 (by kernel_rfl) rfl #[.agg #[.int .i64 t7, .int .i64 t8, .slice A9_ t9.length c9_], .int .i64 1] rfl (by (try simp only [List.map_toArray, List.map_cons, List.map_nil]); first | done | rfl) ?_; (with_reducible refine (laws_markRecordsResult.calls k t7 t8 (fun k_ => w5_.heap.size ≤ k_ ∧ k_ < w6_.heap.size) _ t9 1 t17 t18 w _ ?side1 ?side2 A14.out).mono ?_); (case side1 => exact HB.out); (case side2 => exact O9.out); rintro e w14_ ⟨rfl, hy0, hb, hkp⟩; refine ⟨_, rfl, ?_⟩; have hk_ := hkp; replace O4 := Aside0.mk (Kd.S_kept O4.out hk_ (fun k_ h1_ h2_ => q_iv DO4_O9.out k_ h1_ h2_)); replace UO4 := Aside0.mk (Nat.le_trans UO4.out hk_.1); replace B5 := Aside0.mk (blk_kept B5.out hk_ (fun h_ => Nat.not_le_of_lt DGB5_O9.out h_.1)); replace B10 := Aside0.mk (blk_kept B10.out hk_ (fun h_ => Nat.not_lt_of_le DHB10_O9.out h_.2)); replace O9 := Aside0.mk hy0; replace UO9 := Aside0.mk (Nat.le_trans UO9.out hk_.1); replace HB := Aside0.mk hb; clear hb hkp hk_ hy0; obtain ⟨hcw14_B10_0, hcw14_B10_1, hcw14_B10_2, hfw14_B10_0, hfw14_B10_1, hfw14_B10_2⟩ := q_3 B10.out) | ((with_reducible refine gate_dst (N := 45) rfl ?_); refine goesL_ (some 45) rfl rfl Try.func40 (by kernel_rfl) rfl #[.agg #[.int .i64 t7, .int .i64 t8, .slice A9_ t9.length c9_], .int .i64 1] rfl (by (try simp only [List.map_toArray, List.map_cons, List.map_nil]); first | done | rfl) ?_; refine calls_of_args (args' := #[.agg #[.int .i64 t7, .int .i64 t8, .slice A9_ t18.length c9_], .int .i64 1]) (by rw [(q_lenS O9.out).2.2]) ?_; (with_reducible refine (laws_heldRecordsResult.calls k t7 t8 _ _ t18 1 t19 _ ?side1 ?side2 A15.out).mono ?_); (case side1 => exact (q_lenS O9.out).1); (case side2 => exact (q_lenS O9.out).2.1); rintro e w15_ ⟨rfl, hb⟩; refine ⟨_, rfl, ?_⟩; replace O4 := Aside0.mk (Kd.S_below O4.out hb); replace UO4 := Aside0.mk (Nat.le_trans UO4.out hb.size); replace O9 := Aside0.mk (Kd.S_below O9.out hb); replace UO9 := Aside0.mk (Nat.le_trans UO9.out hb.size); replace B5 := Aside0.mk (blk_below B5.out hb); replace B10 := Aside0.mk (blk_below B10.out hb); replace HB := Aside0.mk (below_step HB.out hb); clear hb) | ((with_reducible refine gate_dst (N := 52) rfl ?_); refine goesL_ (some 52) rfl rfl Try.func20 (by kernel_rfl) rfl #[.slice A0 l0.length c0] rfl (by (try simp only [List.map_toArray, List.map_cons, List.map_nil]); first | done | rfl) ?_; (with_reducible refine (laws_toByteS.calls k _ _ l0 t20 _ ?side1 ?side2 A16.out).mono ?_); (case side1 => exact Kd.C_below HR0.out HB.out); (case side2 => exact HC0.out); rintro e w16_ ⟨vO20, rfl, ho0, hb⟩; refine ⟨_, rfl, ?_⟩; have O20 := Aside0.mk (q_nR HB.out ho0); have UO20 := Aside0.mk (Nat.le_refl w16_.heap.size); have DO9_O20 := Aside0.mk UO9.out; replace O4 := Aside0.mk (Kd.S_below O4.out hb); replace UO4 := Aside0.mk (Nat.le_trans UO4.out hb.size); replace O9 := Aside0.mk (Kd.S_below O9.out hb); replace UO9 := Aside0.mk (Nat.le_trans UO9.out hb.size); replace B5 := Aside0.mk (blk_below B5.out hb); replace B10 := Aside0.mk (blk_below B10.out hb); replace HB := Aside0.mk (below_step HB.out hb); obtain ⟨A20_, c20_, eo_⟩ := Kd.R_slice O20.out; subst eo_; clear hb ho0) | ((with_reducible refine gate_dst (N := 53) rfl ?_); refine goesL_ (some 53) rfl rfl Try.func30 (by kernel_rfl) rfl #[.slice A20_ t20.length c20_] rfl (by (try simp only [List.map_toArray, List.map_cons, List.map_nil]); first | done | rfl) ?_; (with_reducible refine (impl_UnframeAll.calls k _ _ t20 t21 t22 t23 _ ?side1 ?side2 A17.out).mono ?_); (case side1 => exact (q_lenR O20.out).1); (case side2 => exact (q_lenR O20.out).2.1); rintro e w17_ ⟨vO23, rfl, ho0, hb⟩; refine ⟨_, rfl, ?_⟩; have O23 := Aside0.mk (q_nS HB.out ho0); have UO23 := Aside0.mk (Nat.le_refl w17_.heap.size); have DO9_O23 := Aside0.mk UO9.out; replace O4 := Aside0.mk (Kd.S_below O4.out hb); replace UO4 := Aside0.mk (Nat.le_trans UO4.out hb.size); replace O9 := Aside0.mk (Kd.S_below O9.out hb); replace UO9 := Aside0.mk (Nat.le_trans UO9.out hb.size); clear O20; replace B5 := Aside0.mk (blk_below B5.out hb); replace B10 := Aside0.mk (blk_below B10.out hb); replace HB := Aside0.mk (below_step HB.out hb); obtain ⟨A23_, c23_, eo_⟩ := Kd.S_slice O23.out; subst eo_; clear hb ho0) | ((with_reducible refine gate_dst (N := 9) rfl ?_); refine q_box (N := 9) (cs := #[.int .i64 0, .int .i64 0, .slice none 0 0]) (t := 43) ?_; intro g24 hg_ w18_ hbox hb; have NEB5_B24 := Aside0.mk (show g5 ≠ g24 from by rw [hg_]; exact Nat.ne_of_lt (blk_lt B5.out)); have NEB10_B24 := Aside0.mk (show g10 ≠ g24 from by rw [hg_]; exact Nat.ne_of_lt (blk_lt B10.out)); have GB24 := Aside0.mk (q_g hg_ HB.out); have DHB24_O4 := Aside0.mk (show _ ≤ g24 from by rw [hg_]; exact UO4.out); have DHB24_O9 := Aside0.mk (show _ ≤ g24 from by rw [hg_]; exact UO9.out); have DHB24_O23 := Aside0.mk (show _ ≤ g24 from by rw [hg_]; exact UO23.out); replace O4 := Aside0.mk (Kd.S_below O4.out hb); replace UO4 := Aside0.mk (Nat.le_trans UO4.out hb.size); replace O9 := Aside0.mk (Kd.S_below O9.out hb); replace UO9 := Aside0.mk (Nat.le_trans UO9.out hb.size); replace O23 := Aside0.mk (Kd.S_below O23.out hb); replace UO23 := Aside0.mk (Nat.le_trans UO23.out hb.size); replace B5 := Aside0.mk (blk_below B5.out hb); replace B10 := Aside0.mk (blk_below B10.out hb); replace HB := Aside0.mk (below_step HB.out hb); have B24 := Aside0.mk hbox; clear hb hbox hg_; obtain ⟨hcw18__0, hcw18__1, hcw18__2, hfw18__0, hfw18__1, hfw18__2⟩ := q_3 B24.out) | ((with_reducible refine gate_store (t := 43) (p := 9) rfl ?_); refine store_event (t := 43) (p := 9) (v := ?vo19) (w1 := (((w18_.setCell ⟨g24, 0, none⟩ (.int .i64 t21)).setCell ⟨g24, 1, none⟩ (.int .i64 t22)).setCell ⟨g24, 2, none⟩ (.slice A23_ t23.length c23_))) ?hg ?ho ?hn ?hr ?_; (case ho => rfl); (case hg => rfl); (case hn => rfl); (case hr => first | (go_simp; done) | (go_simp; rfl)); intro w19_ hw_; have hk_ : Kept w18_ w19_ (fun k_ => k_ = g24) := (by rw [hw_]; exact (Kept.setCell (Kept.setCell (Kept.setCell (Kept.refl w18_ (fun k_ => k_ = g24)) (.inl rfl) _) (.inl rfl) _) (.inl rfl) _)); replace B24 := Aside0.mk (show w19_.heap[g24]? = some (.cells #[.int .i64 t21, .int .i64 t22, .slice A23_ t23.length c23_] 43 (0, 0)) from by rw [hw_]; exact (blk_put (blk_put (blk_put B24.out 0 _ rfl) 1 _ rfl) 2 _ rfl)); replace O4 := Aside0.mk (Kd.S_kept O4.out hk_ (fun k_ h1_ h2_ => q_ig DHB24_O4.out k_ h1_ h2_)); replace UO4 := Aside0.mk (Nat.le_trans UO4.out hk_.1); replace O9 := Aside0.mk (Kd.S_kept O9.out hk_ (fun k_ h1_ h2_ => q_ig DHB24_O9.out k_ h1_ h2_)); replace UO9 := Aside0.mk (Nat.le_trans UO9.out hk_.1); replace O23 := Aside0.mk (Kd.S_kept O23.out hk_ (fun k_ h1_ h2_ => q_ig DHB24_O23.out k_ h1_ h2_)); replace UO23 := Aside0.mk (Nat.le_trans UO23.out hk_.1); replace B5 := Aside0.mk (blk_kept B5.out hk_ (by intro h_; exact absurd h_ NEB5_B24.out)); replace B10 := Aside0.mk (blk_kept B10.out hk_ (by intro h_; exact absurd h_ NEB10_B24.out)); replace HB := Aside0.mk (show Below w.heap.size w w19_ from by rw [hw_]; exact (below_set (below_set (below_set HB.out GB24.out) GB24.out) GB24.out)); clear hk_ hw_; obtain ⟨hcw19_B5_0, hcw19_B5_1, hcw19_B5_2, hfw19_B5_0, hfw19_B5_1, hfw19_B5_2⟩ := q_3 B5.out; obtain ⟨hcw19_B24_0, hcw19_B24_1, hcw19_B24_2, hfw19_B24_0, hfw19_B24_1, hfw19_B24_2⟩ := q_3 B24.out) | ((with_reducible refine gate_dst (N := 56) rfl ?_); refine goesL_ (some 56) rfl rfl Try.func38 (by kernel_rfl) rfl #[.agg #[.int .i64 t21, .int .i64 t22, .slice A23_ t23.length c23_], .agg #[.int .i64 t2, .int .i64 t3, .slice A4_ t4.length c4_]] rfl (by (try simp only [List.map_toArray, List.map_cons, List.map_nil]); first | done | rfl) ?_; (with_reducible refine (laws_eqRecordsResult.calls k t21 t22 _ _ t23 t2 t3 _ _ t4 true _ ?side1 ?side2 ?side3 ?side4 A20.out).mono ?_); (case side1 => exact (q_lenS O23.out).1); (case side2 => exact (q_lenS O23.out).2.1); (case side3 => exact (q_lenS O4.out).1); (case side4 => exact (q_lenS O4.out).2.1); rintro e w20_ ⟨rfl, hb⟩; refine ⟨_, rfl, ?_⟩; clear O4; replace O9 := Aside0.mk (Kd.S_below O9.out hb); replace UO9 := Aside0.mk (Nat.le_trans UO9.out hb.size); clear O23; clear B5; replace B10 := Aside0.mk (blk_below B10.out hb); clear B24; replace HB := Aside0.mk (below_step HB.out hb); clear hb; obtain ⟨hcw20_B10_0, hcw20_B10_1, hcw20_B10_2, hfw20_B10_0, hfw20_B10_1, hfw20_B10_2⟩ := q_3 B10.out) | ((with_reducible refine gate_dst (N := 60) rfl ?_); refine goesL_ (some 60) rfl rfl Try.func40 (by kernel_rfl) rfl #[.agg #[.int .i64 t7, .int .i64 t8, .slice A9_ t9.length c9_], .int .i64 1] rfl (by (try simp only [List.map_toArray, List.map_cons, List.map_nil]); first | done | rfl) ?_; refine calls_of_args (args' := #[.agg #[.int .i64 t7, .int .i64 t8, .slice A9_ t18.length c9_], .int .i64 1]) (by rw [(q_lenS O9.out).2.2]) ?_; (with_reducible refine (laws_heldRecordsResult.calls k t7 t8 _ _ t18 1 t26 _ ?side1 ?side2 A21.out).mono ?_); (case side1 => exact (q_lenS O9.out).1); (case side2 => exact (q_lenS O9.out).2.1); rintro e w21_ ⟨rfl, hb⟩; refine ⟨_, rfl, ?_⟩; clear O9; clear B10; replace HB := Aside0.mk (below_step HB.out hb); clear hb) | (go_at_call 38; (with_reducible refine (laws_eqRecordsResult.calls k t7 t8 _ _ t9 t2 t3 _ _ t4 true _ ?side1 ?side2 ?side3 ?side4 A13.out).mono ?_); (case side1 => exact (q_lenS O9.out).1); (case side2 => exact (q_lenS O9.out).2.1); (case side3 => exact (q_lenS O4.out).1); (case side4 => exact (q_lenS O4.out).2.1); rintro e w13_ ⟨rfl, hb⟩; replace O4 := Aside0.mk (Kd.S_below O4.out hb); replace UO4 := Aside0.mk (Nat.le_trans UO4.out hb.size); replace O9 := Aside0.mk (Kd.S_below O9.out hb); replace UO9 := Aside0.mk (Nat.le_trans UO9.out hb.size); replace B5 := Aside0.mk (blk_below B5.out hb); replace B10 := Aside0.mk (blk_below B10.out hb); replace HB := Aside0.mk (below_step HB.out hb); clear hb; obtain ⟨hcw13_B10_0, hcw13_B10_1, hcw13_B10_2, hfw13_B10_0, hfw13_B10_1, hfw13_B10_2⟩ := q_3 B10.out))
    go_ret
    exact ⟨by first | rfl | (simp; done), HB.out⟩

end Go.Proofs.Ytcdpiejcdeedoaa.PFnExactUnframeAll
