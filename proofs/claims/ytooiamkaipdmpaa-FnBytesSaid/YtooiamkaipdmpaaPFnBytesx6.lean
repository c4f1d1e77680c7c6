/- The functions that a law reaches, each as a plain Lean function with the proof that the machine comes to its answer: written by program (the kit's print, turned by wip/gen). No conditions. -/
import Derived.Test.YtooiamkaipdmpaaPFnBytesx0
import Derived.Test.YtooiamkaipdmpaaPFnBytesx3
import Derived.Test.YtooiamkaipdmpaaPFnBytesx5
namespace Go.Proofs.Ytooiamkaipdmpaa.PFnBytes
open Go.RowKit Go.Proofs.YtooiamkaipdmpaaW.PrintWords Go.Proofs.YtooiamkaipdmpaaW.PrintLast Go.Proofs.YtooiamkaipdmpaaW.PrintMore
attribute [local go_sem] max2_int min2_int max_two min_two max_three min_three max_four min_four   -- for this text's walks alone
set_option linter.unusedVariables false
set_option linter.unusedSimpArgs false

/-! ### spec_l3Uncontract: function 93 -/
mutual
def spec_l3Uncontract.j0 : Nat → List Int → Bool → Int → Option (Int × (List (S89)) × Bool)
  | 0, _, _, _ => none
  | k + 1, x0, x21, x182000 => if x21 = true then (some (x182000, ([] : List (S89)), false)) else (if 8 ≤ (x0.length : Int) then ((spec_l3Number.f k (x0.take 8)).bind fun t183 => (spec_l3Uncontract.l0 k x0 8 t183 ([] : List (S89)))) else (none))
def spec_l3Uncontract.l0 : Nat → List Int → Int → Int → List (S89) → Option (Int × (List (S89)) × Bool)
  | 0, _, _, _, _ => none
  | k + 1, x0, x5, x182000, x182001 => if x5 < (x0.length : Int) then (if 0 ≤ x5 then (if 0 ≤ (wrap64 (x5 + 1)) then (if (wrap64 (x5 + 1)) < (x0.length : Int) then (if 0 ≤ (wrap64 (x5 + 2)) then (if (wrap64 (x5 + 2)) < (x0.length : Int) then (if 0 ≤ (wrap64 (x5 + 3)) then (if (wrap64 (x5 + 3)) ≤ (wrap64 (x5 + 11)) then (if (wrap64 (x5 + 11)) ≤ (x0.length : Int) then ((spec_l3Number.f k ((x0.take ((wrap64 (x5 + 11)) : Int).toNat).drop ((wrap64 (x5 + 3)) : Int).toNat)).bind fun t188 => (if x182001.length < 4398046511104 then (spec_l3Uncontract.l0 k x0 (wrap64 (x5 + 11)) x182000 (x182001 ++ [(⟨wrap64 (rd x0 x5), wrap64 (rd x0 (wrap64 (x5 + 1))), wrap64 (rd x0 (wrap64 (x5 + 2))), t188⟩ : S89)])) else (none))) else (none)) else (none)) else (none)) else (none)) else (none)) else (none)) else (none)) else (none)) else ((spec_ContractFault.f k x182000 x182001).bind fun t192 => (some (x182000, x182001, (t192 == 0))))
end
def spec_l3Uncontract.f (k : Nat) (l0 : List Int) : Option (Int × (List (S89)) × Bool) := if (l0.length : Int) < 8 then (spec_l3Uncontract.j0 k l0 true 0) else (if (Int.tmod (wrap64 ((l0.length : Int) - 8)) 11) = 0 then (spec_l3Uncontract.j0 k l0 (decide ((l0.length : Int) > 96)) 0) else (spec_l3Uncontract.j0 k l0 true 0))
def spec_l3Uncontract.T8 : Bool × List (List Nat × List Nat) := (true, [([], []), ([0], [0]), ([], []), ([], []), ([2, 3], [2, 3]), ([4], [4]), ([5], [5]), ([], []), ([], []), ([8], [8]), ([7, 9], [7, 9]), ([10], [10]), ([11], [11]), ([], []), ([], []), ([14], [14]), ([13, 15], [13, 15]), ([16], [16]), ([17], [17]), ([], []), ([], []), ([20], [20]), ([], []), ([22], [22]), ([19, 21, 23], [19, 21, 23]), ([24], [24]), ([6, 12, 18, 25], [6, 12, 18, 25]), ([26], [26]), ([1, 27, 25], [1, 27]), ([0, 1, 2, 3, 4, 5, 6, 7, 8, 9, 10, 11, 12, 13, 14, 15, 16, 17, 18, 19, 20, 21, 22, 23, 24, 25, 26, 27, 28], []), ([29, 28, 28, 0, 1, 2, 3, 4, 5, 6, 7, 8, 9, 10, 11, 12, 13, 14, 15, 16, 17, 18, 19, 20, 21, 22, 23, 24, 25, 26, 27, 28], [28, 29])])
def spec_l3Uncontract.B8 : List Nat := [0, 1, 0, 0, 12, 28, 60, 0, 0, 256, 896, 1920, 3968, 0, 0, 16384, 57344, 122880, 253952, 0, 0, 1048576, 0, 4194304, 16252928, 33030144, 67108860, 134217724, 268435455, 536870911, 1073741823]
theorem spec_l3Uncontract.tab8 : rtab .any (opsOf Try.f93 8) = spec_l3Uncontract.T8 := by kernel_rfl
theorem spec_l3Uncontract.bits8 : waitsOk spec_l3Uncontract.T8.2 spec_l3Uncontract.B8 = true := by kernel_rfl
set_option maxHeartbeats 8000000 in
set_option maxRecDepth 100000 in
theorem spec_l3Uncontract.calls (k : Nat) (A0 : Option Addr) (c0 : Nat) (l0 : List Int) (r1 : Int) (r2 : List (S89)) (r3 : Bool) (w : World) (hr0 : Kd.C (Kd.int .u8) w A0 l0.length l0) (hc0 : l0.length ≤ c0) (h : spec_l3Uncontract.f k l0 = some (r1, r2, r3)) :
  Calls Try.prog 93 #[.slice A0 l0.length c0] w fun e w' => ∃ v1_ : Value, e = .returned (.tuple #[.agg #[.int .i64 r1, v1_], .bool r3]) ∧ Kd.R k89 89 w' w.heap.size (fun _ => True) v1_ r2 ∧ Below w.heap.size w w' := by
 have hu36 := Try.underlying36
 have hu89 := Try.underlying89
 have HR0 := Aside0.mk hr0
 have HC0 := Aside0.mk hc0
 clear hr0 hc0
 have HB := Aside0.mk (Below.refl w.heap.size w)
 have H : (if (l0.length : Int) < 8 then (spec_l3Uncontract.j0 k l0 true 0) else (if (Int.tmod (wrap64 ((l0.length : Int) - 8)) 11) = 0 then (spec_l3Uncontract.j0 k l0 (decide ((l0.length : Int) > 96)) 0) else (spec_l3Uncontract.j0 k l0 true 0))) = some (r1, r2, r3) := h
 clear h
 have HC2 := Aside0.mk H
 clear H
 go_enter Try.func93, Try.ntmps93
 go_upto_region 2 with (first | ((with_reducible refine gate_dst (N := 2) rfl ?_); (try (refine gate_guard (by rfl) ?_; dsimp only)); refine q_box (N := 2) (cs := #[.int .i64 0, .slice none 0 0]) (t := 36) ?_; intro gb180 hg w3 hbox hb; have n0_ := Aside0.mk (below_step bq hb); have n1_ := Aside0.mk (hbox); have n2_ := Aside0.mk ((q_g hg bq : w.heap.size ≤ gb180)); have n3_ := Aside0.mk ((q_g hg bq : w.heap.size ≤ gb180)); revert n0_ n1_ n2_ n3_; clear HB; intro HB BK180 GW180 GE180; clear hb hbox hg) | ((with_reducible refine gate_dst (N := 4) rfl ?_); (try (refine gate_guard (by rfl) ?_; dsimp only)); refine q_box (N := 4) (cs := #[.int .i64 0, .slice none 0 0]) (t := 36) ?_; intro gb181 hg w4 hbox hb; have n0_ := Aside0.mk (blk_below (q_b BK180.out) hb); have n1_ := Aside0.mk (below_step bq hb); have n2_ := Aside0.mk (hbox); have n3_ := Aside0.mk ((q_g hg bq : w.heap.size ≤ gb181)); have n4_ := Aside0.mk ((q_g hg bq : w.heap.size ≤ gb181)); have n5_ := Aside0.mk ((q_n hg (q_b BK180.out) : gb180 ≠ gb181)); have n6_ := Aside0.mk ((q_m hg (q_b BK180.out) : gb181 ≠ gb180)); revert n0_ n1_ n2_ n3_ n4_ n5_ n6_; clear BK180 HB; intro BK180 HB BK181 GW181 GE181 NB180_181 NB181_180; clear hb hbox hg; have hnb5 := NB181_180.out; have hnc5 := NB180_181.out; obtain ⟨hcz6_0, hcz6_1, hfz6_0, hfz6_1⟩ := q_2 BK181.out))
 (try simp only [Act.put, List.setIfInBounds_toArray, List.set_cons_zero, List.set_cons_succ])
 go_cut [21] (fun v21 wc => ∃ (kq : Nat) (x21_1 : Bool), v21 = .bool x21_1 ∧ Aside0 (spec_l3Uncontract.j0 kq l0 x21_1 0 = some (r1, r2, r3)) ∧ Aside0 (kq ≤ k) ∧ Aside0 (wc.heap[gb180]? = some (.cells #[.int .i64 0, (.slice none 0 0)] 36 (0, 0))) ∧ Aside0 (wc.heap[gb181]? = some (.cells #[.int .i64 0, (.slice none 0 0)] 36 (0, 0))) ∧ Aside0 (Below w.heap.size w wc))
 case first =>
  have H := HC2.out
  clear HC2
  by_cases c7 : (l0.length : Int) < 8
  ·rw [if_pos c7] at H
   have c7b0 := decide_eq_true c7
   have c7b1 : decide (l0.length < 8) = true := decide_eq_true (by omega)
   clear c7
   (first | rw [c7b0] | (simp only [i64_w, i32_w]; rw [c7b0]) | skip)
   have H' := Aside0.mk H
   clear H
   go_wp2
   go_meet
   case rel => exact ⟨_, (true), q_i, H', ⟨by first | omega | exact Nat.le_refl _⟩, ⟨by (with_reducible repeat (first | refine blk_drewN ?_ _ | refine blk_drew ?_ | refine blk_alloc ?_ _)); refine blk_far ?_ NB180_181.out _; (with_reducible repeat (first | refine blk_drewN ?_ _ | refine blk_drew ?_ | refine blk_alloc ?_ _)); refine blk_far ?_ NB180_181.out _; (with_reducible repeat (first | refine blk_drewN ?_ _ | refine blk_drew ?_ | refine blk_alloc ?_ _)); exact BK180.out⟩, ⟨by (with_reducible repeat (first | refine blk_drewN ?_ _ | refine blk_drew ?_ | refine blk_alloc ?_ _)); refine blk_put (cs := #[.int .i64 0, .slice none 0 0]) ?_ 1 _ rfl; (with_reducible repeat (first | refine blk_drewN ?_ _ | refine blk_drew ?_ | refine blk_alloc ?_ _)); refine blk_put (cs := #[.int .i64 0, .slice none 0 0]) ?_ 0 _ rfl; (with_reducible repeat (first | refine blk_drewN ?_ _ | refine blk_drew ?_ | refine blk_alloc ?_ _)); exact BK181.out⟩, ⟨bq⟩⟩
  ·rw [if_neg c7] at H
   have c7b0 := decide_eq_false c7
   have c7b1 : decide (l0.length < 8) = false := decide_eq_false (by omega)
   clear c7
   (first | rw [c7b0] | (simp only [i64_w, i32_w]; rw [c7b0]) | skip)
   by_cases c8 : (Int.tmod (wrap64 ((l0.length : Int) - 8)) 11) = 0
   ·rw [if_pos c8] at H
    have c8b0 : ((Int.tmod (wrap64 ((l0.length : Int) - 8)) 11) == 0) = true := beq_iff_eq.mpr c8
    have c8b1 : ((Int.tmod (wrap64 ((l0.length : Int) - 8)) 11) != 0) = false := bne_eq_false_iff_eq.mpr c8
    clear c8
    have H' := Aside0.mk H
    clear H
    go_wp2
    go_meet
    case rel => exact ⟨_, (decide ((l0.length : Int) > 96)), q_i, H', ⟨by first | omega | exact Nat.le_refl _⟩, ⟨by (with_reducible repeat (first | refine blk_drewN ?_ _ | refine blk_drew ?_ | refine blk_alloc ?_ _)); refine blk_far ?_ NB180_181.out _; (with_reducible repeat (first | refine blk_drewN ?_ _ | refine blk_drew ?_ | refine blk_alloc ?_ _)); refine blk_far ?_ NB180_181.out _; (with_reducible repeat (first | refine blk_drewN ?_ _ | refine blk_drew ?_ | refine blk_alloc ?_ _)); exact BK180.out⟩, ⟨by (with_reducible repeat (first | refine blk_drewN ?_ _ | refine blk_drew ?_ | refine blk_alloc ?_ _)); refine blk_put (cs := #[.int .i64 0, .slice none 0 0]) ?_ 1 _ rfl; (with_reducible repeat (first | refine blk_drewN ?_ _ | refine blk_drew ?_ | refine blk_alloc ?_ _)); refine blk_put (cs := #[.int .i64 0, .slice none 0 0]) ?_ 0 _ rfl; (with_reducible repeat (first | refine blk_drewN ?_ _ | refine blk_drew ?_ | refine blk_alloc ?_ _)); exact BK181.out⟩, ⟨bq⟩⟩
   ·rw [if_neg c8] at H
    have c8b0 : ((Int.tmod (wrap64 ((l0.length : Int) - 8)) 11) == 0) = false := beq_eq_false_iff_ne.mpr c8
    have c8b1 : ((Int.tmod (wrap64 ((l0.length : Int) - 8)) 11) != 0) = true := bne_iff_ne.mpr c8
    have H' := Aside0.mk H
    clear H
    go_wp2
    go_meet
    case rel => exact ⟨_, (true), q_i, H', ⟨by first | omega | exact Nat.le_refl _⟩, ⟨by (with_reducible repeat (first | refine blk_drewN ?_ _ | refine blk_drew ?_ | refine blk_alloc ?_ _)); refine blk_far ?_ NB180_181.out _; (with_reducible repeat (first | refine blk_drewN ?_ _ | refine blk_drew ?_ | refine blk_alloc ?_ _)); refine blk_far ?_ NB180_181.out _; (with_reducible repeat (first | refine blk_drewN ?_ _ | refine blk_drew ?_ | refine blk_alloc ?_ _)); exact BK180.out⟩, ⟨by (with_reducible repeat (first | refine blk_drewN ?_ _ | refine blk_drew ?_ | refine blk_alloc ?_ _)); refine blk_put (cs := #[.int .i64 0, .slice none 0 0]) ?_ 1 _ rfl; (with_reducible repeat (first | refine blk_drewN ?_ _ | refine blk_drew ?_ | refine blk_alloc ?_ _)); refine blk_put (cs := #[.int .i64 0, .slice none 0 0]) ?_ 0 _ rfl; (with_reducible repeat (first | refine blk_drewN ?_ _ | refine blk_drew ?_ | refine blk_alloc ?_ _)); exact BK181.out⟩, ⟨bq⟩⟩
 case rest =>
  clear HC2
  (try clear p2); (try clear c5); (try clear p6); (try clear c7); (try clear c7b0); (try clear c7b1); (try clear c8); (try clear c8b0); (try clear c8b1); (try clear hcz6_0); (try clear hcz6_1); (try clear hfz6_0)
  (try clear hfz6_1)
  obtain ⟨kq, x21_1, rfl, HA, HJ1, BK180, BK181, HB⟩ := hcut
  cases kq with
  | zero => exact absurd HA.out (by simp [spec_l3Uncontract.j0])
  | succ kj1 =>
   have H := HA.out
   clear HA
   simp only [spec_l3Uncontract.j0] at H
   by_cases c9 : x21_1 = true
   ·subst c9
    have H1 : (some (0, ([] : List (S89)), false)) = some (r1, r2, r3) := by rw [if_pos rfl] at H; exact H
    clear H
    have H := H1
    clear H1
    simp only [Option.some.injEq, Prod.mk.injEq] at H
    obtain ⟨rfl, rfl, rfl⟩ := H
    have hnb10 := NB181_180.out
    have hnc10 := NB180_181.out
    obtain ⟨hcz11_0, hcz11_1, hfz11_0, hfz11_1⟩ := q_2 BK181.out
    obtain ⟨hcz12_0, hcz12_1, hfz12_0, hfz12_1⟩ := q_2 BK180.out
    go_wp2
    refine bodyPost_ret (results_ct rfl _ _ gb180 36 #[.int .i64 0, .slice none 0 0] (0, 0) _ rfl (by (with_reducible repeat (first | refine blk_drewN ?_ _ | refine blk_drew ?_ | refine blk_alloc ?_ _)); refine blk_put (cs := #[.int .i64 0, .slice none 0 0]) ?_ 1 _ rfl; (with_reducible repeat (first | refine blk_drewN ?_ _ | refine blk_drew ?_ | refine blk_alloc ?_ _)); refine blk_put (cs := #[.int .i64 0, .slice none 0 0]) ?_ 0 _ rfl; (with_reducible repeat (first | refine blk_drewN ?_ _ | refine blk_drew ?_ | refine blk_alloc ?_ _)); exact BK180.out) Try.underlying36 rfl (by kernel_rfl)) rfl ?_
    exact ⟨_, q_e, by first | exact Kd.R_nil _ _ _ _ _ | exact Kd.N_nil _ _ _ _ _ | exact Kd.V_nil _ _ _ _ _ | exact Kd.Q_nil _ _ _ _ _ | exact Kd.S_nil _ _ _ _ _, bq⟩
   ·replace c9 := Bool.eq_false_iff.mpr c9
    subst c9
    have H1 : (if 8 ≤ (l0.length : Int) then ((spec_l3Number.f kj1 (l0.take 8)).bind fun t183 => (spec_l3Uncontract.l0 kj1 l0 8 t183 ([] : List (S89)))) else (none)) = some (r1, r2, r3) := by rw [if_neg (show ¬ (false = true) by decide)] at H; exact H
    clear H
    have H := H1
    clear H1
    by_cases c13 : 8 ≤ (l0.length : Int)
    ·rw [if_pos c13] at H
     have c13b0 := eq_true c13
     have c13b1 := decide_eq_true c13
     clear c13
     replace H := Option.bind_eq_some_iff.mp H
     obtain ⟨t183, A140, H⟩ := H
     replace H : (spec_l3Uncontract.l0 kj1 l0 8 t183 ([] : List (S89))) = some (r1, r2, r3) := H
     have A14 := Aside0.mk A140
     clear A140
     have H' := Aside0.mk H
     clear H
     obtain ⟨i015, hi015, _, hsz15, _⟩ := info_parts info5
     obtain ⟨hcut15, hA15, hC15⟩ := print_take_of (P := Try.prog) (Value.int .u8) 0 22 5 .i64 Try.underlying22 hi015 hsz15 A0 c0 l0 8 (by omega) q_d HC0.out
     have HR182 := Aside0.mk (Kd.C_of_reads (h1 := fun _ => rfl) (hA15 _ (Kd.reads_of_C HR0.out)))
     have HC182 := Aside0.mk hC15
     clear hA15 hC15 hi015 hsz15
     go_wp2_with (first | ((with_reducible refine gate_callee (f := 120) rfl ?_); refine goesL_ (some 25) rfl rfl Try.func120 (by kernel_rfl) rfl #[.slice A0 (l0.take 8).length c0] rfl (by (try simp only [List.map_toArray, List.map_cons, List.map_nil]); first | done | (rw [show (l0.take 8).length = 8 from (by rw [List.length_take]; have h_ : (8 : Int) ≤ (l0.length : Int) := q_d; omega)] <;> rfl) | rfl | (simp only [List.length_drop, List.length_take]; rfl)) ?_; (with_reducible refine (spec_l3Number.calls kj1 _ _ (l0.take 8) t183 _ ?side1 ?side2 A14.out).mono ?_); (case side1 => exact q_c ((Kd.C_below HR182.out HB.out))); (case side2 => exact HC182.out); rintro e w' ⟨rfl, ⟨nd, rfl⟩⟩; refine ⟨_, rfl, ?_⟩; (try (rw [drewN_self wc]; generalize hq_ : World.drewN wc _ = wc; have n0_ : Aside0 (wc.heap[gb180]? = some (.cells #[.int .i64 0, .slice none 0 0] 36 (0, 0))) := ⟨by rw [← hq_]; exact kq⟩; have n1_ : Aside0 (wc.heap[gb181]? = some (.cells #[.int .i64 0, .slice none 0 0] 36 (0, 0))) := ⟨by rw [← hq_]; exact kq⟩; have n2_ : Aside0 (Below w.heap.size w wc) := ⟨by rw [← hq_]; exact bq⟩; clear BK180 BK181 HB hq_; have BK180 := n0_; have BK181 := n1_; have HB := n2_; clear n0_ n1_ n2_)); have hnb16 := NB181_180.out; have hnc16 := NB180_181.out; obtain ⟨hcz17_0, hcz17_1, hfz17_0, hfz17_1⟩ := q_2 BK181.out))
     go_loopg [5] kj1 (fun kq v5 w' => ∃ (x5_2 : Int) (x182001_2 : List (S89)) (u182001 : Value), v5 = .int .i64 x5_2 ∧ Aside0 (spec_l3Uncontract.l0 kq l0 x5_2 t183 x182001_2 = some (r1, r2, r3)) ∧ Aside0 (kq ≤ kj1) ∧ Aside0 (Kd.R k89 89 w' w.heap.size (fun _ => True) u182001 x182001_2) ∧ Aside0 (w'.heap[gb180]? = some (.cells #[.int .i64 0, (.slice none 0 0)] 36 (0, 0))) ∧ Aside0 (w'.heap[gb181]? = some (.cells #[.int .i64 t183, u182001] 36 (0, 0))) ∧ Aside0 (Below w.heap.size w w'))
     case atStart => exact ⟨(8), (([] : List (S89))), (.slice none 0 0), q_i, H', ⟨Nat.le_refl _⟩, ⟨by first | exact Kd.R_nil _ _ _ _ _ | exact Kd.N_nil _ _ _ _ _ | exact Kd.V_nil _ _ _ _ _ | exact Kd.Q_nil _ _ _ _ _ | exact Kd.S_nil _ _ _ _ _⟩, ⟨by (with_reducible repeat (first | refine blk_drewN ?_ _ | refine blk_drew ?_ | refine blk_alloc ?_ _)); refine blk_far ?_ NB180_181.out _; (with_reducible repeat (first | refine blk_drewN ?_ _ | refine blk_drew ?_ | refine blk_alloc ?_ _)); exact BK180.out⟩, ⟨by (with_reducible repeat (first | refine blk_drewN ?_ _ | refine blk_drew ?_ | refine blk_alloc ?_ _)); refine blk_put (cs := #[.int .i64 0, .slice none 0 0]) ?_ 0 _ rfl; (with_reducible repeat (first | refine blk_drewN ?_ _ | refine blk_drew ?_ | refine blk_alloc ?_ _)); exact BK181.out⟩, ⟨bq⟩⟩
     case round =>
      clear H'
      (try clear c1); (try clear p2); (try clear c5); (try clear p6); (try clear c7); (try clear c7b0); (try clear c7b1); (try clear c8); (try clear c8b0); (try clear c8b1); (try clear c9); (try clear c10)
      (try clear c12); (try clear c13); (try clear c13b0); (try clear c13b1); (try clear c16); (try clear hcz11_0); (try clear hcz11_1); (try clear hcz12_0); (try clear hcz12_1); (try clear hcz17_0); (try clear hcz17_1)
      (try clear hcz6_0); (try clear hcz6_1); (try clear hfz11_0); (try clear hfz11_1); (try clear hfz12_0); (try clear hfz12_1); (try clear hfz17_0); (try clear hfz17_1); (try clear hfz6_0); (try clear hfz6_1)
      (try clear p2); (try clear p6)
      obtain ⟨x5_2, x182001_2, u182001, rfl, HA, HK2, HO_182001, BK180, BK181, HB⟩ := hrel
      cases gk with
      | zero => exact absurd HA.out (by simp [spec_l3Uncontract.l0])
      | succ k2 =>
       have H := HA.out
       clear HA
       simp only [spec_l3Uncontract.l0] at H
       by_cases c18 : x5_2 < (l0.length : Int)
       ·rw [if_pos c18] at H
        have c18b0 := decide_eq_true c18
        clear c18
        by_cases c19 : 0 ≤ x5_2
        ·rw [if_pos c19] at H
         have c19b0 := decide_eq_true c19
         clear c19
         obtain ⟨ji20, hji20⟩ : ∃ j_ : Int, (wrap64 (x5_2 + 1)) = j_ := ⟨_, rfl⟩
         replace H : (if 0 ≤ (ji20) then (if (ji20) < (l0.length : Int) then (if 0 ≤ (wrap64 (x5_2 + 2)) then (if (wrap64 (x5_2 + 2)) < (l0.length : Int) then (if 0 ≤ (wrap64 (x5_2 + 3)) then (if (wrap64 (x5_2 + 3)) ≤ (wrap64 (x5_2 + 11)) then (if (wrap64 (x5_2 + 11)) ≤ (l0.length : Int) then ((spec_l3Number.f k2 ((l0.take ((wrap64 (x5_2 + 11)) : Int).toNat).drop ((wrap64 (x5_2 + 3)) : Int).toNat)).bind fun t188 => (if x182001_2.length < 4398046511104 then (spec_l3Uncontract.l0 k2 l0 (wrap64 (x5_2 + 11)) t183 (x182001_2 ++ [(⟨wrap64 (rd l0 x5_2), wrap64 (rd l0 (ji20)), wrap64 (rd l0 (wrap64 (x5_2 + 2))), t188⟩ : S89)])) else (none))) else (none)) else (none)) else (none)) else (none)) else (none)) else (none)) else (none)) = some (r1, r2, r3) := by first | (rw [hji20] at H; exact H) | (simp only [hji20] at H ⊢; exact H)
         have hji20w : (IntKind.i64.wrap (x5_2 + 1)) = ji20 := (i64_w _).trans hji20
         by_cases c21 : 0 ≤ (ji20)
         ·rw [if_pos c21] at H
          have c21b0 := decide_eq_true c21
          clear c21
          by_cases c22 : (ji20) < (l0.length : Int)
          ·rw [if_pos c22] at H
           have c22b0 := decide_eq_true c22
           clear c22
           obtain ⟨ji23, hji23⟩ : ∃ j_ : Int, (wrap64 (x5_2 + 2)) = j_ := ⟨_, rfl⟩
           replace H : (if 0 ≤ (ji23) then (if (ji23) < (l0.length : Int) then (if 0 ≤ (wrap64 (x5_2 + 3)) then (if (wrap64 (x5_2 + 3)) ≤ (wrap64 (x5_2 + 11)) then (if (wrap64 (x5_2 + 11)) ≤ (l0.length : Int) then ((spec_l3Number.f k2 ((l0.take ((wrap64 (x5_2 + 11)) : Int).toNat).drop ((wrap64 (x5_2 + 3)) : Int).toNat)).bind fun t188 => (if x182001_2.length < 4398046511104 then (spec_l3Uncontract.l0 k2 l0 (wrap64 (x5_2 + 11)) t183 (x182001_2 ++ [(⟨wrap64 (rd l0 x5_2), wrap64 (rd l0 (ji20)), wrap64 (rd l0 (ji23)), t188⟩ : S89)])) else (none))) else (none)) else (none)) else (none)) else (none)) else (none)) = some (r1, r2, r3) := by first | (rw [hji23] at H; exact H) | (simp only [hji23] at H ⊢; exact H)
           have hji23w : (IntKind.i64.wrap (x5_2 + 2)) = ji23 := (i64_w _).trans hji23
           by_cases c24 : 0 ≤ (ji23)
           ·rw [if_pos c24] at H
            have c24b0 := decide_eq_true c24
            clear c24
            by_cases c25 : (ji23) < (l0.length : Int)
            ·rw [if_pos c25] at H
             have c25b0 := decide_eq_true c25
             clear c25
             obtain ⟨ji26, hji26⟩ : ∃ j_ : Int, (wrap64 (x5_2 + 3)) = j_ := ⟨_, rfl⟩
             replace H : (if 0 ≤ (ji26) then (if (ji26) ≤ (wrap64 (x5_2 + 11)) then (if (wrap64 (x5_2 + 11)) ≤ (l0.length : Int) then ((spec_l3Number.f k2 ((l0.take ((wrap64 (x5_2 + 11)) : Int).toNat).drop ((ji26) : Int).toNat)).bind fun t188 => (if x182001_2.length < 4398046511104 then (spec_l3Uncontract.l0 k2 l0 (wrap64 (x5_2 + 11)) t183 (x182001_2 ++ [(⟨wrap64 (rd l0 x5_2), wrap64 (rd l0 (ji20)), wrap64 (rd l0 (ji23)), t188⟩ : S89)])) else (none))) else (none)) else (none)) else (none)) = some (r1, r2, r3) := by first | (rw [hji26] at H; exact H) | (simp only [hji26] at H ⊢; exact H)
             have hji26w : (IntKind.i64.wrap (x5_2 + 3)) = ji26 := (i64_w _).trans hji26
             by_cases c27 : 0 ≤ (ji26)
             ·rw [if_pos c27] at H
              have c27b0 := eq_true c27
              have c27b1 := decide_eq_true c27
              clear c27
              by_cases c28 : (ji26) ≤ (wrap64 (x5_2 + 11))
              ·rw [if_pos c28] at H
               have c28b0 := eq_true c28
               have c28b1 := decide_eq_true c28
               by_cases c29 : (wrap64 (x5_2 + 11)) ≤ (l0.length : Int)
               ·rw [if_pos c29] at H
                have c29b0 := eq_true c29
                have c29b1 := decide_eq_true c29
                replace H := Option.bind_eq_some_iff.mp H
                obtain ⟨t188, A300, H⟩ := H
                replace H : (if x182001_2.length < 4398046511104 then (spec_l3Uncontract.l0 k2 l0 (wrap64 (x5_2 + 11)) t183 (x182001_2 ++ [(⟨wrap64 (rd l0 x5_2), wrap64 (rd l0 (ji20)), wrap64 (rd l0 (ji23)), t188⟩ : S89)])) else (none)) = some (r1, r2, r3) := H
                have A30 := Aside0.mk A300
                clear A300
                by_cases c31 : x182001_2.length < 4398046511104
                ·rw [if_pos c31] at H
                 have LMc31 := Aside0.mk c31
                 clear c31
                 obtain ⟨y189, hy189⟩ : ∃ y_ : List (S89), y_ = (x182001_2 ++ [(⟨wrap64 (rd l0 x5_2), wrap64 (rd l0 (ji20)), wrap64 (rd l0 (ji23)), t188⟩ : S89)]) := ⟨_, rfl⟩
                 replace H : (spec_l3Uncontract.l0 k2 l0 (wrap64 (x5_2 + 11)) t183 y189) = some (r1, r2, r3) := q_h hy189 H
                 have Ny189 := Aside0.mk hy189
                 clear hy189
                 have H' := Aside0.mk H
                 clear H
                 try go_wp2
                 have n0_ := Aside0.mk (Kd.R_drew HO_182001.out)
                 have n1_ := Aside0.mk (blk_drew BK180.out)
                 have n2_ := Aside0.mk (blk_drew BK181.out)
                 have n3_ := Aside0.mk (below_drew1 HB.out)
                 clear HO_182001
                 clear BK180
                 clear BK181
                 clear HB
                 have HO_182001 := n0_
                 have BK180 := n1_
                 have BK181 := n2_
                 have HB := n3_
                 clear n0_ n1_ n2_ n3_
                 have p184 : 0 ≤ (x5_2 : Int) := q_d
                 have q184 : x5_2 < (l0.length : Int) := q_d
                 obtain ⟨ad184, e184, hx184_0⟩ := Kd.at_int HR0.out x5_2 p184 q184
                 have hw184_0 := hx184_0
                 cases e184
                 replace hx184_0 := q_x HB.out hx184_0
                 replace p184 := eq_true p184
                 replace q184 := eq_true q184
                 have p185 : 0 ≤ ((ji20) : Int) := q_d
                 have q185 : (ji20) < (l0.length : Int) := q_d
                 obtain ⟨ad185, e185, hx185_0⟩ := Kd.at_int HR0.out (ji20) p185 q185
                 have hw185_0 := hx185_0
                 obtain rfl : ad184 = ad185 := (by injection e185)
                 replace hx185_0 := q_x HB.out hx185_0
                 replace p185 := eq_true p185
                 replace q185 := eq_true q185
                 have p186 : 0 ≤ ((ji23) : Int) := q_d
                 have q186 : (ji23) < (l0.length : Int) := q_d
                 obtain ⟨ad186, e186, hx186_0⟩ := Kd.at_int HR0.out (ji23) p186 q186
                 have hw186_0 := hx186_0
                 obtain rfl : ad184 = ad186 := (by injection e186)
                 replace hx186_0 := q_x HB.out hx186_0
                 replace p186 := eq_true p186
                 replace q186 := eq_true q186
                 obtain ⟨i033, hi033, _, hsz33, _⟩ := info_parts info5
                 obtain ⟨A33, hcut33, hA33, hC33⟩ := print_mid_of (P := Try.prog) (Value.int .u8) 0 22 5 .i64 .i64 Try.underlying22 hi033 hsz33 (some ad184) c0 l0 (ji26) (wrap64 (x5_2 + 11)) q_d (by first | omega | exact q_d) q_d HC0.out
                 have HR187 := Aside0.mk (Kd.C_of_reads (h1 := fun _ => rfl) (hA33 _ (Kd.reads_of_C HR0.out)))
                 have HC187 := Aside0.mk hC33
                 clear hA33 hC33 hi033 hsz33
                 refine start_ (n := 31) (S := fun w' => w'.cell? ⟨gb181, 0, none⟩ = some (.int .i64 t183) ∧ w'.cell? ⟨gb181, 1, none⟩ = some (u182001) ∧ w'.cell? (ad184.add (x5_2).toNat) = some (.int .u8 (rd l0 x5_2)) ∧ w'.cell? (ad184.add ((ji20)).toNat) = some (.int .u8 (rd l0 (ji20))) ∧ w'.cell? (ad184.add ((ji23)).toNat) = some (.int .u8 (rd l0 (ji23)))) (ds := [30]) #[false, false, false, false, false, false, false, false, false, false, false, false, false, false, false, false, false, false, false, false, false, false, false, false, false, false, false, false, false, false, false] (by kernel_rfl) rfl rfl ⟨q_z BK181.out 0, q_z BK181.out 1, ((HB.out.cell (World.block_lt_of_cell? w _ hw184_0)).trans hw184_0), ((HB.out.cell (World.block_lt_of_cell? w _ hw185_0)).trans hw185_0), ((HB.out.cell (World.block_lt_of_cell? w _ hw186_0)).trans hw186_0)⟩ (fun hHeld => ?_); refine with_tabW spec_l3Uncontract.tab8 spec_l3Uncontract.bits8 (fun HT_ HW_ => ?_)
                 generalize wr.drew = w32 at HO_182001 BK180 BK181 HB HR187 hx184_0 hx185_0 hx186_0 hHeld ⊢
                 refine q_p 0 (some 33) #[true, false, false, false, false, false, false, false, false, false, false, false, false, false, false, false, false, false, false, false, false, false, false, false, false, false, false, false, false, false, false] HT_.out ?_
                 refine q_p 2 (some 35) #[true, false, true, false, false, false, false, false, false, false, false, false, false, false, false, false, false, false, false, false, false, false, false, false, false, false, false, false, false, false, false] HT_.out ?_
                 refine q_p 3 (some 36) #[true, false, true, true, false, false, false, false, false, false, false, false, false, false, false, false, false, false, false, false, false, false, false, false, false, false, false, false, false, false, false] HT_.out ?_
                 refine q_p 4 (some 37) #[true, false, true, true, true, false, false, false, false, false, false, false, false, false, false, false, false, false, false, false, false, false, false, false, false, false, false, false, false, false, false] HT_.out ?_
                 refine q_p 7 (some 40) #[true, false, true, true, true, false, false, true, false, false, false, false, false, false, false, false, false, false, false, false, false, false, false, false, false, false, false, false, false, false, false] HT_.out ?_
                 refine q_p 8 (some 41) #[true, false, true, true, true, false, false, true, true, false, false, false, false, false, false, false, false, false, false, false, false, false, false, false, false, false, false, false, false, false, false] HT_.out ?_
                 refine q_p 9 (some 42) #[true, false, true, true, true, false, false, true, true, true, false, false, false, false, false, false, false, false, false, false, false, false, false, false, false, false, false, false, false, false, false] HT_.out ?_
                 refine q_p 10 (some 43) #[true, false, true, true, true, false, false, true, true, true, true, false, false, false, false, false, false, false, false, false, false, false, false, false, false, false, false, false, false, false, false] HT_.out ?_
                 refine q_p 13 (some 46) #[true, false, true, true, true, false, false, true, true, true, true, false, false, true, false, false, false, false, false, false, false, false, false, false, false, false, false, false, false, false, false] HT_.out ?_
                 refine q_p 14 (some 47) #[true, false, true, true, true, false, false, true, true, true, true, false, false, true, true, false, false, false, false, false, false, false, false, false, false, false, false, false, false, false, false] HT_.out ?_
                 refine q_p 15 (some 48) #[true, false, true, true, true, false, false, true, true, true, true, false, false, true, true, true, false, false, false, false, false, false, false, false, false, false, false, false, false, false, false] HT_.out ?_
                 refine q_p 16 (some 49) #[true, false, true, true, true, false, false, true, true, true, true, false, false, true, true, true, true, false, false, false, false, false, false, false, false, false, false, false, false, false, false] HT_.out ?_
                 refine q_p 19 (some 52) #[true, false, true, true, true, false, false, true, true, true, true, false, false, true, true, true, true, false, false, true, false, false, false, false, false, false, false, false, false, false, false] HT_.out ?_
                 refine q_p 20 (some 53) #[true, false, true, true, true, false, false, true, true, true, true, false, false, true, true, true, true, false, false, true, true, false, false, false, false, false, false, false, false, false, false] HT_.out ?_
                 refine q_p 21 (some 54) #[true, false, true, true, true, false, false, true, true, true, true, false, false, true, true, true, true, false, false, true, true, true, false, false, false, false, false, false, false, false, false] HT_.out ?_
                 refine q_p 22 (some 55) #[true, false, true, true, true, false, false, true, true, true, true, false, false, true, true, true, true, false, false, true, true, true, true, false, false, false, false, false, false, false, false] HT_.out ?_
                 refine q_p 23 (some 56) #[true, false, true, true, true, false, false, true, true, true, true, false, false, true, true, true, true, false, false, true, true, true, true, true, false, false, false, false, false, false, false] HT_.out ?_
                 refine q_p 24 (some 57) #[true, false, true, true, true, false, false, true, true, true, true, false, false, true, true, true, true, false, false, true, true, true, true, true, true, false, false, false, false, false, false] HT_.out ?_
                 refine q_t 1 (some 34) #[true, true, true, true, true, false, false, true, true, true, true, false, false, true, true, true, true, false, false, true, true, true, true, true, true, false, false, false, false, false, false] HT_.out HW_.out hHeld ?_
                 refine q_t 5 (some 38) #[true, true, true, true, true, true, false, true, true, true, true, false, false, true, true, true, true, false, false, true, true, true, true, true, true, false, false, false, false, false, false] HT_.out HW_.out hHeld ?_
                 refine q_p 6 (some 39) #[true, true, true, true, true, true, true, true, true, true, true, false, false, true, true, true, true, false, false, true, true, true, true, true, true, false, false, false, false, false, false] HT_.out ?_
                 refine q_t 11 (some 44) #[true, true, true, true, true, true, true, true, true, true, true, true, false, true, true, true, true, false, false, true, true, true, true, true, true, false, false, false, false, false, false] HT_.out HW_.out hHeld ?_
                 refine q_p 12 (some 45) #[true, true, true, true, true, true, true, true, true, true, true, true, true, true, true, true, true, false, false, true, true, true, true, true, true, false, false, false, false, false, false] HT_.out ?_
                 refine q_t 17 (some 50) #[true, true, true, true, true, true, true, true, true, true, true, true, true, true, true, true, true, true, false, true, true, true, true, true, true, false, false, false, false, false, false] HT_.out HW_.out hHeld ?_
                 refine q_p 18 (some 51) #[true, true, true, true, true, true, true, true, true, true, true, true, true, true, true, true, true, true, true, true, true, true, true, true, true, false, false, false, false, false, false] HT_.out ?_
                 refine one_ (i := 25) (N := some 58) #[true, true, true, true, true, true, true, true, true, true, true, true, true, true, true, true, true, true, true, true, true, true, true, true, true, true, false, false, false, false, false] rfl rfl (one_of HT_.out (by kernel_rfl)) (by decide) (fun K hK => ?_)
                 refine goes_ Try.func120 (by kernel_rfl) rfl #[.slice A33 ((l0.take ((wrap64 (x5_2 + 11)) : Int).toNat).drop ((ji26) : Int).toNat).length (c0 - (ji26).toNat)] (by rfl) rfl rfl (by (try simp only [List.map_toArray, List.map_cons, List.map_nil]); first | done | (rw [show ((l0.take ((wrap64 (x5_2 + 11)) : Int).toNat).drop ((ji26) : Int).toNat).length = ((wrap64 (x5_2 + 11)).toNat - (ji26).toNat) from (by rw [List.length_drop, List.length_take]; have h_ : ((wrap64 (x5_2 + 11)) : Int) ≤ (l0.length : Int) := q_d; omega)] <;> rfl) | (simp only [hji26]; rfl) | rfl | (simp only [List.length_drop, List.length_take]; rfl)) ?_
                 with_reducible refine (spec_l3Number.calls k2 _ _ ((l0.take ((wrap64 (x5_2 + 11)) : Int).toNat).drop ((ji26) : Int).toNat) t188 _ ?side1 ?side2 A30.out).mono ?_
                 (case side1 => exact q_c ((Kd.C_below HR187.out HB.out)))
                 (case side2 => exact HC187.out)
                 rintro e w' ⟨rfl, ⟨nd, rfl⟩⟩
                 refine ⟨_, rfl, ?_⟩
                 refine hK.out _ _ ⟨q_z BK181.out 0, q_z BK181.out 1, ((HB.out.cell (World.block_lt_of_cell? w _ hw184_0)).trans hw184_0), ((HB.out.cell (World.block_lt_of_cell? w _ hw185_0)).trans hw185_0), ((HB.out.cell (World.block_lt_of_cell? w _ hw186_0)).trans hw186_0)⟩ (fun hHeld => ?_)
                 clear hK K
                 refine norm_ (a' := ?_) ?_ ?_
                 rotate_left
                 ·show Act.put _ (some 58) _ = _
                  simp only [Act.put, List.setIfInBounds_toArray, List.set_cons_zero, List.set_cons_succ, i64_w, i32_w]
                  rfl
                 refine q_p 26 (some 59) #[true, true, true, true, true, true, true, true, true, true, true, true, true, true, true, true, true, true, true, true, true, true, true, true, true, true, true, false, false, false, false] HT_.out ?_
                 refine one_ (i := 27) (N := some 60) #[true, true, true, true, true, true, true, true, true, true, true, true, true, true, true, true, true, true, true, true, true, true, true, true, true, true, true, true, false, false, false] rfl rfl (one_of HT_.out (by kernel_rfl)) (by decide) (fun K hK => ?_)
                 refine value_ (w1 := ?_) (v := ?_) (by rfl) rfl ?_ ?_
                 rotate_left 2
                 ·go_simp
                  constructor
                  ·rfl
                  ·rfl
                 refine hK.out _ _ ⟨(blk_cell (blk_alloc BK181.out _) 0).trans rfl, (blk_cell (blk_alloc BK181.out _) 1).trans rfl, (World.cell?_alloc_lt _ _ _ (World.block_lt_of_cell? _ _ (((HB.out.cell (World.block_lt_of_cell? w _ hw184_0)).trans hw184_0)))).trans (((HB.out.cell (World.block_lt_of_cell? w _ hw184_0)).trans hw184_0)), (World.cell?_alloc_lt _ _ _ (World.block_lt_of_cell? _ _ (((HB.out.cell (World.block_lt_of_cell? w _ hw185_0)).trans hw185_0)))).trans (((HB.out.cell (World.block_lt_of_cell? w _ hw185_0)).trans hw185_0)), (World.cell?_alloc_lt _ _ _ (World.block_lt_of_cell? _ _ (((HB.out.cell (World.block_lt_of_cell? w _ hw186_0)).trans hw186_0)))).trans (((HB.out.cell (World.block_lt_of_cell? w _ hw186_0)).trans hw186_0))⟩ (fun hHeld => ?_)
                 clear hK K
                 refine norm_ (a' := ?_) ?_ ?_
                 rotate_left
                 ·show Act.put _ (some 60) _ = _
                  simp only [Act.put, List.setIfInBounds_toArray, List.set_cons_zero, List.set_cons_succ, i64_w, i32_w]
                  rfl
                 refine one_ (i := 28) (N := some 61) #[true, true, true, true, true, true, true, true, true, true, true, true, true, true, true, true, true, true, true, true, true, true, true, true, true, true, true, true, true, false, false] rfl rfl (one_of HT_.out (by kernel_rfl)) (by decide) (fun K hK => ?_)
                 refine Kd.R_append_step k89 (w0 := w) w.heap.size (by rfl) (.tmp 34) (.tmp 60) 34 89 (.agg #[(.int .i64 0), (.int .i64 0), (.int .i64 0), (.int .i64 0)]) 32 rfl Try.underlying34 info89 rfl (by decide) (by omega) u182001 x182001_2 (⟨wrap64 (rd l0 x5_2), wrap64 (rd l0 (ji20)), wrap64 (rd l0 (ji23)), t188⟩ : S89) [.int .i64 (wrap64 (rd l0 x5_2)), .int .i64 (wrap64 (rd l0 (ji20))), .int .i64 (wrap64 (rd l0 (ji23))), .int .i64 t188] (fun _ => True) (fun _ => False) rfl rfl ?aP (fun _ hk => hk.elim) ?aF ?aO ?aB ?aS ?aL ?_
                 (case aP => exact k89_mkM _ _ _ (⟨wrap64 (rd l0 x5_2), wrap64 (rd l0 (ji20)), wrap64 (rd l0 (ji23)), t188⟩ : S89))
                 (case aB => exact bq)
                 (case aF => exact (fun _ _ => trivial))
                 (case aO => exact (q_r (HO_182001.out)))
                 (case aS => exact (below_size bq))
                 (case aL => have := LMc31.out; omega)
                 intro v190 w34 ho hb hg hat
                 rw [← Ny189.out] at ho
                 have n0_ := Aside0.mk (blk_grown (q_b BK180.out) hg (Kd.R_ne HO_182001.out BK180.out (by decide)))
                 have n1_ := Aside0.mk (blk_grown (q_b BK181.out) hg (Kd.R_ne HO_182001.out BK181.out (by decide)))
                 have n2_ := Aside0.mk (hb)
                 have n3_ := Aside0.mk (ho)
                 clear BK180
                 clear BK181
                 clear HB
                 clear HO_182001
                 have BK180 := n0_
                 have BK181 := n1_
                 have HB := n2_
                 have HO191 := n3_
                 clear n0_ n1_ n2_ n3_
                 clear ho hb hg hat
                 obtain ⟨Ao35, co35, eo35⟩ := Kd.R_slice HO191.out
                 (first | subst eo35 | (injection eo35 with f1_ f2_ f3_; have f4_ := f1_.symm; have f5_ := f3_.symm; clear f1_ f2_ f3_; subst f4_; subst f5_))
                 refine hK.out _ _ ⟨q_z BK181.out 0, q_z BK181.out 1, ((HB.out.cell (World.block_lt_of_cell? w _ hw184_0)).trans hw184_0), ((HB.out.cell (World.block_lt_of_cell? w _ hw185_0)).trans hw185_0), ((HB.out.cell (World.block_lt_of_cell? w _ hw186_0)).trans hw186_0)⟩ (fun hHeld => ?_)
                 clear hK K
                 refine norm_ (a' := ?_) ?_ ?_
                 rotate_left
                 ·show Act.put _ (some 61) _ = _
                  simp only [Act.put, List.setIfInBounds_toArray, List.set_cons_zero, List.set_cons_succ, i64_w, i32_w]
                  rfl
                 refine q_p 29 (some 62) #[true, true, true, true, true, true, true, true, true, true, true, true, true, true, true, true, true, true, true, true, true, true, true, true, true, true, true, true, true, true, false] HT_.out ?_
                 refine last_ (i := 30) (N := none) #[true, true, true, true, true, true, true, true, true, true, true, true, true, true, true, true, true, true, true, true, true, true, true, true, true, true, true, true, true, true, true] rfl rfl (one_of HT_.out (by kernel_rfl)) (by decide) (fun K hK => ?_)
                 have hs36 : w34.cell? ⟨gb181, 1, none⟩ = some (u182001) := (blk_cell BK181.out 1).trans rfl
                 have hfs36 := blk_frozen BK181.out 1
                 have hns36_0 := NB180_181.out
                 have hms36_0 := NB181_180.out
                 refine skip_ (w1 := ?_) (by rfl) rfl ?_ ?_
                 rotate_left
                 ·go_simp
                  rfl
                 refine hK.out _ _ ?_
                 clear hK K
                 refine done_ (done_of HT_.out (by kernel_rfl)) ?_
                 try go_wp2
                 go_roundg k2
                 case measure => have := HJ1.out; have := HK2.out; omega
                 case rel => exact ⟨(wrap64 (x5_2 + 11)), (y189), (.slice Ao35 y189.length co35), q_i, H', ⟨by have := HJ1.out; have := HK2.out; omega⟩, ⟨by (with_reducible repeat (first | apply Kd.R_alloc | apply Kd.R_drewN | apply Kd.R_drew)); exact Kd.R_mono (Kd.R_far (p := ⟨gb181, 1, none⟩) (Kd.R_types HO191.out BK181.out (by decide)) (fun _ hk => hk.2) (.slice Ao35 y189.length co35)) (fun _ hk => trivial)⟩, ⟨by (with_reducible repeat (first | refine blk_drewN ?_ _ | refine blk_drew ?_ | refine blk_alloc ?_ _)); refine blk_far ?_ NB180_181.out _; (with_reducible repeat (first | refine blk_drewN ?_ _ | refine blk_drew ?_ | refine blk_alloc ?_ _)); exact BK180.out⟩, ⟨by (with_reducible repeat (first | refine blk_drewN ?_ _ | refine blk_drew ?_ | refine blk_alloc ?_ _)); refine blk_put (cs := #[.int .i64 t183, u182001]) ?_ 1 _ rfl; (with_reducible repeat (first | refine blk_drewN ?_ _ | refine blk_drew ?_ | refine blk_alloc ?_ _)); exact BK181.out⟩, ⟨bq⟩⟩
                ·rw [if_neg c31] at H
                 exact absurd H (by simp)
               ·rw [if_neg c29] at H
                exact absurd H (by simp)
              ·rw [if_neg c28] at H
               exact absurd H (by simp)
             ·rw [if_neg c27] at H
              exact absurd H (by simp)
            ·rw [if_neg c25] at H
             exact absurd H (by simp)
           ·rw [if_neg c24] at H
            exact absurd H (by simp)
          ·rw [if_neg c22] at H
           exact absurd H (by simp)
         ·rw [if_neg c21] at H
          exact absurd H (by simp)
        ·rw [if_neg c19] at H
         exact absurd H (by simp)
       ·rw [if_neg c18] at H
        have c18b0 := decide_eq_false c18
        clear c18
        replace H := Option.bind_eq_some_iff.mp H
        obtain ⟨t192, A370, H⟩ := H
        replace H : (some (t183, x182001_2, (t192 == 0))) = some (r1, r2, r3) := H
        have A37 := Aside0.mk A370
        clear A370
        simp only [Option.some.injEq, Prod.mk.injEq] at H
        obtain ⟨rfl, rfl, rfl⟩ := H
        try go_wp2
        have n0_ := Aside0.mk (Kd.R_drew HO_182001.out)
        have n1_ := Aside0.mk (blk_drew BK180.out)
        have n2_ := Aside0.mk (blk_drew BK181.out)
        have n3_ := Aside0.mk (below_drew1 HB.out)
        clear HO_182001
        clear BK180
        clear BK181
        clear HB
        have HO_182001 := n0_
        have BK180 := n1_
        have BK181 := n2_
        have HB := n3_
        clear n0_ n1_ n2_ n3_
        obtain ⟨Ao39, co39, eo39⟩ := Kd.R_slice HO_182001.out
        (first | subst eo39 | (injection eo39 with f1_ f2_ f3_; have f4_ := f1_.symm; have f5_ := f3_.symm; clear f1_ f2_ f3_; subst f4_; subst f5_))
        refine start_ (n := 6) (S := fun w' => w'.cell? ⟨gb181, 0, none⟩ = some (.int .i64 t183) ∧ w'.cell? ⟨gb181, 1, none⟩ = some (.slice Ao39 x182001_2.length co39)) (ds := []) #[false, false, false, false, false, false] (by kernel_rfl) rfl rfl ⟨q_z BK181.out 0, q_z BK181.out 1⟩ (fun hHeld => ?_)
        generalize wr.drew = w38 at HO_182001 BK180 BK181 HB hHeld ⊢
        refine take_ (i := 0) (N := some 63) (v := ?_) (a' := ?_) #[true, false, false, false, false, false] rfl rfl (by kernel_rfl) (fun _ _ _ h => h) (Or.inl ⟨by rfl, ?_⟩) hHeld ?_ ?_
        rotate_left
        ·rintro w' ⟨s0, s1⟩
         go_simp
         with_reducible rfl
        rotate_left
        ·simp only [Act.put, List.setIfInBounds_toArray, List.set_cons_zero, List.set_cons_succ, i64_w, i32_w]
         rfl
        refine take_ (i := 1) (N := some 64) (v := ?_) (a' := ?_) #[true, true, false, false, false, false] rfl rfl (by kernel_rfl) (fun _ _ _ h => h) (Or.inl ⟨by rfl, ?_⟩) hHeld ?_ ?_
        rotate_left
        ·rintro w' ⟨s0, s1⟩
         go_simp
         with_reducible rfl
        rotate_left
        ·simp only [Act.put, List.setIfInBounds_toArray, List.set_cons_zero, List.set_cons_succ, i64_w, i32_w]
         rfl
        refine one_ (i := 2) (N := some 65) #[true, true, true, false, false, false] rfl rfl (by kernel_rfl) (by decide) (fun K hK => ?_)
        refine goes_ Try.func25 (by kernel_rfl) rfl #[.agg #[.int .i64 t183, .slice Ao39 x182001_2.length co39]] (by rfl) rfl rfl (by (try simp only [List.map_toArray, List.map_cons, List.map_nil]); first | done | rfl | (simp only [List.length_drop, List.length_take]; rfl)) ?_
        with_reducible refine (spec_ContractFault.calls k2 t183 _ _ x182001_2 t192 _ ?side1 ?side2 A37.out).mono ?_
        (case side1 => exact q_c ((Kd.R_reads' HO_182001.out).2.2))
        (case side2 => exact (Kd.R_reads' HO_182001.out).2.1)
        rintro e w40 ⟨rfl, hb⟩
        refine ⟨_, rfl, ?_⟩
        have n0_ := Aside0.mk (Kd.R_below (q_r (HO_182001.out)) hb)
        have n1_ := Aside0.mk (blk_below (q_b BK180.out) hb)
        have n2_ := Aside0.mk (blk_below (q_b BK181.out) hb)
        have n3_ := Aside0.mk (below_step bq hb)
        clear HO_182001
        clear BK180
        clear BK181
        clear HB
        have HO_182001 := n0_
        have BK180 := n1_
        have BK181 := n2_
        have HB := n3_
        clear n0_ n1_ n2_ n3_
        (try clear hb)
        (try clear hb2)
        (try clear hk)
        (try clear hi)
        refine hK.out _ _ ⟨q_z BK181.out 0, q_z BK181.out 1⟩ (fun hHeld => ?_)
        clear hK K
        refine norm_ (a' := ?_) ?_ ?_
        rotate_left
        ·show Act.put _ (some 65) _ = _
         simp only [Act.put, List.setIfInBounds_toArray, List.set_cons_zero, List.set_cons_succ, i64_w, i32_w]
         rfl
        refine pure_ (i := 3) (N := some 66) (v := ?_) (a' := ?_) #[true, true, true, true, false, false] rfl rfl (by kernel_rfl) (fun _ _ _ h => h) (Or.inl ⟨by rfl, ?_⟩) ?_ ?_
        rotate_left
        ·intro w'
         go_simp
         with_reducible rfl
        rotate_left
        ·simp only [Act.put, List.setIfInBounds_toArray, List.set_cons_zero, List.set_cons_succ, i64_w, i32_w]
         rfl
        refine one_ (i := 4) (N := none) #[true, true, true, true, true, false] rfl rfl (by kernel_rfl) (by decide) (fun K hK => ?_)
        have hs41 : w40.cell? ⟨gb180, 0, none⟩ = some (.int .i64 0) := (blk_cell BK180.out 0).trans rfl
        have hfs41 := blk_frozen BK180.out 0
        have hns41_1 := NB181_180.out
        have hms41_1 := NB180_181.out
        have hs42 : w40.cell? ⟨gb180, 1, none⟩ = some (.slice none 0 0) := (blk_cell BK180.out 1).trans rfl
        have hfs42 := blk_frozen BK180.out 1
        have hns42_1 := NB181_180.out
        have hms42_1 := NB180_181.out
        refine skip_ (w1 := ?_) (by rfl) rfl ?_ ?_
        rotate_left
        ·go_simp
         rfl
        refine hK.out _ _ ⟨((cell_far (p := ⟨gb180, _, none⟩) NB181_180.out _).trans (((cell_far (p := ⟨gb180, _, none⟩) NB181_180.out _).trans (hHeld.1)))), ((cell_far (p := ⟨gb180, _, none⟩) NB181_180.out _).trans (((cell_far (p := ⟨gb180, _, none⟩) NB181_180.out _).trans (hHeld.2))))⟩ (fun hHeld => ?_)
        clear hK K
        refine pure_ (i := 5) (N := some 3) (v := ?_) (a' := ?_) #[true, true, true, true, true, true] rfl rfl (by kernel_rfl) (fun _ _ _ h => h) (Or.inl ⟨by rfl, ?_⟩) ?_ ?_
        rotate_left
        ·intro w'
         go_simp
         with_reducible rfl
        rotate_left
        ·simp only [Act.put, List.setIfInBounds_toArray, List.set_cons_zero, List.set_cons_succ, i64_w, i32_w]
         rfl
        refine done_ (by kernel_rfl) ?_
        try go_wp2
        refine bodyPost_ret (results_ct rfl _ _ gb180 36 #[.int .i64 t183, .slice Ao39 x182001_2.length co39] (0, 0) _ rfl (by (with_reducible repeat (first | refine blk_drewN ?_ _ | refine blk_drew ?_ | refine blk_alloc ?_ _)); refine blk_put (cs := #[.int .i64 t183, .slice none 0 0]) ?_ 1 _ rfl; (with_reducible repeat (first | refine blk_drewN ?_ _ | refine blk_drew ?_ | refine blk_alloc ?_ _)); refine blk_put (cs := #[.int .i64 0, .slice none 0 0]) ?_ 0 _ rfl; (with_reducible repeat (first | refine blk_drewN ?_ _ | refine blk_drew ?_ | refine blk_alloc ?_ _)); exact BK180.out) Try.underlying36 rfl (by kernel_rfl)) rfl ?_
        exact ⟨_, q_e, by (with_reducible repeat (first | apply Kd.R_alloc | apply Kd.R_drewN | apply Kd.R_drew)); exact Kd.R_mono (Kd.R_far (p := ⟨gb180, 1, none⟩) (Kd.R_far (p := ⟨gb180, 0, none⟩) (Kd.R_types HO_182001.out BK180.out (by decide)) (fun _ hk => hk.2) (.int .i64 t183)) (fun _ hk => hk.2) (.slice Ao39 x182001_2.length co39)) (fun _ hk => trivial), bq⟩
    ·rw [if_neg c13] at H
     exact absurd H (by simp)

/-! ### spec_UnpackContract: function 48 -/
def spec_UnpackContract.f (k : Nat) (l0 : List Int) : Option (Int × Int × (List (S89))) := (spec_l3Uncontract.f k l0).bind fun bt194 => (if bt194.2.2 = true then (some (0, bt194.1, bt194.2.1)) else (some (5, 0, ([] : List (S89)))))
set_option maxHeartbeats 8000000 in
set_option maxRecDepth 100000 in
theorem spec_UnpackContract.calls (k : Nat) (A0 : Option Addr) (c0 : Nat) (l0 : List Int) (r1 : Int) (r2 : Int) (r3 : List (S89)) (w : World) (hr0 : Kd.C (Kd.int .u8) w A0 l0.length l0) (hc0 : l0.length ≤ c0) (h : spec_UnpackContract.f k l0 = some (r1, r2, r3)) :
  Calls Try.prog 48 #[.slice A0 l0.length c0] w fun e w' => ∃ v2_ : Value, e = .returned (.agg #[.int .i64 r1, .int .i64 r2, v2_]) ∧ Kd.R k89 89 w' w.heap.size (fun _ => True) v2_ r3 ∧ Below w.heap.size w w' := by
 have hu59 := Try.underlying59
 have hu36 := Try.underlying36
 have HR0 := Aside0.mk hr0
 have HC0 := Aside0.mk hc0
 clear hr0 hc0
 have HB := Aside0.mk (Below.refl w.heap.size w)
 have H : ((spec_l3Uncontract.f k l0).bind fun bt194 => (if bt194.2.2 = true then (some (0, bt194.1, bt194.2.1)) else (some (5, 0, ([] : List (S89)))))) = some (r1, r2, r3) := h
 clear h
 replace H := Option.bind_eq_some_iff.mp H
 obtain ⟨⟨t194, t195, t198⟩, A20, H⟩ := H
 replace H : (if t198 = true then (some (0, t194, t195)) else (some (5, 0, ([] : List (S89))))) = some (r1, r2, r3) := H
 have A2 := Aside0.mk A20
 clear A20
 by_cases c3 : t198 = true
 ·subst c3
  have H1 : (some (0, t194, t195)) = some (r1, r2, r3) := by rw [if_pos rfl] at H; exact H
  clear H
  have H := H1
  clear H1
  simp only [Option.some.injEq, Prod.mk.injEq] at H
  obtain ⟨rfl, rfl, rfl⟩ := H
  go_enter Try.func48, Try.ntmps48
  go_wp2_with (first | ((with_reducible refine gate_dst (N := 2) rfl ?_); refine q_box (N := 2) (cs := #[.int .i64 0, .int .i64 0, .slice none 0 0]) (t := 59) ?_; intro gb193 hg w4 hbox hb; have n0_ := Aside0.mk (below_step bq hb); have n1_ := Aside0.mk (hbox); have n2_ := Aside0.mk ((q_g hg bq : w.heap.size ≤ gb193)); have n3_ := Aside0.mk ((q_g hg bq : w.heap.size ≤ gb193)); revert n0_ n1_ n2_ n3_; clear HB; intro HB BK193 GW193 GE193; clear hb hbox hg) | ((with_reducible refine gate_callee (f := 93) rfl ?_); refine goesLq (some 7) rfl rfl Try.func93 (by kernel_rfl) rfl #[.slice A0 l0.length c0] rfl ?_; (with_reducible refine (spec_l3Uncontract.calls k _ _ l0 t194 t195 true _ ?side1 ?side2 A2.out).mono ?_); (case side1 => exact q_c ((Kd.C_below HR0.out HB.out))); (case side2 => exact HC0.out); rintro e w5 ⟨v196, rfl, ho0, hb⟩; refine ⟨_, rfl, ?_⟩; have n0_ := Aside0.mk (Kd.R_lower ho0 (below_size bq)); have n1_ := Aside0.mk (blk_below (q_b BK193.out) hb); have n2_ := Aside0.mk (below_step bq hb); revert n0_ n1_ n2_; clear BK193 HB; intro HO197 BK193 HB; (try clear hb); (try clear hb2); (try clear hk); (try clear hi); (try clear ho0)) | ((with_reducible refine gate_dst (N := 3) rfl ?_); refine q_box (N := 3) (cs := #[.int .i64 0, .slice none 0 0]) (t := 36) ?_; intro gb199 hg w6 hbox hb; have n0_ := Aside0.mk (Kd.R_below (q_r (HO197.out)) hb); have n1_ := Aside0.mk (blk_below (q_b BK193.out) hb); have n2_ := Aside0.mk (below_step bq hb); have n3_ := Aside0.mk (hbox); have n4_ := Aside0.mk ((q_g hg bq : w.heap.size ≤ gb199)); have n5_ := Aside0.mk ((q_g hg bq : w.heap.size ≤ gb199)); have n6_ := Aside0.mk ((q_n hg (q_b BK193.out) : gb193 ≠ gb199)); have n7_ := Aside0.mk ((q_m hg (q_b BK193.out) : gb199 ≠ gb193)); revert n0_ n1_ n2_ n3_ n4_ n5_ n6_ n7_; clear HO197 BK193 HB; intro HO197 BK193 HB BK199 GW199 GE199 NB193_199 NB199_193; clear hb hbox hg; have hnb7 := NB199_193.out; have hnc7 := NB193_199.out; obtain ⟨hcz8_0, hcz8_1, hfz8_0, hfz8_1⟩ := q_2 BK199.out; obtain ⟨Ao9, co9, eo9⟩ := Kd.R_slice HO197.out; subst eo9; obtain ⟨hcz10_0, hcz10_1, hcz10_2, hfz10_0, hfz10_1, hfz10_2⟩ := q_3 BK193.out))
  refine bodyPost_ret (results_cell_row rfl _ _ gb193 59 #[.int .i64 0, .int .i64 t194, .slice Ao9 t195.length co9] (0, 0) _ rfl (by (with_reducible repeat (first | refine blk_drewN ?_ _ | refine blk_drew ?_ | refine blk_alloc ?_ _)); refine blk_put (cs := #[.int .i64 0, .int .i64 t194, .slice none 0 0]) ?_ 2 _ rfl; (with_reducible repeat (first | refine blk_drewN ?_ _ | refine blk_drew ?_ | refine blk_alloc ?_ _)); refine blk_put (cs := #[.int .i64 0, .int .i64 0, .slice none 0 0]) ?_ 1 _ rfl; (with_reducible repeat (first | refine blk_drewN ?_ _ | refine blk_drew ?_ | refine blk_alloc ?_ _)); refine blk_put (cs := #[.int .i64 0, .int .i64 0, .slice none 0 0]) ?_ 0 _ rfl; (with_reducible repeat (first | refine blk_drewN ?_ _ | refine blk_drew ?_ | refine blk_alloc ?_ _)); refine blk_far ?_ NB193_199.out _; (with_reducible repeat (first | refine blk_drewN ?_ _ | refine blk_drew ?_ | refine blk_alloc ?_ _)); refine blk_far ?_ NB193_199.out _; (with_reducible repeat (first | refine blk_drewN ?_ _ | refine blk_drew ?_ | refine blk_alloc ?_ _)); exact BK193.out) Try.underlying59 rfl (by kernel_rfl)) rfl ?_
  exact ⟨_, q_e, by (with_reducible repeat (first | apply Kd.R_alloc | apply Kd.R_drewN | apply Kd.R_drew)); exact Kd.R_mono (Kd.R_far (p := ⟨gb193, 2, none⟩) (Kd.R_far (p := ⟨gb193, 1, none⟩) (Kd.R_far (p := ⟨gb193, 0, none⟩) (Kd.R_far (p := ⟨gb199, 1, none⟩) (Kd.R_far (p := ⟨gb199, 0, none⟩) (Kd.R_types (Kd.R_types HO197.out BK199.out (by decide)) BK193.out (by decide)) (fun _ hk => hk.1.2) (.int .i64 t194)) (fun _ hk => hk.1.2) (.slice Ao9 t195.length co9)) (fun _ hk => hk.2) (.int .i64 0)) (fun _ hk => hk.2) (.int .i64 t194)) (fun _ hk => hk.2) (.slice Ao9 t195.length co9)) (fun _ hk => trivial), bq⟩
 ·replace c3 := Bool.eq_false_iff.mpr c3
  subst c3
  have H1 : (some (5, 0, ([] : List (S89)))) = some (r1, r2, r3) := by rw [if_neg (show ¬ (false = true) by decide)] at H; exact H
  clear H
  have H := H1
  clear H1
  simp only [Option.some.injEq, Prod.mk.injEq] at H
  obtain ⟨rfl, rfl, rfl⟩ := H
  go_enter Try.func48, Try.ntmps48
  go_wp2_with (first | ((with_reducible refine gate_dst (N := 2) rfl ?_); refine q_box (N := 2) (cs := #[.int .i64 0, .int .i64 0, .slice none 0 0]) (t := 59) ?_; intro gb193 hg w11 hbox hb; have n0_ := Aside0.mk (below_step bq hb); have n1_ := Aside0.mk (hbox); have n2_ := Aside0.mk ((q_g hg bq : w.heap.size ≤ gb193)); have n3_ := Aside0.mk ((q_g hg bq : w.heap.size ≤ gb193)); revert n0_ n1_ n2_ n3_; clear HB; intro HB BK193 GW193 GE193; clear hb hbox hg) | ((with_reducible refine gate_callee (f := 93) rfl ?_); refine goesLq (some 7) rfl rfl Try.func93 (by kernel_rfl) rfl #[.slice A0 l0.length c0] rfl ?_; (with_reducible refine (spec_l3Uncontract.calls k _ _ l0 t194 t195 false _ ?side1 ?side2 A2.out).mono ?_); (case side1 => exact q_c ((Kd.C_below HR0.out HB.out))); (case side2 => exact HC0.out); rintro e w12 ⟨v196, rfl, ho0, hb⟩; refine ⟨_, rfl, ?_⟩; have n0_ := Aside0.mk (Kd.R_lower ho0 (below_size bq)); have n1_ := Aside0.mk (blk_below (q_b BK193.out) hb); have n2_ := Aside0.mk (below_step bq hb); revert n0_ n1_ n2_; clear BK193 HB; intro HO197 BK193 HB; (try clear hb); (try clear hb2); (try clear hk); (try clear hi); (try clear ho0)) | ((with_reducible refine gate_dst (N := 3) rfl ?_); refine q_box (N := 3) (cs := #[.int .i64 0, .slice none 0 0]) (t := 36) ?_; intro gb199 hg w13 hbox hb; have n0_ := Aside0.mk (Kd.R_below (q_r (HO197.out)) hb); have n1_ := Aside0.mk (blk_below (q_b BK193.out) hb); have n2_ := Aside0.mk (below_step bq hb); have n3_ := Aside0.mk (hbox); have n4_ := Aside0.mk ((q_g hg bq : w.heap.size ≤ gb199)); have n5_ := Aside0.mk ((q_g hg bq : w.heap.size ≤ gb199)); have n6_ := Aside0.mk ((q_n hg (q_b BK193.out) : gb193 ≠ gb199)); have n7_ := Aside0.mk ((q_m hg (q_b BK193.out) : gb199 ≠ gb193)); revert n0_ n1_ n2_ n3_ n4_ n5_ n6_ n7_; clear HO197 BK193 HB; intro HO197 BK193 HB BK199 GW199 GE199 NB193_199 NB199_193; clear hb hbox hg; have hnb14 := NB199_193.out; have hnc14 := NB193_199.out; obtain ⟨hcz15_0, hcz15_1, hfz15_0, hfz15_1⟩ := q_2 BK199.out; obtain ⟨Ao16, co16, eo16⟩ := Kd.R_slice HO197.out; subst eo16; obtain ⟨hcz17_0, hcz17_1, hcz17_2, hfz17_0, hfz17_1, hfz17_2⟩ := q_3 BK193.out))
  refine bodyPost_ret (results_cell_row rfl _ _ gb193 59 #[.int .i64 5, .int .i64 0, .slice none 0 0] (0, 0) _ rfl (by (with_reducible repeat (first | refine blk_drewN ?_ _ | refine blk_drew ?_ | refine blk_alloc ?_ _)); refine blk_put (cs := #[.int .i64 5, .int .i64 0, .slice none 0 0]) ?_ 2 _ rfl; (with_reducible repeat (first | refine blk_drewN ?_ _ | refine blk_drew ?_ | refine blk_alloc ?_ _)); refine blk_put (cs := #[.int .i64 5, .int .i64 0, .slice none 0 0]) ?_ 1 _ rfl; (with_reducible repeat (first | refine blk_drewN ?_ _ | refine blk_drew ?_ | refine blk_alloc ?_ _)); refine blk_put (cs := #[.int .i64 0, .int .i64 0, .slice none 0 0]) ?_ 0 _ rfl; (with_reducible repeat (first | refine blk_drewN ?_ _ | refine blk_drew ?_ | refine blk_alloc ?_ _)); refine blk_far ?_ NB193_199.out _; (with_reducible repeat (first | refine blk_drewN ?_ _ | refine blk_drew ?_ | refine blk_alloc ?_ _)); refine blk_far ?_ NB193_199.out _; (with_reducible repeat (first | refine blk_drewN ?_ _ | refine blk_drew ?_ | refine blk_alloc ?_ _)); exact BK193.out) Try.underlying59 rfl (by kernel_rfl)) rfl ?_
  exact ⟨_, q_e, by first | exact Kd.R_nil _ _ _ _ _ | exact Kd.N_nil _ _ _ _ _ | exact Kd.V_nil _ _ _ _ _ | exact Kd.Q_nil _ _ _ _ _ | exact Kd.S_nil _ _ _ _ _, bq⟩

end Go.Proofs.Ytooiamkaipdmpaa.PFnBytes
