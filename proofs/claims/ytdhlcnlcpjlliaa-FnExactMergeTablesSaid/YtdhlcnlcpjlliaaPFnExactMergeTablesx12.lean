/- Functions that a law reaches, as plain Lean functions, with the proof that the machine comes to their answers. No conditions. -/
import Derived.Test.YtdhlcnlcpjlliaaPFnExactMergeTablesx0
import Derived.Test.YtdhlcnlcpjlliaaPFnExactMergeTablesx10
namespace Go.Proofs.Ytdhlcnlcpjlliaa.PFnExactMergeTables
open Go.RowKit Go.Proofs.YtdhlcnlcpjlliaaW.PrintWords Go.Proofs.YtdhlcnlcpjlliaaW.PrintLast Go.Proofs.YtdhlcnlcpjlliaaW.PrintMore
attribute [local go_sem] max2_int min2_int max_two min_two max_three min_three max_four min_four   -- for this text's walks alone
set_option linter.unusedVariables false
set_option linter.unusedSimpArgs false
set_option maxHeartbeats 8000000
set_option maxRecDepth 100000

/-! ### spec_l5Put: function 115 -/
def spec_l5Put.l0 : Nat → List (S49) → Int → ByteArray → Int → ByteArray → Bool → Option ((List (S49)))
  | 0, _, _, _, _, _, _ => none
  | k + 1, x0, x5, x244000, x244001, x244002, x244003 => if x5 < (x0.length : Int) then (if 0 ≤ x5 then ((spec_l5Ahead.f ((rd_T49 x0 x5).f0) ((rd_T49 x0 x5).f1) ((rd_T49 x0 x5).f2) ((rd_T49 x0 x5).f3) x244000 x244001 x244002 x244003).bind fun t245 => (if t245 = true then (spec_l5Put.l0 k x0 (wrap64 (x5 + 1)) x244000 x244001 x244002 x244003) else ((spec_l5Ahead.f x244000 x244001 x244002 x244003 ((rd_T49 x0 x5).f0) ((rd_T49 x0 x5).f1) ((rd_T49 x0 x5).f2) ((rd_T49 x0 x5).f3)).bind fun t247 => (if t247 = true then ((some (([] : List (S49)) : List (S49))).bind fun y248 => (if x5 ≤ (x0.length : Int) then ((some (x0.take (x5 : Int).toNat : List (S49))).bind fun y251 => (if y248.length + y251.length < 2932031007402 then ((some (y248 ++ y251 : List (S49))).bind fun y256 => ((some (([(⟨x244000, x244001, x244002, x244003⟩ : S49)] : List (S49)) : List (S49))).bind fun y259 => (if y256.length + y259.length < 2932031007402 then ((some (y256 ++ y259 : List (S49))).bind fun y262 => ((some (x0.drop (x5 : Int).toNat : List (S49))).bind fun y265 => (if y262.length + y265.length < 2932031007402 then (some (y262 ++ y265)) else (none)))) else (none)))) else (none))) else (none))) else (some x0))))) else (none)) else ((some (([] : List (S49)) : List (S49))).bind fun y273 => (if 0 ≤ x5 then (if x5 ≤ (x0.length : Int) then ((some (x0.take (x5 : Int).toNat : List (S49))).bind fun y276 => (if y273.length + y276.length < 2932031007402 then ((some (y273 ++ y276 : List (S49))).bind fun y281 => ((some (([(⟨x244000, x244001, x244002, x244003⟩ : S49)] : List (S49)) : List (S49))).bind fun y284 => (if y281.length + y284.length < 2932031007402 then ((some (y281 ++ y284 : List (S49))).bind fun y287 => ((some (x0.drop (x5 : Int).toNat : List (S49))).bind fun y290 => (if y287.length + y290.length < 2932031007402 then (some (y287 ++ y290)) else (none)))) else (none)))) else (none))) else (none)) else (none)))
def spec_l5Put.f (k : Nat) (l0 : List (S49)) (a1_0 : ByteArray) (a1_1 : Int) (a1_2 : ByteArray) (a1_3 : Bool) : Option ((List (S49))) := spec_l5Put.l0 k l0 0 a1_0 a1_1 a1_2 a1_3
def spec_l5Put.T2 : Bool × List (List Nat × List Nat) := (true, [([], []), ([], []), ([1], [1]), ([0, 2], [0, 2]), ([3], [3]), ([4], [4]), ([4], [4]), ([5, 6, 4], [4, 5, 6]), ([7, 4], [4, 7]), ([4], [4]), ([8, 9, 4, 4], [4, 8, 9]), ([4, 10], [4, 10])])
def spec_l5Put.B2 : List Nat := [0, 0, 2, 7, 15, 31, 31, 127, 255, 31, 1023, 2047]
theorem spec_l5Put.tab2 : rtab .any (opsOf Try.f115 2) = spec_l5Put.T2 := by kernel_rfl
theorem spec_l5Put.bits2 : waitsOk spec_l5Put.T2.2 spec_l5Put.B2 = true := by kernel_rfl
def spec_l5Put.T4 : Bool × List (List Nat × List Nat) := (true, [([], []), ([], []), ([1], [1]), ([0, 2], [0, 2]), ([3], [3]), ([4], [4]), ([4], [4]), ([4], [4]), ([6, 7, 4], [4, 6, 7]), ([8, 4], [4, 8]), ([5, 9, 4, 4], [4, 5, 9]), ([10, 4], [4, 10]), ([4, 11], [4, 11])])
def spec_l5Put.B4 : List Nat := [0, 0, 2, 7, 15, 31, 31, 31, 223, 479, 1023, 2047, 4095]
theorem spec_l5Put.tab4 : rtab .any (opsOf Try.f115 4) = spec_l5Put.T4 := by kernel_rfl
theorem spec_l5Put.bits4 : waitsOk spec_l5Put.T4.2 spec_l5Put.B4 = true := by kernel_rfl
def spec_l5Put.T6 : Bool × List (List Nat × List Nat) := (true, [([], []), ([], []), ([], []), ([1, 2], [1, 2]), ([0, 3], [0, 3]), ([], []), ([5], [5]), ([4, 6, 4], [4, 6]), ([], []), ([], []), ([8, 9], [8, 9]), ([7, 10, 7], [7, 10]), ([11, 11, 0, 1, 2, 3, 4, 5, 6, 7, 8, 9, 10, 11], [11])])
def spec_l5Put.B6 : List Nat := [0, 0, 0, 6, 15, 0, 32, 127, 0, 0, 768, 2047, 4095]
theorem spec_l5Put.tab6 : rtab .any (opsOf Try.f115 6) = spec_l5Put.T6 := by kernel_rfl
theorem spec_l5Put.bits6 : waitsOk spec_l5Put.T6.2 spec_l5Put.B6 = true := by kernel_rfl
theorem spec_l5Put.calls (k : Nat) (P0_ : Nat → Prop) (A0 : Option Addr) (c0 : Nat) (l0 : List (S49)) (a1_0 : ByteArray) (a1_1 : Int) (a1_2 : ByteArray) (a1_3 : Bool) (r : List (S49)) (w : World) (hs0 : Kd.V k49 49 w w.heap.size (fun k_ => P0_ k_) (.slice A0 l0.length c0) l0) (h : spec_l5Put.f k l0 a1_0 a1_1 a1_2 a1_3 = some r) :
  Calls Try.prog 115 #[.slice A0 l0.length c0, .agg #[.string a1_0, .int .i64 a1_1, .string a1_2, .bool a1_3]] w fun e w' => ∃ v0_ : Value, e = .returned (v0_) ∧ Kd.V k49 49 w' w.heap.size (fun k_ => (P0_ k_ ∨ w.heap.size ≤ k_)) v0_ r ∧ Below w.heap.size w w' := by
 have hu49 := Try.underlying49
 have HO0 := am (show Kd.V k49 49 w w.heap.size (fun k_ => (P0_ k_ ∨ w.heap.size ≤ k_)) (.slice A0 l0.length c0) l0 from Kd.V_mono hs0 (fun k_ hk => .inl hk))
 have HB := am (Below.refl w.heap.size w)
 have H : (spec_l5Put.l0 k l0 0 a1_0 a1_1 a1_2 a1_3) = some r := h
 clear h
 have H' := am H
 clear H
 go_enter Try.func115, Try.ntmps115
 go_wp2_with (first | ((with_reducible refine gate_dst (N := 3) rfl ?_); refine q_box (N := 3) (cs := #[.string a1_0, .int .i64 a1_1, .string a1_2, .bool a1_3]) (t := 49) ?_; intro gb243 hg w3 hbox hb; have n0_ := am (Kd.V_below (Kd.V_elderB (q_v (HO0.out)) gb243 (Nat.le_of_eq hg.symm)) hb); have n1_ := am (below_step bq hb); have n2_ := am (hbox); have n3_ := am ((q_g hg bq : w.heap.size ≤ gb243)); have n4_ := n3_; revert n0_ n1_ n2_ n3_ n4_; clear HO0 HB; intro HO0 HB BK243 GW243 GE243; clear hb hbox hg))
 go_loopg [5] k (fun kq v5 w' => ∃ (x5_1 : Int), v5 = .int .i64 x5_1 ∧ Aside0 (spec_l5Put.l0 kq l0 x5_1 a1_0 a1_1 a1_2 a1_3 = some r) ∧ Aside0 (kq ≤ k) ∧ Aside0 (Kd.V k49 49 w' w.heap.size (fun k_ => (P0_ k_ ∨ w.heap.size ≤ k_) ∧ k_ ≠ gb243) (.slice A0 l0.length c0) l0) ∧ Aside0 (w'.heap[gb243]? = some (.cells #[.string a1_0, .int .i64 a1_1, .string a1_2, .bool a1_3] 49 (0, 0))) ∧ Aside0 (Below w.heap.size w w'))
 case atStart => exact ⟨(0), q_i, H', ⟨Nat.le_refl _⟩, ⟨q_v (HO0.out)⟩, ⟨q_b BK243.out⟩, ⟨bq⟩⟩
 case round =>
  clear H'
  (try clear c1); (try clear p2)
  obtain ⟨x5_1, rfl, HA, HK1, HO_0, BK243, HB⟩ := hrel
  cases gk with
  | zero => exact absurd HA.out (by simp [spec_l5Put.l0])
  | succ k1 =>
   have H := HA.out
   clear HA
   simp only [spec_l5Put.l0] at H
   by_cases c4 : x5_1 < (l0.length : Int)
   ·rw [if_pos c4] at H
    have c4b0 := decide_eq_true c4
    clear c4
    by_cases c5 : 0 ≤ x5_1
    ·rw [if_pos c5] at H
     have c5b0 := decide_eq_true c5
     clear c5
     replace H := ob H
     obtain ⟨t245, A60, H⟩ := H
     replace H : (if t245 = true then (spec_l5Put.l0 k1 l0 (wrap64 (x5_1 + 1)) a1_0 a1_1 a1_2 a1_3) else ((spec_l5Ahead.f a1_0 a1_1 a1_2 a1_3 ((rd_T49 l0 x5_1).f0) ((rd_T49 l0 x5_1).f1) ((rd_T49 l0 x5_1).f2) ((rd_T49 l0 x5_1).f3)).bind fun t247 => (if t247 = true then ((some (([] : List (S49)) : List (S49))).bind fun y248 => (if x5_1 ≤ (l0.length : Int) then ((some (l0.take (x5_1 : Int).toNat : List (S49))).bind fun y251 => (if y248.length + y251.length < 2932031007402 then ((some (y248 ++ y251 : List (S49))).bind fun y256 => ((some (([(⟨a1_0, a1_1, a1_2, a1_3⟩ : S49)] : List (S49)) : List (S49))).bind fun y259 => (if y256.length + y259.length < 2932031007402 then ((some (y256 ++ y259 : List (S49))).bind fun y262 => ((some (l0.drop (x5_1 : Int).toNat : List (S49))).bind fun y265 => (if y262.length + y265.length < 2932031007402 then (some (y262 ++ y265)) else (none)))) else (none)))) else (none))) else (none))) else (some l0)))) = some r := H
     have A6 := am A60
     clear A60
     by_cases c7 : t245 = true
     ·subst c7
      have H1 : (spec_l5Put.l0 k1 l0 (wrap64 (x5_1 + 1)) a1_0 a1_1 a1_2 a1_3) = some r := by rw [if_pos rfl] at H; exact H
      clear H
      have H := H1
      clear H1
      have H' := am H
      clear H
      try go_wp2
      have n0_ := am (Kd.V_drew HO_0.out)
      have n1_ := am (blk_drew BK243.out)
      have n2_ := am (below_drew1 HB.out)
      clear HO_0
      clear BK243
      clear HB
      have HO_0 := n0_
      have BK243 := n1_
      have HB := n2_
      clear n0_ n1_ n2_
      have p244 : 0 ≤ (x5_1 : Int) := q_d
      have q244 : x5_1 < (l0.length : Int) := q_d
      obtain ⟨ad244, e244, hx244_0, hx244_1, hx244_2, hx244_3⟩ := at_T49 (Kd.V_reads' HO_0.out).2.2 x5_1 p244 q244
      cases e244
      replace p244 := eq_true p244
      replace q244 := eq_true q244
      refine start_ (n := 12) (S := fun w' => w'.cell? ⟨gb243, 0, none⟩ = some (.string a1_0) ∧ w'.cell? ⟨gb243, 1, none⟩ = some (.int .i64 a1_1) ∧ w'.cell? ⟨gb243, 2, none⟩ = some (.string a1_2) ∧ w'.cell? ⟨gb243, 3, none⟩ = some (.bool a1_3) ∧ w'.cell? (ad244.add ((x5_1).toNat * 4)) = some (.string ((rd_T49 l0 x5_1).f0)) ∧ w'.cell? ⟨(ad244.add ((x5_1).toNat * 4)).block, (ad244.add ((x5_1).toNat * 4)).off + 1, none⟩ = some (.int .i64 ((rd_T49 l0 x5_1).f1)) ∧ w'.cell? ⟨(ad244.add ((x5_1).toNat * 4)).block, (ad244.add ((x5_1).toNat * 4)).off + 2, none⟩ = some (.string ((rd_T49 l0 x5_1).f2)) ∧ w'.cell? ⟨(ad244.add ((x5_1).toNat * 4)).block, (ad244.add ((x5_1).toNat * 4)).off + 3, none⟩ = some (.bool ((rd_T49 l0 x5_1).f3))) (ds := []) #[false, false, false, false, false, false, false, false, false, false, false, false] (by kernel_rfl) rfl rfl ⟨q_z BK243.out 0, q_z BK243.out 1, q_z BK243.out 2, q_z BK243.out 3, hx244_0, hx244_1, hx244_2, hx244_3⟩ (fun hHeld => ?_); refine with_tabW spec_l5Put.tab2 spec_l5Put.bits2 (fun HT_ HW_ => ?_)
      generalize wr.drew = w8 at HO_0 BK243 HB hx244_0 hx244_1 hx244_2 hx244_3 hHeld ⊢
      refine q_p 0 (some 6) #[true, false, false, false, false, false, false, false, false, false, false, false] HT_.out ?_
      refine q_p 1 (some 7) #[true, true, false, false, false, false, false, false, false, false, false, false] HT_.out ?_
      refine q_p 2 (some 8) #[true, true, true, false, false, false, false, false, false, false, false, false] HT_.out ?_
      refine q_p 3 (some 9) #[true, true, true, true, false, false, false, false, false, false, false, false] HT_.out ?_
      refine q_p 4 (some 10) #[true, true, true, true, true, false, false, false, false, false, false, false] HT_.out ?_
      refine q_p 5 (some 11) #[true, true, true, true, true, true, false, false, false, false, false, false] HT_.out ?_
      refine q_p 6 (some 12) #[true, true, true, true, true, true, true, false, false, false, false, false] HT_.out ?_
      refine q_p 7 (some 13) #[true, true, true, true, true, true, true, true, false, false, false, false] HT_.out ?_
      refine q_t 8 (some 14) #[true, true, true, true, true, true, true, true, true, false, false, false] HT_.out HW_.out hHeld ?_
      refine q_t 9 (some 15) #[true, true, true, true, true, true, true, true, true, true, false, false] HT_.out HW_.out hHeld ?_
      refine one_ (i := 10) (N := some 16) #[true, true, true, true, true, true, true, true, true, true, true, false] rfl rfl (one_of HT_.out (by kernel_rfl)) (by decide) (fun K hK => ?_)
      refine goes_ Try.func64 (by kernel_rfl) rfl #[.agg #[.string ((rd_T49 l0 x5_1).f0), .int .i64 ((rd_T49 l0 x5_1).f1), .string ((rd_T49 l0 x5_1).f2), .bool ((rd_T49 l0 x5_1).f3)], .agg #[.string a1_0, .int .i64 a1_1, .string a1_2, .bool a1_3]] (by rfl) rfl rfl (by (try simp only [List.map_toArray, List.map_cons, List.map_nil]); first | done | rfl | (simp only [List.length_drop, List.length_take]; rfl)) ?_
      with_reducible refine (spec_l5Ahead.calls ((rd_T49 l0 x5_1).f0) ((rd_T49 l0 x5_1).f1) ((rd_T49 l0 x5_1).f2) ((rd_T49 l0 x5_1).f3) a1_0 a1_1 a1_2 a1_3 true _ A6.out).mono ?_
      rintro e w9 ⟨rfl, hb⟩
      have HS4_ := (hb.cell (wb (hHeld.2.2.2.2.1))).trans (hHeld.2.2.2.2.1)
      have HS5_ := (hb.cell (wb (hHeld.2.2.2.2.2.1))).trans (hHeld.2.2.2.2.2.1)
      have HS6_ := (hb.cell (wb (hHeld.2.2.2.2.2.2.1))).trans (hHeld.2.2.2.2.2.2.1)
      have HS7_ := (hb.cell (wb (hHeld.2.2.2.2.2.2.2))).trans (hHeld.2.2.2.2.2.2.2)
      refine ⟨_, rfl, ?_⟩
      have n0_ := am (Kd.V_below (q_v (HO_0.out)) hb)
      have n1_ := am (blk_below (q_b BK243.out) hb)
      have n2_ := am (below_step bq hb)
      clear HO_0
      clear BK243
      clear HB
      have HO_0 := n0_
      have BK243 := n1_
      have HB := n2_
      clear n0_ n1_ n2_
      (try clear hb)
      (try clear hb2)
      (try clear hk)
      (try clear hi)
      refine hK.out _ _ ⟨q_z BK243.out 0, q_z BK243.out 1, q_z BK243.out 2, q_z BK243.out 3, HS4_, HS5_, HS6_, HS7_⟩ (fun hHeld => ?_)
      clear hK K
      refine norm_ (a' := ?_) ?_ ?_
      rotate_left
      ·show Act.put _ (some 16) _ = _
       simp only [Act.put, List.setIfInBounds_toArray, List.set_cons_zero, List.set_cons_succ, i64_w, i32_w]
       rfl
      refine q_p 11 (some 17) #[true, true, true, true, true, true, true, true, true, true, true, true] HT_.out ?_
      refine done_ (done_of HT_.out (by kernel_rfl)) ?_
      try go_wp2
      go_roundg k1
      case measure => have := HK1.out; omega
      case rel => exact ⟨(wrap64 (x5_1 + 1)), q_i, H', ⟨by have := HK1.out; omega⟩, ⟨q_v (HO_0.out)⟩, ⟨q_b BK243.out⟩, ⟨bq⟩⟩
     ·replace c7 := Bool.eq_false_iff.mpr c7
      subst c7
      have H1 : ((spec_l5Ahead.f a1_0 a1_1 a1_2 a1_3 ((rd_T49 l0 x5_1).f0) ((rd_T49 l0 x5_1).f1) ((rd_T49 l0 x5_1).f2) ((rd_T49 l0 x5_1).f3)).bind fun t247 => (if t247 = true then ((some (([] : List (S49)) : List (S49))).bind fun y248 => (if x5_1 ≤ (l0.length : Int) then ((some (l0.take (x5_1 : Int).toNat : List (S49))).bind fun y251 => (if y248.length + y251.length < 2932031007402 then ((some (y248 ++ y251 : List (S49))).bind fun y256 => ((some (([(⟨a1_0, a1_1, a1_2, a1_3⟩ : S49)] : List (S49)) : List (S49))).bind fun y259 => (if y256.length + y259.length < 2932031007402 then ((some (y256 ++ y259 : List (S49))).bind fun y262 => ((some (l0.drop (x5_1 : Int).toNat : List (S49))).bind fun y265 => (if y262.length + y265.length < 2932031007402 then (some (y262 ++ y265)) else (none)))) else (none)))) else (none))) else (none))) else (some l0))) = some r := by rw [if_neg (show ¬ (false = true) by decide)] at H; exact H
      clear H
      have H := H1
      clear H1
      replace H := ob H
      obtain ⟨t247, A100, H⟩ := H
      replace H : (if t247 = true then ((some (([] : List (S49)) : List (S49))).bind fun y248 => (if x5_1 ≤ (l0.length : Int) then ((some (l0.take (x5_1 : Int).toNat : List (S49))).bind fun y251 => (if y248.length + y251.length < 2932031007402 then ((some (y248 ++ y251 : List (S49))).bind fun y256 => ((some (([(⟨a1_0, a1_1, a1_2, a1_3⟩ : S49)] : List (S49)) : List (S49))).bind fun y259 => (if y256.length + y259.length < 2932031007402 then ((some (y256 ++ y259 : List (S49))).bind fun y262 => ((some (l0.drop (x5_1 : Int).toNat : List (S49))).bind fun y265 => (if y262.length + y265.length < 2932031007402 then (some (y262 ++ y265)) else (none)))) else (none)))) else (none))) else (none))) else (some l0)) = some r := H
      have A10 := am A100
      clear A100
      by_cases c11 : t247 = true
      ·subst c11
       have H1 : ((some (([] : List (S49)) : List (S49))).bind fun y248 => (if x5_1 ≤ (l0.length : Int) then ((some (l0.take (x5_1 : Int).toNat : List (S49))).bind fun y251 => (if y248.length + y251.length < 2932031007402 then ((some (y248 ++ y251 : List (S49))).bind fun y256 => ((some (([(⟨a1_0, a1_1, a1_2, a1_3⟩ : S49)] : List (S49)) : List (S49))).bind fun y259 => (if y256.length + y259.length < 2932031007402 then ((some (y256 ++ y259 : List (S49))).bind fun y262 => ((some (l0.drop (x5_1 : Int).toNat : List (S49))).bind fun y265 => (if y262.length + y265.length < 2932031007402 then (some (y262 ++ y265)) else (none)))) else (none)))) else (none))) else (none))) = some r := by rw [if_pos rfl] at H; exact H
       clear H
       have H := H1
       clear H1
       obtain ⟨y248, hy248⟩ : ∃ y_ : List (S49), y_ = (([] : List (S49))) := ⟨_, rfl⟩
       replace H : (if x5_1 ≤ (l0.length : Int) then ((some (l0.take (x5_1 : Int).toNat : List (S49))).bind fun y251 => (if y248.length + y251.length < 2932031007402 then ((some (y248 ++ y251 : List (S49))).bind fun y256 => ((some (([(⟨a1_0, a1_1, a1_2, a1_3⟩ : S49)] : List (S49)) : List (S49))).bind fun y259 => (if y256.length + y259.length < 2932031007402 then ((some (y256 ++ y259 : List (S49))).bind fun y262 => ((some (l0.drop (x5_1 : Int).toNat : List (S49))).bind fun y265 => (if y262.length + y265.length < 2932031007402 then (some (y262 ++ y265)) else (none)))) else (none)))) else (none))) else (none)) = some r := q_h hy248 H
       have Ny248 := am hy248
       clear hy248
       have c12b0 := eq_true (q_d : 0 ≤ x5_1)
       by_cases c13 : x5_1 ≤ (l0.length : Int)
       ·rw [if_pos c13] at H
        have c13b0 := eq_true c13
        have c13b1 := decide_eq_true c13
        clear c13
        obtain ⟨y251, hy251⟩ : ∃ y_ : List (S49), y_ = (l0.take (x5_1 : Int).toNat) := ⟨_, rfl⟩
        replace H : (if y248.length + y251.length < 2932031007402 then ((some (y248 ++ y251 : List (S49))).bind fun y256 => ((some (([(⟨a1_0, a1_1, a1_2, a1_3⟩ : S49)] : List (S49)) : List (S49))).bind fun y259 => (if y256.length + y259.length < 2932031007402 then ((some (y256 ++ y259 : List (S49))).bind fun y262 => ((some (l0.drop (x5_1 : Int).toNat : List (S49))).bind fun y265 => (if y262.length + y265.length < 2932031007402 then (some (y262 ++ y265)) else (none)))) else (none)))) else (none)) = some r := q_h hy251 H
        have Ny251 := am hy251
        clear hy251
        by_cases c14 : y248.length + y251.length < 2932031007402
        ·rw [if_pos c14] at H
         have LMc14 := am c14
         clear c14
         obtain ⟨y256, hy256⟩ : ∃ y_ : List (S49), y_ = (y248 ++ y251) := ⟨_, rfl⟩
         replace H : ((some (([(⟨a1_0, a1_1, a1_2, a1_3⟩ : S49)] : List (S49)) : List (S49))).bind fun y259 => (if y256.length + y259.length < 2932031007402 then ((some (y256 ++ y259 : List (S49))).bind fun y262 => ((some (l0.drop (x5_1 : Int).toNat : List (S49))).bind fun y265 => (if y262.length + y265.length < 2932031007402 then (some (y262 ++ y265)) else (none)))) else (none))) = some r := q_h hy256 H
         have Ny256 := am hy256
         clear hy256
         obtain ⟨y259, hy259⟩ : ∃ y_ : List (S49), y_ = (([(⟨a1_0, a1_1, a1_2, a1_3⟩ : S49)] : List (S49))) := ⟨_, rfl⟩
         replace H : (if y256.length + y259.length < 2932031007402 then ((some (y256 ++ y259 : List (S49))).bind fun y262 => ((some (l0.drop (x5_1 : Int).toNat : List (S49))).bind fun y265 => (if y262.length + y265.length < 2932031007402 then (some (y262 ++ y265)) else (none)))) else (none)) = some r := q_h hy259 H
         have Ny259 := am hy259
         clear hy259
         by_cases c15 : y256.length + y259.length < 2932031007402
         ·rw [if_pos c15] at H
          have LMc15 := am c15
          clear c15
          obtain ⟨y262, hy262⟩ : ∃ y_ : List (S49), y_ = (y256 ++ y259) := ⟨_, rfl⟩
          replace H : ((some (l0.drop (x5_1 : Int).toNat : List (S49))).bind fun y265 => (if y262.length + y265.length < 2932031007402 then (some (y262 ++ y265)) else (none))) = some r := q_h hy262 H
          have Ny262 := am hy262
          clear hy262
          have c16b0 := eq_true (q_d : 0 ≤ x5_1)
          have c17b0 := eq_true (q_d : x5_1 ≤ (l0.length : Int))
          obtain ⟨y265, hy265⟩ : ∃ y_ : List (S49), y_ = (l0.drop (x5_1 : Int).toNat) := ⟨_, rfl⟩
          replace H : (if y262.length + y265.length < 2932031007402 then (some (y262 ++ y265)) else (none)) = some r := q_h hy265 H
          have Ny265 := am hy265
          clear hy265
          by_cases c18 : y262.length + y265.length < 2932031007402
          ·rw [if_pos c18] at H
           have LMc18 := am c18
           clear c18
           obtain ⟨y270, hy270⟩ : ∃ y_ : List (S49), y_ = (y262 ++ y265) := ⟨_, rfl⟩
           replace H : (some y270) = some r := q_h hy270 H
           have Ny270 := am hy270
           clear hy270
           obtain rfl := Option.some.inj H
           try go_wp2
           have n0_ := am (Kd.V_drew HO_0.out)
           have n1_ := am (blk_drew BK243.out)
           have n2_ := am (below_drew1 HB.out)
           clear HO_0
           clear BK243
           clear HB
           have HO_0 := n0_
           have BK243 := n1_
           have HB := n2_
           clear n0_ n1_ n2_
           have p244 : 0 ≤ (x5_1 : Int) := q_d
           have q244 : x5_1 < (l0.length : Int) := q_d
           obtain ⟨ad244, e244, hx244_0, hx244_1, hx244_2, hx244_3⟩ := at_T49 (Kd.V_reads' HO_0.out).2.2 x5_1 p244 q244
           cases e244
           replace p244 := eq_true p244
           replace q244 := eq_true q244
           refine start_ (n := 12) (S := fun w' => w'.cell? ⟨gb243, 0, none⟩ = some (.string a1_0) ∧ w'.cell? ⟨gb243, 1, none⟩ = some (.int .i64 a1_1) ∧ w'.cell? ⟨gb243, 2, none⟩ = some (.string a1_2) ∧ w'.cell? ⟨gb243, 3, none⟩ = some (.bool a1_3) ∧ w'.cell? (ad244.add ((x5_1).toNat * 4)) = some (.string ((rd_T49 l0 x5_1).f0)) ∧ w'.cell? ⟨(ad244.add ((x5_1).toNat * 4)).block, (ad244.add ((x5_1).toNat * 4)).off + 1, none⟩ = some (.int .i64 ((rd_T49 l0 x5_1).f1)) ∧ w'.cell? ⟨(ad244.add ((x5_1).toNat * 4)).block, (ad244.add ((x5_1).toNat * 4)).off + 2, none⟩ = some (.string ((rd_T49 l0 x5_1).f2)) ∧ w'.cell? ⟨(ad244.add ((x5_1).toNat * 4)).block, (ad244.add ((x5_1).toNat * 4)).off + 3, none⟩ = some (.bool ((rd_T49 l0 x5_1).f3))) (ds := []) #[false, false, false, false, false, false, false, false, false, false, false, false] (by kernel_rfl) rfl rfl ⟨q_z BK243.out 0, q_z BK243.out 1, q_z BK243.out 2, q_z BK243.out 3, hx244_0, hx244_1, hx244_2, hx244_3⟩ (fun hHeld => ?_); refine with_tabW spec_l5Put.tab2 spec_l5Put.bits2 (fun HT_ HW_ => ?_)
           generalize wr.drew = w19 at HO_0 BK243 HB hx244_0 hx244_1 hx244_2 hx244_3 hHeld ⊢
           refine q_p 0 (some 6) #[true, false, false, false, false, false, false, false, false, false, false, false] HT_.out ?_
           refine q_p 1 (some 7) #[true, true, false, false, false, false, false, false, false, false, false, false] HT_.out ?_
           refine q_p 2 (some 8) #[true, true, true, false, false, false, false, false, false, false, false, false] HT_.out ?_
           refine q_p 3 (some 9) #[true, true, true, true, false, false, false, false, false, false, false, false] HT_.out ?_
           refine q_p 4 (some 10) #[true, true, true, true, true, false, false, false, false, false, false, false] HT_.out ?_
           refine q_p 5 (some 11) #[true, true, true, true, true, true, false, false, false, false, false, false] HT_.out ?_
           refine q_p 6 (some 12) #[true, true, true, true, true, true, true, false, false, false, false, false] HT_.out ?_
           refine q_p 7 (some 13) #[true, true, true, true, true, true, true, true, false, false, false, false] HT_.out ?_
           refine q_t 8 (some 14) #[true, true, true, true, true, true, true, true, true, false, false, false] HT_.out HW_.out hHeld ?_
           refine q_t 9 (some 15) #[true, true, true, true, true, true, true, true, true, true, false, false] HT_.out HW_.out hHeld ?_
           refine one_ (i := 10) (N := some 16) #[true, true, true, true, true, true, true, true, true, true, true, false] rfl rfl (one_of HT_.out (by kernel_rfl)) (by decide) (fun K hK => ?_)
           refine goes_ Try.func64 (by kernel_rfl) rfl #[.agg #[.string ((rd_T49 l0 x5_1).f0), .int .i64 ((rd_T49 l0 x5_1).f1), .string ((rd_T49 l0 x5_1).f2), .bool ((rd_T49 l0 x5_1).f3)], .agg #[.string a1_0, .int .i64 a1_1, .string a1_2, .bool a1_3]] (by rfl) rfl rfl (by (try simp only [List.map_toArray, List.map_cons, List.map_nil]); first | done | rfl | (simp only [List.length_drop, List.length_take]; rfl)) ?_
           with_reducible refine (spec_l5Ahead.calls ((rd_T49 l0 x5_1).f0) ((rd_T49 l0 x5_1).f1) ((rd_T49 l0 x5_1).f2) ((rd_T49 l0 x5_1).f3) a1_0 a1_1 a1_2 a1_3 false _ A6.out).mono ?_
           rintro e w20 ⟨rfl, hb⟩
           have HS4_ := (hb.cell (wb (hHeld.2.2.2.2.1))).trans (hHeld.2.2.2.2.1)
           have HS5_ := (hb.cell (wb (hHeld.2.2.2.2.2.1))).trans (hHeld.2.2.2.2.2.1)
           have HS6_ := (hb.cell (wb (hHeld.2.2.2.2.2.2.1))).trans (hHeld.2.2.2.2.2.2.1)
           have HS7_ := (hb.cell (wb (hHeld.2.2.2.2.2.2.2))).trans (hHeld.2.2.2.2.2.2.2)
           refine ⟨_, rfl, ?_⟩
           have n0_ := am (Kd.V_below (q_v (HO_0.out)) hb)
           have n1_ := am (blk_below (q_b BK243.out) hb)
           have n2_ := am (below_step bq hb)
           clear HO_0
           clear BK243
           clear HB
           have HO_0 := n0_
           have BK243 := n1_
           have HB := n2_
           clear n0_ n1_ n2_
           (try clear hb)
           (try clear hb2)
           (try clear hk)
           (try clear hi)
           refine hK.out _ _ ⟨q_z BK243.out 0, q_z BK243.out 1, q_z BK243.out 2, q_z BK243.out 3, HS4_, HS5_, HS6_, HS7_⟩ (fun hHeld => ?_)
           clear hK K
           refine norm_ (a' := ?_) ?_ ?_
           rotate_left
           ·show Act.put _ (some 16) _ = _
            simp only [Act.put, List.setIfInBounds_toArray, List.set_cons_zero, List.set_cons_succ, i64_w, i32_w]
            rfl
           refine q_p 11 (some 17) #[true, true, true, true, true, true, true, true, true, true, true, true] HT_.out ?_
           refine done_ (done_of HT_.out (by kernel_rfl)) ?_
           try go_wp2
           have n0_ := am (Kd.V_drew HO_0.out)
           have n1_ := am (blk_drew BK243.out)
           have n2_ := am (below_drew1 HB.out)
           clear HO_0
           clear BK243
           clear HB
           have HO_0 := n0_
           have BK243 := n1_
           have HB := n2_
           clear n0_ n1_ n2_
           have p246 : 0 ≤ (x5_1 : Int) := q_d
           have q246 : x5_1 < (l0.length : Int) := q_d
           obtain ⟨ad246, e246, hx246_0, hx246_1, hx246_2, hx246_3⟩ := at_T49 (Kd.V_reads' HO_0.out).2.2 x5_1 p246 q246
           obtain rfl : ad244 = ad246 := (by injection e246)
           replace p246 := eq_true p246
           replace q246 := eq_true q246
           refine start_ (n := 13) (S := fun w' => w'.cell? ⟨gb243, 0, none⟩ = some (.string a1_0) ∧ w'.cell? ⟨gb243, 1, none⟩ = some (.int .i64 a1_1) ∧ w'.cell? ⟨gb243, 2, none⟩ = some (.string a1_2) ∧ w'.cell? ⟨gb243, 3, none⟩ = some (.bool a1_3) ∧ w'.cell? (ad244.add ((x5_1).toNat * 4)) = some (.string ((rd_T49 l0 x5_1).f0)) ∧ w'.cell? ⟨(ad244.add ((x5_1).toNat * 4)).block, (ad244.add ((x5_1).toNat * 4)).off + 1, none⟩ = some (.int .i64 ((rd_T49 l0 x5_1).f1)) ∧ w'.cell? ⟨(ad244.add ((x5_1).toNat * 4)).block, (ad244.add ((x5_1).toNat * 4)).off + 2, none⟩ = some (.string ((rd_T49 l0 x5_1).f2)) ∧ w'.cell? ⟨(ad244.add ((x5_1).toNat * 4)).block, (ad244.add ((x5_1).toNat * 4)).off + 3, none⟩ = some (.bool ((rd_T49 l0 x5_1).f3))) (ds := []) #[false, false, false, false, false, false, false, false, false, false, false, false, false] (by kernel_rfl) rfl rfl ⟨q_z BK243.out 0, q_z BK243.out 1, q_z BK243.out 2, q_z BK243.out 3, hx246_0, hx246_1, hx246_2, hx246_3⟩ (fun hHeld => ?_); refine with_tabW spec_l5Put.tab4 spec_l5Put.bits4 (fun HT_ HW_ => ?_)
           generalize w20.drew = w21 at HO_0 BK243 HB hx246_0 hx246_1 hx246_2 hx246_3 hHeld ⊢
           refine q_p 0 (some 20) #[true, false, false, false, false, false, false, false, false, false, false, false, false] HT_.out ?_
           refine q_p 1 (some 21) #[true, true, false, false, false, false, false, false, false, false, false, false, false] HT_.out ?_
           refine q_p 2 (some 22) #[true, true, true, false, false, false, false, false, false, false, false, false, false] HT_.out ?_
           refine q_p 3 (some 23) #[true, true, true, true, false, false, false, false, false, false, false, false, false] HT_.out ?_
           refine q_p 4 (some 24) #[true, true, true, true, true, false, false, false, false, false, false, false, false] HT_.out ?_
           refine q_p 6 (some 26) #[true, true, true, true, true, false, true, false, false, false, false, false, false] HT_.out ?_
           refine q_p 7 (some 27) #[true, true, true, true, true, false, true, true, false, false, false, false, false] HT_.out ?_
           refine q_p 8 (some 28) #[true, true, true, true, true, false, true, true, true, false, false, false, false] HT_.out ?_
           refine q_t 5 (some 25) #[true, true, true, true, true, true, true, true, true, false, false, false, false] HT_.out HW_.out hHeld ?_
           refine q_t 9 (some 29) #[true, true, true, true, true, true, true, true, true, true, false, false, false] HT_.out HW_.out hHeld ?_
           refine one_ (i := 10) (N := some 30) #[true, true, true, true, true, true, true, true, true, true, true, false, false] rfl rfl (one_of HT_.out (by kernel_rfl)) (by decide) (fun K hK => ?_)
           refine goes_ Try.func64 (by kernel_rfl) rfl #[.agg #[.string a1_0, .int .i64 a1_1, .string a1_2, .bool a1_3], .agg #[.string ((rd_T49 l0 x5_1).f0), .int .i64 ((rd_T49 l0 x5_1).f1), .string ((rd_T49 l0 x5_1).f2), .bool ((rd_T49 l0 x5_1).f3)]] (by rfl) rfl rfl (by (try simp only [List.map_toArray, List.map_cons, List.map_nil]); first | done | rfl | (simp only [List.length_drop, List.length_take]; rfl)) ?_
           with_reducible refine (spec_l5Ahead.calls a1_0 a1_1 a1_2 a1_3 ((rd_T49 l0 x5_1).f0) ((rd_T49 l0 x5_1).f1) ((rd_T49 l0 x5_1).f2) ((rd_T49 l0 x5_1).f3) true _ A10.out).mono ?_
           rintro e w22 ⟨rfl, hb⟩
           have HS4_ := (hb.cell (wb (hHeld.2.2.2.2.1))).trans (hHeld.2.2.2.2.1)
           have HS5_ := (hb.cell (wb (hHeld.2.2.2.2.2.1))).trans (hHeld.2.2.2.2.2.1)
           have HS6_ := (hb.cell (wb (hHeld.2.2.2.2.2.2.1))).trans (hHeld.2.2.2.2.2.2.1)
           have HS7_ := (hb.cell (wb (hHeld.2.2.2.2.2.2.2))).trans (hHeld.2.2.2.2.2.2.2)
           refine ⟨_, rfl, ?_⟩
           have n0_ := am (Kd.V_below (q_v (HO_0.out)) hb)
           have n1_ := am (blk_below (q_b BK243.out) hb)
           have n2_ := am (below_step bq hb)
           clear HO_0
           clear BK243
           clear HB
           have HO_0 := n0_
           have BK243 := n1_
           have HB := n2_
           clear n0_ n1_ n2_
           (try clear hb)
           (try clear hb2)
           (try clear hk)
           (try clear hi)
           refine hK.out _ _ ⟨q_z BK243.out 0, q_z BK243.out 1, q_z BK243.out 2, q_z BK243.out 3, HS4_, HS5_, HS6_, HS7_⟩ (fun hHeld => ?_)
           clear hK K
           refine norm_ (a' := ?_) ?_ ?_
           rotate_left
           ·show Act.put _ (some 30) _ = _
            simp only [Act.put, List.setIfInBounds_toArray, List.set_cons_zero, List.set_cons_succ, i64_w, i32_w]
            rfl
           refine q_p 11 (some 31) #[true, true, true, true, true, true, true, true, true, true, true, true, false] HT_.out ?_
           refine q_p 12 (some 32) #[true, true, true, true, true, true, true, true, true, true, true, true, true] HT_.out ?_
           refine done_ (done_of HT_.out (by kernel_rfl)) ?_
           try go_wp2
           have n0_ := am (Kd.V_drew HO_0.out)
           have n1_ := am (blk_drew BK243.out)
           have n2_ := am (below_drew1 HB.out)
           clear HO_0
           clear BK243
           clear HB
           have HO_0 := n0_
           have BK243 := n1_
           have HB := n2_
           clear n0_ n1_ n2_
           have q24 : (x5_1 : Int) ≤ ((l0.length : Int) : Int) := q_d
           obtain ⟨i024, hi024, _, hsz24, _⟩ := info_parts info49
           have hroom24 : l0.length ≤ c0 := (Kd.V_reads' HO_0.out).2.1
           have hC24 : Kd.F k49 _ _ (some ad244) l0.length l0 := (Kd.V_at (base := w.heap.size) HO_0.out).2.2
           have hcut24 := cut_to (P := Try.prog) 25 49 .i64 Try.underlying25 hi024 (some ad244) l0.length c0 x5_1 q_d q24 hroom24
           have hr24 := Kd.F_take (m := (x5_1 : Int).toNat) hC24 (by omega)
           have hy24 : y251.length = (x5_1 : Int).toNat := (by rw [Ny251.out, List.length_take]; omega)
           rw [← Ny251.out] at hr24
           rw [← hy24] at hcut24
           have HO255 := am (show Kd.V k49 49 _ w.heap.size _ (.slice (some ad244) y251.length c0) y251 from Kd.V_mk (by omega) hr24)
           have HC255 := am (show y251.length ≤ c0 from by omega)
           clear hr24 hC24 hroom24 hi024 hsz24
           have KY24 := am hy24
           clear hy24
           replace q24 := eq_true q24
           have q25 : (x5_1 : Int) ≤ ((l0.length : Int) : Int) := q_d
           obtain ⟨i025, hi025, _, hsz25, _⟩ := info_parts info49
           have hroom25 : l0.length ≤ c0 := (Kd.V_reads' HO_0.out).2.1
           have hC25 : Kd.F k49 _ _ (some ad244) l0.length l0 := (Kd.V_at (base := w.heap.size) HO_0.out).2.2
           have q025 : (0 : Int) ≤ (x5_1 : Int) := q_d
           have hcut25 := cut_from (P := Try.prog) 25 49 .i64 Try.underlying25 hi025 4 hsz25 (some ad244) l0.length c0 x5_1 q025 q25
           have hr25 := Kd.F_cut (m := (x5_1 : Int).toNat) (c := c0) hC25 (by omega) hroom25
           obtain ⟨A25, hA25⟩ : ∃ A1, A1 = (if c0 = (x5_1 : Int).toNat then (some ad244) else ((some ad244) : Option Addr).map (·.add ((x5_1 : Int).toNat * 4))) := ⟨_, rfl⟩
           obtain ⟨c25, hc25⟩ : ∃ c1, c1 = c0 - (x5_1 : Int).toNat := ⟨_, rfl⟩
           have hy25 : y265.length = l0.length - (x5_1 : Int).toNat := (by rw [Ny265.out, List.length_drop] <;> omega)
           rw [show (l0).drop (x5_1 : Int).toNat = y265 from Ny265.out.symm] at hr25
           replace hr25 : Kd.F k49 _ _ A25 y265.length y265 := (by rw [hA25]; exact hr25)
           rw [← hy25, ← hA25, ← hc25] at hcut25
           have HO269 := am (show Kd.V k49 49 _ w.heap.size _ (.slice A25 y265.length c25) y265 from Kd.V_mk (by rw [hy25, hc25]; exact Nat.sub_le_sub_right hroom25 _) hr25)
           have HC269 := am (show y265.length ≤ c25 from by rw [hy25, hc25]; exact Nat.sub_le_sub_right hroom25 _)
           clear hr25 hC25 hroom25 hi025 hsz25 hc25
           have KY25 := am hy25
           have KA25 := am hA25
           clear hy25 hA25
           replace q25 := eq_true q25
           refine start_ (n := 13) (S := fun w' => w'.cell? ⟨gb243, 0, none⟩ = some (.string a1_0) ∧ w'.cell? ⟨gb243, 1, none⟩ = some (.int .i64 a1_1) ∧ w'.cell? ⟨gb243, 2, none⟩ = some (.string a1_2) ∧ w'.cell? ⟨gb243, 3, none⟩ = some (.bool a1_3)) (ds := []) #[false, false, false, false, false, false, false, false, false, false, false, false, false] (by kernel_rfl) rfl rfl ⟨q_z BK243.out 0, q_z BK243.out 1, q_z BK243.out 2, q_z BK243.out 3⟩ (fun hHeld => ?_); refine with_tabW spec_l5Put.tab6 spec_l5Put.bits6 (fun HT_ HW_ => ?_)
           generalize w22.drew = w23 at HO_0 BK243 HB HO255 HO269 hHeld ⊢
           refine q_p 1 (some 35) #[false, true, false, false, false, false, false, false, false, false, false, false, false] HT_.out ?_
           refine q_p 2 (some 36) #[false, true, true, false, false, false, false, false, false, false, false, false, false] HT_.out ?_
           refine q_p 3 (some 37) #[false, true, true, true, false, false, false, false, false, false, false, false, false] HT_.out ?_
           refine q_p 8 (some 42) #[false, true, true, true, false, false, false, false, true, false, false, false, false] HT_.out ?_
           refine q_p 9 (some 43) #[false, true, true, true, false, false, false, false, true, true, false, false, false] HT_.out ?_
           refine q_p 10 (some 44) #[false, true, true, true, false, false, false, false, true, true, true, false, false] HT_.out ?_
           refine q_t 5 (some 39) #[false, true, true, true, false, true, false, false, true, true, true, false, false] HT_.out HW_.out hHeld ?_
           refine join_ (σ := Value × Value × Value) 3 #[true, true, true, true, true, true, true, false, true, true, true, false, false] (fun s_ => [(34, s_.1), (38, s_.2.1), (40, s_.2.2)]) (fun s_ w' => (w'.cell? ⟨gb243, 0, none⟩ = some (.string a1_0) ∧ w'.cell? ⟨gb243, 1, none⟩ = some (.int .i64 a1_1) ∧ w'.cell? ⟨gb243, 2, none⟩ = some (.string a1_2) ∧ w'.cell? ⟨gb243, 3, none⟩ = some (.bool a1_3)) ∧ (Kd.V k49 49 w' w.heap.size (fun k_ => (P0_ k_ ∨ w.heap.size ≤ k_) ∧ some k_ ≠ (s_.2.1 : Value).ownBlock ∧ some k_ ≠ (s_.2.2 : Value).ownBlock ∧ k_ ≠ gb243) (.slice (some ad244) y251.length c0) y251) ∧ (Kd.R k49 49 w' w.heap.size (fun k_ => (w.heap.size ≤ k_) ∧ some k_ ≠ (s_.2.2 : Value).ownBlock ∧ k_ ≠ gb243) s_.2.1 y256) ∧ (Kd.R k49 49 w' w.heap.size (fun k_ => (w.heap.size ≤ k_) ∧ some k_ ≠ (s_.2.1 : Value).ownBlock ∧ k_ ≠ gb243) s_.2.2 y259) ∧ (Kd.V k49 49 w' w.heap.size (fun k_ => (P0_ k_ ∨ w.heap.size ≤ k_) ∧ some k_ ≠ (s_.2.1 : Value).ownBlock ∧ some k_ ≠ (s_.2.2 : Value).ownBlock ∧ k_ ≠ gb243) (.slice A25 y265.length c25) y265) ∧ (Kd.V k49 49 w' w.heap.size (fun k_ => (P0_ k_ ∨ w.heap.size ≤ k_) ∧ some k_ ≠ (s_.2.1 : Value).ownBlock ∧ some k_ ≠ (s_.2.2 : Value).ownBlock ∧ k_ ≠ gb243) (.slice (some ad244) l0.length c0) l0) ∧ (w'.heap[gb243]? = some (.cells #[.string a1_0, .int .i64 a1_1, .string a1_2, .bool a1_3] 49 (0, 0))) ∧ (Below w.heap.size w w')) ?_ ?_
           rotate_left
           ·intro hCont
            refine two_ (i := 0) (j := 6) (Ni := some 34) (Nj := some 40) #[true, true, true, true, false, true, false, false, true, true, true, false, false] #[false, true, true, true, false, true, true, false, true, true, true, false, false] rfl rfl rfl rfl (two_of HT_.out (by kernel_rfl)) (by decide) (by decide) (fun K hK => ?_) (fun K hK => ?_)
            ·skip
             refine Kd.R_lit_step k49 _ 49 ?hg (N := 34) ?hd (xs := ([] : List (S49))) (inner := []) (ok := fun _ => True) (okp := fun _ => True) ?hr ?hp (fun _ hk => hk) trivial (Below.refl _ _) (Nat.le_refl _) (by simp) ?_; (case hd => rfl); (case hg => rfl); (case hr => first | (go_simp; done) | (go_simp; rfl)); (case hp => exact (Reps.none _ _))
             intro v249 w26 ho27 hb hg_ hnew_
             clear hg_ hnew_
             (first | rw [← Ny248.out] at ho27 | (simp only [Int.reduceToNat] at ho27; rw [← Ny248.out] at ho27))
             have n0_ := am (Kd.V_elder' (q_v (HO_0.out)) (Kd.R_base ho27) hb)
             have n1_ := am (Kd.V_elder' (q_v (HO255.out)) (Kd.R_base ho27) hb)
             have n2_ := am (Kd.V_elder' (q_v (HO269.out)) (Kd.R_base ho27) hb)
             have n3_ := am (Kd.R_lower (Kd.R_newB (Kd.R_newM (M := fun k_ => (w.heap.size ≤ k_)) ho27 (below_size bq) (fun k_ h_ => h_)) (q_b BK243.out)) (below_size bq))
             have n4_ := am (blk_below (q_b BK243.out) hb)
             have n5_ := am (below_step bq hb)
             clear HO_0
             clear HO255
             clear HO269
             clear BK243
             clear HB
             have HO_0 := n0_
             have HO255 := n1_
             have HO269 := n2_
             have HO250 := n3_
             have BK243 := n4_
             have HB := n5_
             clear n0_ n1_ n2_ n3_ n4_ n5_
             clear hb ho27
             refine hK.out _ _ ⟨q_z BK243.out 0, q_z BK243.out 1, q_z BK243.out 2, q_z BK243.out 3⟩ (fun hHeld => ?_)
             clear hK K
             refine norm_ (a' := ?_) ?_ ?_
             rotate_left
             ·show Act.put _ (some 34) _ = _
              simp only [Act.put, List.setIfInBounds_toArray, List.set_cons_zero, List.set_cons_succ, i64_w, i32_w]
              rfl
             refine two_ (i := 4) (j := 6) (Ni := some 38) (Nj := some 40) #[true, true, true, true, true, true, false, false, true, true, true, false, false] #[true, true, true, true, false, true, true, false, true, true, true, false, false] rfl rfl rfl rfl (two_of HT_.out (by kernel_rfl)) (by decide) (by decide) (fun K hK => ?_) (fun K hK => ?_)
             ·skip
              refine Kd.R_append_rows_step k49 (w0 := w) w.heap.size (by rfl) (.tmp 34) (.tmp 37) 25 49 (.agg #[(.string ⟨#[]⟩), (.int .i64 0), (.string ⟨#[]⟩), (.bool false)]) 48 rfl Try.underlying25 info49 rfl (by decide) (by omega) v249 y248 y251 _ _ _ (fun k_ => (w.heap.size ≤ k_) ∧ k_ ≠ gb243) (fun _ => False) rfl rfl ?aO ?aR (fun _ _ h => h) (fun _ h => h.elim) ?aF ?aB ?aS ?aL ?_
              (case aR => repeat (first | exact (Kd.V_reads' HO255.out).2.2 | (with_reducible refine Kd.C_alloc ?_ _) | (with_reducible refine Kd.C_drewN ?_ _) | (with_reducible refine Kd.C_drew ?_)))
              (case aB => exact bq)
              (case aF => exact (fun k_ hk => ⟨(Nat.le_trans (below_size bq) hk), Kd.freshB (q_b BK243.out) k_ hk⟩))
              (case aO => exact (by (with_reducible repeat (first | apply Kd.R_alloc | apply Kd.R_drewN | apply Kd.R_drew)); exact Kd.R_mono HO250.out (fun _ hk => ⟨hk.1.1, hk.2⟩)))
              (case aS => exact (below_size bq))
              (case aL => have := LMc14.out; omega)
              intro v257 w28 ho hb hg hat
              rw [← Ny256.out] at ho
              have n0_ := am (Kd.V_afterv (ok := (fun k_ => (P0_ k_ ∨ w.heap.size ≤ k_) ∧ k_ ≠ gb243)) (q_v (HO_0.out)) hg hat)
              have n1_ := am (blk_grown (q_b BK243.out) hg (Kd.R_away HO250.out (fun _ hk => hk.2)))
              have n2_ := am (Kd.V_afterv (ok := (fun k_ => (P0_ k_ ∨ w.heap.size ≤ k_) ∧ k_ ≠ gb243)) (q_v (HO255.out)) hg hat)
              have n3_ := am (Kd.V_afterv (ok := (fun k_ => (P0_ k_ ∨ w.heap.size ≤ k_) ∧ k_ ≠ gb243)) (q_v (HO269.out)) hg hat)
              have n4_ := am (hb)
              have n5_ := am (ho)
              clear HO_0
              clear BK243
              clear HO255
              clear HO269
              clear HB
              clear HO250
              have HO_0 := n0_
              have BK243 := n1_
              have HO255 := n2_
              have HO269 := n3_
              have HB := n4_
              have HO258 := n5_
              clear n0_ n1_ n2_ n3_ n4_ n5_
              clear ho hb hg hat
              refine hK.out _ _ ⟨q_z BK243.out 0, q_z BK243.out 1, q_z BK243.out 2, q_z BK243.out 3⟩ (fun hHeld => ?_)
              clear hK K
              refine norm_ (a' := ?_) ?_ ?_
              rotate_left
              ·show Act.put _ (some 38) _ = _
               simp only [Act.put, List.setIfInBounds_toArray, List.set_cons_zero, List.set_cons_succ, i64_w, i32_w]
               rfl
              refine one_ (i := 6) (N := some 40) #[true, true, true, true, true, true, true, false, true, true, true, false, false] rfl rfl (one_of HT_.out (by kernel_rfl)) (by decide) (fun K hK => ?_)
              refine Kd.R_lit_step k49 _ 49 ?hg (N := 40) ?hd (xs := ([(⟨a1_0, a1_1, a1_2, a1_3⟩ : S49)] : List (S49))) (inner := [.string a1_0, .int .i64 a1_1, .string a1_2, .bool a1_3]) (ok := fun _ => True) (okp := fun _ => True) ?hr ?hp (fun _ hk => hk) trivial (Below.refl _ _) (Nat.le_refl _) (by simp) ?_; (case hd => rfl); (case hg => rfl); (case hr => first | (go_simp; done) | (go_simp; rfl)); (case hp => exact (Reps.c4 (show Kd.M k49 _ _ _ (⟨a1_0, a1_1, a1_2, a1_3⟩ : S49) [.string a1_0, .int .i64 a1_1, .string a1_2, .bool a1_3] from (k49_mkM _ _ _ (⟨a1_0, a1_1, a1_2, a1_3⟩ : S49) )) (Reps.none _ _)))
              intro v260 w29 ho30 hb hg_ hnew_
              clear hg_ hnew_
              (first | rw [← Ny259.out] at ho30 | (simp only [Int.reduceToNat] at ho30; rw [← Ny259.out] at ho30))
              have n0_ := am (Kd.V_elder' (q_v (HO_0.out)) (Kd.R_base ho30) hb)
              have n1_ := am (Kd.V_elder' (q_v (HO255.out)) (Kd.R_base ho30) hb)
              have n2_ := am (Kd.V_elder' (q_v (HO269.out)) (Kd.R_base ho30) hb)
              have n3_ := am (Kd.R_elder' (q_r (HO258.out)) (Kd.R_base ho30) hb)
              have n4_ := am (Kd.R_lower (Kd.R_newB (Kd.R_new' (Kd.R_newM (M := fun k_ => (w.heap.size ≤ k_)) ho30 (below_size bq) (fun k_ h_ => h_)) (Kd.R_lt (q_r (HO258.out)))) (q_b BK243.out)) (below_size bq))
              have n5_ := am (blk_below (q_b BK243.out) hb)
              have n6_ := am (below_step bq hb)
              clear HO_0
              clear HO255
              clear HO269
              clear HO258
              clear BK243
              clear HB
              have HO_0 := n0_
              have HO255 := n1_
              have HO269 := n2_
              have HO258 := n3_
              have HO261 := n4_
              have BK243 := n5_
              have HB := n6_
              clear n0_ n1_ n2_ n3_ n4_ n5_ n6_
              clear hb ho30
              refine hK.out _ _ ⟨q_z BK243.out 0, q_z BK243.out 1, q_z BK243.out 2, q_z BK243.out 3⟩ (fun hHeld => ?_)
              clear hK K
              refine norm_ (a' := ?_) ?_ ?_
              rotate_left
              ·show Act.put _ (some 40) _ = _
               simp only [Act.put, List.setIfInBounds_toArray, List.set_cons_zero, List.set_cons_succ, i64_w, i32_w]
               rfl
              exact norm_ (by simp only [putAll, Act.put, List.setIfInBounds_toArray, List.set_cons_zero, List.set_cons_succ]) (hCont (v249, v257, v260) _ ⟨hHeld, (by (with_reducible repeat (first | apply Kd.V_alloc | apply Kd.V_drewN | apply Kd.V_drew)); exact Kd.V_mono HO255.out (fun _ hk => ⟨hk.1.1.1, ⟨hk.1.2, ⟨hk.2, hk.1.1.2⟩⟩⟩)), (by (with_reducible repeat (first | apply Kd.R_alloc | apply Kd.R_drewN | apply Kd.R_drew)); exact Kd.R_mono HO258.out (fun _ hk => ⟨hk.1.1, ⟨hk.2, hk.1.2⟩⟩)), (by (with_reducible repeat (first | apply Kd.R_alloc | apply Kd.R_drewN | apply Kd.R_drew)); exact Kd.R_mono HO261.out (fun _ hk => ⟨hk.1.1.1, ⟨hk.1.2, hk.2⟩⟩)), (by (with_reducible repeat (first | apply Kd.V_alloc | apply Kd.V_drewN | apply Kd.V_drew)); exact Kd.V_mono HO269.out (fun _ hk => ⟨hk.1.1.1, ⟨hk.1.2, ⟨hk.2, hk.1.1.2⟩⟩⟩)), (by (with_reducible repeat (first | apply Kd.V_alloc | apply Kd.V_drewN | apply Kd.V_drew)); exact Kd.V_mono HO_0.out (fun _ hk => ⟨hk.1.1.1, ⟨hk.1.2, ⟨hk.2, hk.1.1.2⟩⟩⟩)), kq, bq⟩)
             ·skip
              refine Kd.R_lit_step k49 _ 49 ?hg (N := 40) ?hd (xs := ([(⟨a1_0, a1_1, a1_2, a1_3⟩ : S49)] : List (S49))) (inner := [.string a1_0, .int .i64 a1_1, .string a1_2, .bool a1_3]) (ok := fun _ => True) (okp := fun _ => True) ?hr ?hp (fun _ hk => hk) trivial (Below.refl _ _) (Nat.le_refl _) (by simp) ?_; (case hd => rfl); (case hg => rfl); (case hr => first | (go_simp; done) | (go_simp; rfl)); (case hp => exact (Reps.c4 (show Kd.M k49 _ _ _ (⟨a1_0, a1_1, a1_2, a1_3⟩ : S49) [.string a1_0, .int .i64 a1_1, .string a1_2, .bool a1_3] from (k49_mkM _ _ _ (⟨a1_0, a1_1, a1_2, a1_3⟩ : S49) )) (Reps.none _ _)))
              intro v260 w28 ho29 hb hg_ hnew_
              clear hg_ hnew_
              (first | rw [← Ny259.out] at ho29 | (simp only [Int.reduceToNat] at ho29; rw [← Ny259.out] at ho29))
              have n0_ := am (Kd.V_elder' (q_v (HO_0.out)) (Kd.R_base ho29) hb)
              have n1_ := am (Kd.V_elder' (q_v (HO255.out)) (Kd.R_base ho29) hb)
              have n2_ := am (Kd.V_elder' (q_v (HO269.out)) (Kd.R_base ho29) hb)
              have n3_ := am (Kd.R_elder' (q_r (HO250.out)) (Kd.R_base ho29) hb)
              have n4_ := am (Kd.R_lower (Kd.R_newB (Kd.R_new' (Kd.R_newM (M := fun k_ => (w.heap.size ≤ k_)) ho29 (below_size bq) (fun k_ h_ => h_)) (Kd.R_lt (q_r (HO250.out)))) (q_b BK243.out)) (below_size bq))
              have n5_ := am (blk_below (q_b BK243.out) hb)
              have n6_ := am (below_step bq hb)
              clear HO_0
              clear HO255
              clear HO269
              clear HO250
              clear BK243
              clear HB
              have HO_0 := n0_
              have HO255 := n1_
              have HO269 := n2_
              have HO250 := n3_
              have HO261 := n4_
              have BK243 := n5_
              have HB := n6_
              clear n0_ n1_ n2_ n3_ n4_ n5_ n6_
              clear hb ho29
              refine hK.out _ _ ⟨q_z BK243.out 0, q_z BK243.out 1, q_z BK243.out 2, q_z BK243.out 3⟩ (fun hHeld => ?_)
              clear hK K
              refine norm_ (a' := ?_) ?_ ?_
              rotate_left
              ·show Act.put _ (some 40) _ = _
               simp only [Act.put, List.setIfInBounds_toArray, List.set_cons_zero, List.set_cons_succ, i64_w, i32_w]
               rfl
              refine one_ (i := 4) (N := some 38) #[true, true, true, true, true, true, true, false, true, true, true, false, false] rfl rfl (one_of HT_.out (by kernel_rfl)) (by decide) (fun K hK => ?_)
              refine Kd.R_append_rows_step k49 (w0 := w) w.heap.size (by rfl) (.tmp 34) (.tmp 37) 25 49 (.agg #[(.string ⟨#[]⟩), (.int .i64 0), (.string ⟨#[]⟩), (.bool false)]) 48 rfl Try.underlying25 info49 rfl (by decide) (by omega) v249 y248 y251 _ _ _ (fun k_ => (w.heap.size ≤ k_) ∧ some k_ ≠ (v260 : Value).ownBlock ∧ k_ ≠ gb243) (fun _ => False) rfl rfl ?aO ?aR (fun _ _ h => h) (fun _ h => h.elim) ?aF ?aB ?aS ?aL ?_
              (case aR => repeat (first | exact (Kd.V_reads' HO255.out).2.2 | (with_reducible refine Kd.C_alloc ?_ _) | (with_reducible refine Kd.C_drewN ?_ _) | (with_reducible refine Kd.C_drew ?_)))
              (case aB => exact bq)
              (case aF => exact (fun k_ hk => ⟨(Nat.le_trans (below_size bq) hk), Kd.fresh' (Kd.R_lt (q_r (HO261.out))) k_ hk, Kd.freshB (q_b BK243.out) k_ hk⟩))
              (case aO => exact (by (with_reducible repeat (first | apply Kd.R_alloc | apply Kd.R_drewN | apply Kd.R_drew)); exact Kd.R_mono HO250.out (fun _ hk => ⟨hk.1.1.1, ⟨hk.2, hk.1.2⟩⟩)))
              (case aS => exact (below_size bq))
              (case aL => have := LMc14.out; omega)
              intro v257 w30 ho hb hg hat
              rw [← Ny256.out] at ho
              have n0_ := am (Kd.V_afterv (ok := (fun k_ => (P0_ k_ ∨ w.heap.size ≤ k_) ∧ some k_ ≠ (v260 : Value).ownBlock ∧ k_ ≠ gb243)) (by (with_reducible repeat (first | apply Kd.V_alloc | apply Kd.V_drewN | apply Kd.V_drew)); exact Kd.V_mono HO_0.out (fun _ hk => ⟨⟨hk.1.1.1, ⟨hk.2, hk.1.1.2⟩⟩, hk.1.2⟩)) hg hat)
              have n1_ := am (blk_grown (q_b BK243.out) hg (Kd.R_away HO250.out (fun _ hk => hk.1.2)))
              have n2_ := am (Kd.V_afterv (ok := (fun k_ => (P0_ k_ ∨ w.heap.size ≤ k_) ∧ some k_ ≠ (v260 : Value).ownBlock ∧ k_ ≠ gb243)) (by (with_reducible repeat (first | apply Kd.V_alloc | apply Kd.V_drewN | apply Kd.V_drew)); exact Kd.V_mono HO255.out (fun _ hk => ⟨⟨hk.1.1.1, ⟨hk.2, hk.1.1.2⟩⟩, hk.1.2⟩)) hg hat)
              have n3_ := am (Kd.V_afterv (ok := (fun k_ => (P0_ k_ ∨ w.heap.size ≤ k_) ∧ some k_ ≠ (v260 : Value).ownBlock ∧ k_ ≠ gb243)) (by (with_reducible repeat (first | apply Kd.V_alloc | apply Kd.V_drewN | apply Kd.V_drew)); exact Kd.V_mono HO269.out (fun _ hk => ⟨⟨hk.1.1.1, ⟨hk.2, hk.1.1.2⟩⟩, hk.1.2⟩)) hg hat)
              have n4_ := am (Kd.R_after (ok := (fun k_ => (w.heap.size ≤ k_) ∧ k_ ≠ gb243)) (by (with_reducible repeat (first | apply Kd.R_alloc | apply Kd.R_drewN | apply Kd.R_drew)); exact Kd.R_mono HO261.out (fun _ hk => ⟨⟨hk.1.1.1, hk.2⟩, hk.1.2⟩)) hg hat)
              have n5_ := am (hb)
              have n6_ := am (ho)
              clear HO_0
              clear BK243
              clear HO255
              clear HO269
              clear HO261
              clear HB
              clear HO250
              have HO_0 := n0_
              have BK243 := n1_
              have HO255 := n2_
              have HO269 := n3_
              have HO261 := n4_
              have HB := n5_
              have HO258 := n6_
              clear n0_ n1_ n2_ n3_ n4_ n5_ n6_
              clear ho hb hg hat
              refine hK.out _ _ ⟨q_z BK243.out 0, q_z BK243.out 1, q_z BK243.out 2, q_z BK243.out 3⟩ (fun hHeld => ?_)
              clear hK K
              refine norm_ (a' := ?_) ?_ ?_
              rotate_left
              ·show Act.put _ (some 38) _ = _
               simp only [Act.put, List.setIfInBounds_toArray, List.set_cons_zero, List.set_cons_succ, i64_w, i32_w]
               rfl
              exact norm_ (by simp only [putAll, Act.put, List.setIfInBounds_toArray, List.set_cons_zero, List.set_cons_succ]) (hCont (v249, v257, v260) _ ⟨hHeld, (by (with_reducible repeat (first | apply Kd.V_alloc | apply Kd.V_drewN | apply Kd.V_drew)); exact Kd.V_mono HO255.out (fun _ hk => ⟨hk.1.1, ⟨hk.2, ⟨hk.1.2.1, hk.1.2.2⟩⟩⟩)), (q_r (HO258.out)), (by (with_reducible repeat (first | apply Kd.R_alloc | apply Kd.R_drewN | apply Kd.R_drew)); exact Kd.R_mono HO261.out (fun _ hk => ⟨hk.1.1, ⟨hk.2, hk.1.2⟩⟩)), (by (with_reducible repeat (first | apply Kd.V_alloc | apply Kd.V_drewN | apply Kd.V_drew)); exact Kd.V_mono HO269.out (fun _ hk => ⟨hk.1.1, ⟨hk.2, ⟨hk.1.2.1, hk.1.2.2⟩⟩⟩)), (by (with_reducible repeat (first | apply Kd.V_alloc | apply Kd.V_drewN | apply Kd.V_drew)); exact Kd.V_mono HO_0.out (fun _ hk => ⟨hk.1.1, ⟨hk.2, ⟨hk.1.2.1, hk.1.2.2⟩⟩⟩)), kq, bq⟩)
            ·skip
             refine Kd.R_lit_step k49 _ 49 ?hg (N := 40) ?hd (xs := ([(⟨a1_0, a1_1, a1_2, a1_3⟩ : S49)] : List (S49))) (inner := [.string a1_0, .int .i64 a1_1, .string a1_2, .bool a1_3]) (ok := fun _ => True) (okp := fun _ => True) ?hr ?hp (fun _ hk => hk) trivial (Below.refl _ _) (Nat.le_refl _) (by simp) ?_; (case hd => rfl); (case hg => rfl); (case hr => first | (go_simp; done) | (go_simp; rfl)); (case hp => exact (Reps.c4 (show Kd.M k49 _ _ _ (⟨a1_0, a1_1, a1_2, a1_3⟩ : S49) [.string a1_0, .int .i64 a1_1, .string a1_2, .bool a1_3] from (k49_mkM _ _ _ (⟨a1_0, a1_1, a1_2, a1_3⟩ : S49) )) (Reps.none _ _)))
             intro v260 w26 ho27 hb hg_ hnew_
             clear hg_ hnew_
             (first | rw [← Ny259.out] at ho27 | (simp only [Int.reduceToNat] at ho27; rw [← Ny259.out] at ho27))
             have n0_ := am (Kd.V_elder' (q_v (HO_0.out)) (Kd.R_base ho27) hb)
             have n1_ := am (Kd.V_elder' (q_v (HO255.out)) (Kd.R_base ho27) hb)
             have n2_ := am (Kd.V_elder' (q_v (HO269.out)) (Kd.R_base ho27) hb)
             have n3_ := am (Kd.R_lower (Kd.R_newB (Kd.R_newM (M := fun k_ => (w.heap.size ≤ k_)) ho27 (below_size bq) (fun k_ h_ => h_)) (q_b BK243.out)) (below_size bq))
             have n4_ := am (blk_below (q_b BK243.out) hb)
             have n5_ := am (below_step bq hb)
             clear HO_0
             clear HO255
             clear HO269
             clear BK243
             clear HB
             have HO_0 := n0_
             have HO255 := n1_
             have HO269 := n2_
             have HO261 := n3_
             have BK243 := n4_
             have HB := n5_
             clear n0_ n1_ n2_ n3_ n4_ n5_
             clear hb ho27
             refine hK.out _ _ ⟨q_z BK243.out 0, q_z BK243.out 1, q_z BK243.out 2, q_z BK243.out 3⟩ (fun hHeld => ?_)
             clear hK K
             refine norm_ (a' := ?_) ?_ ?_
             rotate_left
             ·show Act.put _ (some 40) _ = _
              simp only [Act.put, List.setIfInBounds_toArray, List.set_cons_zero, List.set_cons_succ, i64_w, i32_w]
              rfl
             refine one_ (i := 0) (N := some 34) #[true, true, true, true, false, true, true, false, true, true, true, false, false] rfl rfl (one_of HT_.out (by kernel_rfl)) (by decide) (fun K hK => ?_)
             refine Kd.R_lit_step k49 _ 49 ?hg (N := 34) ?hd (xs := ([] : List (S49))) (inner := []) (ok := fun _ => True) (okp := fun _ => True) ?hr ?hp (fun _ hk => hk) trivial (Below.refl _ _) (Nat.le_refl _) (by simp) ?_; (case hd => rfl); (case hg => rfl); (case hr => first | (go_simp; done) | (go_simp; rfl)); (case hp => exact (Reps.none _ _))
             intro v249 w28 ho29 hb hg_ hnew_
             clear hg_ hnew_
             (first | rw [← Ny248.out] at ho29 | (simp only [Int.reduceToNat] at ho29; rw [← Ny248.out] at ho29))
             have n0_ := am (Kd.V_elder' (q_v (HO_0.out)) (Kd.R_base ho29) hb)
             have n1_ := am (Kd.V_elder' (q_v (HO255.out)) (Kd.R_base ho29) hb)
             have n2_ := am (Kd.V_elder' (q_v (HO269.out)) (Kd.R_base ho29) hb)
             have n3_ := am (Kd.R_elder' (q_r (HO261.out)) (Kd.R_base ho29) hb)
             have n4_ := am (Kd.R_lower (Kd.R_newB (Kd.R_new' (Kd.R_newM (M := fun k_ => (w.heap.size ≤ k_)) ho29 (below_size bq) (fun k_ h_ => h_)) (Kd.R_lt (q_r (HO261.out)))) (q_b BK243.out)) (below_size bq))
             have n5_ := am (blk_below (q_b BK243.out) hb)
             have n6_ := am (below_step bq hb)
             clear HO_0
             clear HO255
             clear HO269
             clear HO261
             clear BK243
             clear HB
             have HO_0 := n0_
             have HO255 := n1_
             have HO269 := n2_
             have HO261 := n3_
             have HO250 := n4_
             have BK243 := n5_
             have HB := n6_
             clear n0_ n1_ n2_ n3_ n4_ n5_ n6_
             clear hb ho29
             refine hK.out _ _ ⟨q_z BK243.out 0, q_z BK243.out 1, q_z BK243.out 2, q_z BK243.out 3⟩ (fun hHeld => ?_)
             clear hK K
             refine norm_ (a' := ?_) ?_ ?_
             rotate_left
             ·show Act.put _ (some 34) _ = _
              simp only [Act.put, List.setIfInBounds_toArray, List.set_cons_zero, List.set_cons_succ, i64_w, i32_w]
              rfl
             refine one_ (i := 4) (N := some 38) #[true, true, true, true, true, true, true, false, true, true, true, false, false] rfl rfl (one_of HT_.out (by kernel_rfl)) (by decide) (fun K hK => ?_)
             refine Kd.R_append_rows_step k49 (w0 := w) w.heap.size (by rfl) (.tmp 34) (.tmp 37) 25 49 (.agg #[(.string ⟨#[]⟩), (.int .i64 0), (.string ⟨#[]⟩), (.bool false)]) 48 rfl Try.underlying25 info49 rfl (by decide) (by omega) v249 y248 y251 _ _ _ (fun k_ => (w.heap.size ≤ k_) ∧ some k_ ≠ (v260 : Value).ownBlock ∧ k_ ≠ gb243) (fun _ => False) rfl rfl ?aO ?aR (fun _ _ h => h) (fun _ h => h.elim) ?aF ?aB ?aS ?aL ?_
             (case aR => repeat (first | exact (Kd.V_reads' HO255.out).2.2 | (with_reducible refine Kd.C_alloc ?_ _) | (with_reducible refine Kd.C_drewN ?_ _) | (with_reducible refine Kd.C_drew ?_)))
             (case aB => exact bq)
             (case aF => exact (fun k_ hk => ⟨(Nat.le_trans (below_size bq) hk), Kd.fresh' (Kd.R_lt (q_r (HO261.out))) k_ hk, Kd.freshB (q_b BK243.out) k_ hk⟩))
             (case aO => exact (by (with_reducible repeat (first | apply Kd.R_alloc | apply Kd.R_drewN | apply Kd.R_drew)); exact Kd.R_mono HO250.out (fun _ hk => ⟨hk.1.1.1, ⟨hk.1.2, hk.2⟩⟩)))
             (case aS => exact (below_size bq))
             (case aL => have := LMc14.out; omega)
             intro v257 w30 ho hb hg hat
             rw [← Ny256.out] at ho
             have n0_ := am (Kd.V_afterv (ok := (fun k_ => (P0_ k_ ∨ w.heap.size ≤ k_) ∧ some k_ ≠ (v260 : Value).ownBlock ∧ k_ ≠ gb243)) (by (with_reducible repeat (first | apply Kd.V_alloc | apply Kd.V_drewN | apply Kd.V_drew)); exact Kd.V_mono HO_0.out (fun _ hk => ⟨⟨hk.1.1.1, ⟨hk.1.2, hk.1.1.2⟩⟩, hk.2⟩)) hg hat)
             have n1_ := am (blk_grown (q_b BK243.out) hg (Kd.R_away HO250.out (fun _ hk => hk.2)))
             have n2_ := am (Kd.V_afterv (ok := (fun k_ => (P0_ k_ ∨ w.heap.size ≤ k_) ∧ some k_ ≠ (v260 : Value).ownBlock ∧ k_ ≠ gb243)) (by (with_reducible repeat (first | apply Kd.V_alloc | apply Kd.V_drewN | apply Kd.V_drew)); exact Kd.V_mono HO255.out (fun _ hk => ⟨⟨hk.1.1.1, ⟨hk.1.2, hk.1.1.2⟩⟩, hk.2⟩)) hg hat)
             have n3_ := am (Kd.V_afterv (ok := (fun k_ => (P0_ k_ ∨ w.heap.size ≤ k_) ∧ some k_ ≠ (v260 : Value).ownBlock ∧ k_ ≠ gb243)) (by (with_reducible repeat (first | apply Kd.V_alloc | apply Kd.V_drewN | apply Kd.V_drew)); exact Kd.V_mono HO269.out (fun _ hk => ⟨⟨hk.1.1.1, ⟨hk.1.2, hk.1.1.2⟩⟩, hk.2⟩)) hg hat)
             have n4_ := am (Kd.R_after (ok := (fun k_ => (w.heap.size ≤ k_) ∧ k_ ≠ gb243)) (by (with_reducible repeat (first | apply Kd.R_alloc | apply Kd.R_drewN | apply Kd.R_drew)); exact Kd.R_mono HO261.out (fun _ hk => ⟨⟨hk.1.1.1, hk.1.2⟩, hk.2⟩)) hg hat)
             have n5_ := am (hb)
             have n6_ := am (ho)
             clear HO_0
             clear BK243
             clear HO255
             clear HO269
             clear HO261
             clear HB
             clear HO250
             have HO_0 := n0_
             have BK243 := n1_
             have HO255 := n2_
             have HO269 := n3_
             have HO261 := n4_
             have HB := n5_
             have HO258 := n6_
             clear n0_ n1_ n2_ n3_ n4_ n5_ n6_
             clear ho hb hg hat
             refine hK.out _ _ ⟨q_z BK243.out 0, q_z BK243.out 1, q_z BK243.out 2, q_z BK243.out 3⟩ (fun hHeld => ?_)
             clear hK K
             refine norm_ (a' := ?_) ?_ ?_
             rotate_left
             ·show Act.put _ (some 38) _ = _
              simp only [Act.put, List.setIfInBounds_toArray, List.set_cons_zero, List.set_cons_succ, i64_w, i32_w]
              rfl
             exact norm_ (by simp only [putAll, Act.put, List.setIfInBounds_toArray, List.set_cons_zero, List.set_cons_succ]) (hCont (v249, v257, v260) _ ⟨hHeld, (by (with_reducible repeat (first | apply Kd.V_alloc | apply Kd.V_drewN | apply Kd.V_drew)); exact Kd.V_mono HO255.out (fun _ hk => ⟨hk.1.1, ⟨hk.2, ⟨hk.1.2.1, hk.1.2.2⟩⟩⟩)), (q_r (HO258.out)), (by (with_reducible repeat (first | apply Kd.R_alloc | apply Kd.R_drewN | apply Kd.R_drew)); exact Kd.R_mono HO261.out (fun _ hk => ⟨hk.1.1, ⟨hk.2, hk.1.2⟩⟩)), (by (with_reducible repeat (first | apply Kd.V_alloc | apply Kd.V_drewN | apply Kd.V_drew)); exact Kd.V_mono HO269.out (fun _ hk => ⟨hk.1.1, ⟨hk.2, ⟨hk.1.2.1, hk.1.2.2⟩⟩⟩)), (by (with_reducible repeat (first | apply Kd.V_alloc | apply Kd.V_drewN | apply Kd.V_drew)); exact Kd.V_mono HO_0.out (fun _ hk => ⟨hk.1.1, ⟨hk.2, ⟨hk.1.2.1, hk.1.2.2⟩⟩⟩)), kq, bq⟩)
           rintro ⟨v249, v257, v260⟩ w31 ⟨hS_, h0_, h1_, h2_, h3_, h4_, h5_, h6_⟩
           have n0_ : Aside0 (Kd.V k49 49 w31 w.heap.size (fun k_ => (P0_ k_ ∨ w.heap.size ≤ k_) ∧ some k_ ≠ (v257 : Value).ownBlock ∧ some k_ ≠ (v260 : Value).ownBlock ∧ k_ ≠ gb243) (.slice (some ad244) y251.length c0) y251) := ⟨h0_⟩
           have n1_ : Aside0 (Kd.R k49 49 w31 w.heap.size (fun k_ => (w.heap.size ≤ k_) ∧ some k_ ≠ (v260 : Value).ownBlock ∧ k_ ≠ gb243) v257 y256) := ⟨h1_⟩
           have n2_ : Aside0 (Kd.R k49 49 w31 w.heap.size (fun k_ => (w.heap.size ≤ k_) ∧ some k_ ≠ (v257 : Value).ownBlock ∧ k_ ≠ gb243) v260 y259) := ⟨h2_⟩
           have n3_ : Aside0 (Kd.V k49 49 w31 w.heap.size (fun k_ => (P0_ k_ ∨ w.heap.size ≤ k_) ∧ some k_ ≠ (v257 : Value).ownBlock ∧ some k_ ≠ (v260 : Value).ownBlock ∧ k_ ≠ gb243) (.slice A25 y265.length c25) y265) := ⟨h3_⟩
           have n4_ : Aside0 (Kd.V k49 49 w31 w.heap.size (fun k_ => (P0_ k_ ∨ w.heap.size ≤ k_) ∧ some k_ ≠ (v257 : Value).ownBlock ∧ some k_ ≠ (v260 : Value).ownBlock ∧ k_ ≠ gb243) (.slice (some ad244) l0.length c0) l0) := ⟨h4_⟩
           have n5_ : Aside0 (w31.heap[gb243]? = some (.cells #[.string a1_0, .int .i64 a1_1, .string a1_2, .bool a1_3] 49 (0, 0))) := ⟨h5_⟩
           have n6_ : Aside0 (Below w.heap.size w w31) := ⟨h6_⟩
           clear HO_0
           clear BK243
           clear HB
           clear h0_ h1_ h2_ h3_ h4_ h5_ h6_
           have HO255 := n0_
           have HO258 := n1_
           have HO261 := n2_
           have HO269 := n3_
           have HO_0 := n4_
           have BK243 := n5_
           have HB := n6_
           clear n0_ n1_ n2_ n3_ n4_ n5_ n6_
           have hHeld : w31.cell? ⟨gb243, 0, none⟩ = some (.string a1_0) ∧ w31.cell? ⟨gb243, 1, none⟩ = some (.int .i64 a1_1) ∧ w31.cell? ⟨gb243, 2, none⟩ = some (.string a1_2) ∧ w31.cell? ⟨gb243, 3, none⟩ = some (.bool a1_3) := hS_
           obtain ⟨Ao33, co33, eo33⟩ := Kd.R_slice HO261.out
           (first | subst eo33 | (injection eo33 with f1_ f2_ f3_; have f4_ := f1_.symm; have f5_ := f3_.symm; clear f1_ f2_ f3_; subst f4_; subst f5_))
           refine norm_ (a' := ?_) ?_ ?_
           rotate_left
           ·simp only [putAll, Act.put, List.setIfInBounds_toArray, List.set_cons_zero, List.set_cons_succ]
            rfl
           refine one_ (i := 7) (N := some 41) #[true, true, true, true, true, true, true, true, true, true, true, false, false] rfl rfl (one_of HT_.out (by kernel_rfl)) (by decide) (fun K hK => ?_)
           refine Kd.R_append_rows_step k49 (w0 := w) w.heap.size (by rfl) (.tmp 38) (.tmp 40) 25 49 (.agg #[(.string ⟨#[]⟩), (.int .i64 0), (.string ⟨#[]⟩), (.bool false)]) 48 rfl Try.underlying25 info49 rfl (by decide) (by omega) v257 y256 y259 _ _ _ (fun k_ => (w.heap.size ≤ k_) ∧ some k_ ≠ (.slice Ao33 y259.length co33 : Value).ownBlock ∧ k_ ≠ gb243) (fun _ => False) rfl rfl ?aO ?aR (fun _ _ h => h) (fun _ h => h.elim) ?aF ?aB ?aS ?aL ?_
           (case aR => repeat (first | exact (Kd.R_reads' HO261.out).2.2 | (with_reducible refine Kd.C_alloc ?_ _) | (with_reducible refine Kd.C_drewN ?_ _) | (with_reducible refine Kd.C_drew ?_)))
           (case aB => exact bq)
           (case aF => exact (fun k_ hk => ⟨(Nat.le_trans (below_size bq) hk), Kd.fresh' (Kd.R_lt (q_r (HO261.out))) k_ hk, Kd.freshB (q_b BK243.out) k_ hk⟩))
           (case aO => exact (q_r (HO258.out)))
           (case aS => exact (below_size bq))
           (case aL => have := LMc15.out; omega)
           intro v263 w32 ho hb hg hat
           rw [← Ny262.out] at ho
           have n0_ := am (Kd.V_afterv (ok := (fun k_ => (P0_ k_ ∨ w.heap.size ≤ k_) ∧ some k_ ≠ (.slice Ao33 y259.length co33 : Value).ownBlock ∧ k_ ≠ gb243)) (by (with_reducible repeat (first | apply Kd.V_alloc | apply Kd.V_drewN | apply Kd.V_drew)); exact Kd.V_mono HO_0.out (fun _ hk => ⟨⟨hk.1, ⟨hk.2.2.1, hk.2.2.2⟩⟩, hk.2.1⟩)) hg hat)
           have n1_ := am (blk_grown (q_b BK243.out) hg (Kd.R_away HO258.out (fun _ hk => hk.2.2)))
           have n2_ := am (Kd.V_afterv (ok := (fun k_ => (P0_ k_ ∨ w.heap.size ≤ k_) ∧ some k_ ≠ (.slice Ao33 y259.length co33 : Value).ownBlock ∧ k_ ≠ gb243)) (by (with_reducible repeat (first | apply Kd.V_alloc | apply Kd.V_drewN | apply Kd.V_drew)); exact Kd.V_mono HO255.out (fun _ hk => ⟨⟨hk.1, ⟨hk.2.2.1, hk.2.2.2⟩⟩, hk.2.1⟩)) hg hat)
           have n3_ := am (Kd.V_afterv (ok := (fun k_ => (P0_ k_ ∨ w.heap.size ≤ k_) ∧ some k_ ≠ (.slice Ao33 y259.length co33 : Value).ownBlock ∧ k_ ≠ gb243)) (by (with_reducible repeat (first | apply Kd.V_alloc | apply Kd.V_drewN | apply Kd.V_drew)); exact Kd.V_mono HO269.out (fun _ hk => ⟨⟨hk.1, ⟨hk.2.2.1, hk.2.2.2⟩⟩, hk.2.1⟩)) hg hat)
           have n4_ := am (Kd.R_after (ok := (fun k_ => (w.heap.size ≤ k_) ∧ k_ ≠ gb243)) (by (with_reducible repeat (first | apply Kd.R_alloc | apply Kd.R_drewN | apply Kd.R_drew)); exact Kd.R_mono HO261.out (fun _ hk => ⟨⟨hk.1, hk.2.2⟩, hk.2.1⟩)) hg hat)
           have n5_ := am (hb)
           have n6_ := am (ho)
           clear HO_0
           clear BK243
           clear HO255
           clear HO269
           clear HO261
           clear HB
           clear HO258
           have HO_0 := n0_
           have BK243 := n1_
           have HO255 := n2_
           have HO269 := n3_
           have HO261 := n4_
           have HB := n5_
           have HO264 := n6_
           clear n0_ n1_ n2_ n3_ n4_ n5_ n6_
           clear ho hb hg hat
           refine hK.out _ _ ⟨q_z BK243.out 0, q_z BK243.out 1, q_z BK243.out 2, q_z BK243.out 3⟩ (fun hHeld => ?_)
           clear hK K
           refine norm_ (a' := ?_) ?_ ?_
           rotate_left
           ·show Act.put _ (some 41) _ = _
            simp only [Act.put, List.setIfInBounds_toArray, List.set_cons_zero, List.set_cons_succ, i64_w, i32_w]
            rfl
           refine one_ (i := 11) (N := some 45) #[true, true, true, true, true, true, true, true, true, true, true, true, false] rfl rfl (one_of HT_.out (by kernel_rfl)) (by decide) (fun K hK => ?_)
           refine Kd.R_append_rows_step k49 (w0 := w) w.heap.size (by rfl) (.tmp 41) (.tmp 44) 25 49 (.agg #[(.string ⟨#[]⟩), (.int .i64 0), (.string ⟨#[]⟩), (.bool false)]) 48 rfl Try.underlying25 info49 rfl (by decide) (by omega) v263 y262 y265 _ _ _ (fun k_ => (w.heap.size ≤ k_) ∧ some k_ ≠ (.slice Ao33 y259.length co33 : Value).ownBlock ∧ k_ ≠ gb243) (fun _ => False) rfl rfl ?aO ?aR (fun _ _ h => h) (fun _ h => h.elim) ?aF ?aB ?aS ?aL ?_
           (case aR => repeat (first | exact (Kd.V_reads' HO269.out).2.2 | (with_reducible refine Kd.C_alloc ?_ _) | (with_reducible refine Kd.C_drewN ?_ _) | (with_reducible refine Kd.C_drew ?_)))
           (case aB => exact bq)
           (case aF => exact (fun k_ hk => ⟨(Nat.le_trans (below_size bq) hk), Kd.fresh' (Kd.R_lt (q_r (HO261.out))) k_ hk, Kd.freshB (q_b BK243.out) k_ hk⟩))
           (case aO => exact (q_r (HO264.out)))
           (case aS => exact (below_size bq))
           (case aL => have := LMc18.out; omega)
           intro v271 w34 ho hb hg hat
           rw [← Ny270.out] at ho
           have n0_ := am (Kd.V_afterv (ok := (fun k_ => (P0_ k_ ∨ w.heap.size ≤ k_) ∧ some k_ ≠ (.slice Ao33 y259.length co33 : Value).ownBlock ∧ k_ ≠ gb243)) (q_v (HO_0.out)) hg hat)
           have n1_ := am (blk_grown (q_b BK243.out) hg (Kd.R_away HO264.out (fun _ hk => hk.2.2)))
           have n2_ := am (Kd.V_afterv (ok := (fun k_ => (P0_ k_ ∨ w.heap.size ≤ k_) ∧ some k_ ≠ (.slice Ao33 y259.length co33 : Value).ownBlock ∧ k_ ≠ gb243)) (q_v (HO255.out)) hg hat)
           have n3_ := am (Kd.V_afterv (ok := (fun k_ => (P0_ k_ ∨ w.heap.size ≤ k_) ∧ some k_ ≠ (.slice Ao33 y259.length co33 : Value).ownBlock ∧ k_ ≠ gb243)) (q_v (HO269.out)) hg hat)
           have n4_ := am (Kd.R_after (ok := (fun k_ => (w.heap.size ≤ k_) ∧ k_ ≠ gb243)) (q_r (HO261.out)) hg hat)
           have n5_ := am (hb)
           have n6_ := am (ho)
           clear HO_0
           clear BK243
           clear HO255
           clear HO269
           clear HO261
           clear HB
           clear HO264
           have HO_0 := n0_
           have BK243 := n1_
           have HO255 := n2_
           have HO269 := n3_
           have HO261 := n4_
           have HB := n5_
           have HO272 := n6_
           clear n0_ n1_ n2_ n3_ n4_ n5_ n6_
           clear ho hb hg hat
           refine hK.out _ _ ⟨q_z BK243.out 0, q_z BK243.out 1, q_z BK243.out 2, q_z BK243.out 3⟩ (fun hHeld => ?_)
           clear hK K
           refine norm_ (a' := ?_) ?_ ?_
           rotate_left
           ·show Act.put _ (some 45) _ = _
            simp only [Act.put, List.setIfInBounds_toArray, List.set_cons_zero, List.set_cons_succ, i64_w, i32_w]
            rfl
           refine q_p 12 (some 4) #[true, true, true, true, true, true, true, true, true, true, true, true, true] HT_.out ?_
           refine done_ (done_of HT_.out (by kernel_rfl)) ?_
           try go_wp2
           go_ret
           exact ⟨_, q_e, Kd.V_mono (Kd.R_V (q_r (Kd.R_mono HO272.out (fun _ hk => hk.1)))) (fun k_ hk => by first | exact ⟨(.inr (hk.1)), hk.2⟩ | exact (.inr (hk))), bq⟩
          ·rw [if_neg c18] at H
           exact absurd H (by simp)
         ·rw [if_neg c15] at H
          exact absurd H (by simp)
        ·rw [if_neg c14] at H
         exact absurd H (by simp)
       ·rw [if_neg c13] at H
        exact absurd H (by simp)
      ·replace c11 := Bool.eq_false_iff.mpr c11
       subst c11
       have H1 : (some l0) = some r := by rw [if_neg (show ¬ (false = true) by decide)] at H; exact H
       clear H
       have H := H1
       clear H1
       obtain rfl := Option.some.inj H
       try go_wp2
       have n0_ := am (Kd.V_drew HO_0.out)
       have n1_ := am (blk_drew BK243.out)
       have n2_ := am (below_drew1 HB.out)
       clear HO_0
       clear BK243
       clear HB
       have HO_0 := n0_
       have BK243 := n1_
       have HB := n2_
       clear n0_ n1_ n2_
       have p244 : 0 ≤ (x5_1 : Int) := q_d
       have q244 : x5_1 < (l0.length : Int) := q_d
       obtain ⟨ad244, e244, hx244_0, hx244_1, hx244_2, hx244_3⟩ := at_T49 (Kd.V_reads' HO_0.out).2.2 x5_1 p244 q244
       cases e244
       replace p244 := eq_true p244
       replace q244 := eq_true q244
       refine start_ (n := 12) (S := fun w' => w'.cell? ⟨gb243, 0, none⟩ = some (.string a1_0) ∧ w'.cell? ⟨gb243, 1, none⟩ = some (.int .i64 a1_1) ∧ w'.cell? ⟨gb243, 2, none⟩ = some (.string a1_2) ∧ w'.cell? ⟨gb243, 3, none⟩ = some (.bool a1_3) ∧ w'.cell? (ad244.add ((x5_1).toNat * 4)) = some (.string ((rd_T49 l0 x5_1).f0)) ∧ w'.cell? ⟨(ad244.add ((x5_1).toNat * 4)).block, (ad244.add ((x5_1).toNat * 4)).off + 1, none⟩ = some (.int .i64 ((rd_T49 l0 x5_1).f1)) ∧ w'.cell? ⟨(ad244.add ((x5_1).toNat * 4)).block, (ad244.add ((x5_1).toNat * 4)).off + 2, none⟩ = some (.string ((rd_T49 l0 x5_1).f2)) ∧ w'.cell? ⟨(ad244.add ((x5_1).toNat * 4)).block, (ad244.add ((x5_1).toNat * 4)).off + 3, none⟩ = some (.bool ((rd_T49 l0 x5_1).f3))) (ds := []) #[false, false, false, false, false, false, false, false, false, false, false, false] (by kernel_rfl) rfl rfl ⟨q_z BK243.out 0, q_z BK243.out 1, q_z BK243.out 2, q_z BK243.out 3, hx244_0, hx244_1, hx244_2, hx244_3⟩ (fun hHeld => ?_); refine with_tabW spec_l5Put.tab2 spec_l5Put.bits2 (fun HT_ HW_ => ?_)
       generalize wr.drew = w35 at HO_0 BK243 HB hx244_0 hx244_1 hx244_2 hx244_3 hHeld ⊢
       refine q_p 0 (some 6) #[true, false, false, false, false, false, false, false, false, false, false, false] HT_.out ?_
       refine q_p 1 (some 7) #[true, true, false, false, false, false, false, false, false, false, false, false] HT_.out ?_
       refine q_p 2 (some 8) #[true, true, true, false, false, false, false, false, false, false, false, false] HT_.out ?_
       refine q_p 3 (some 9) #[true, true, true, true, false, false, false, false, false, false, false, false] HT_.out ?_
       refine q_p 4 (some 10) #[true, true, true, true, true, false, false, false, false, false, false, false] HT_.out ?_
       refine q_p 5 (some 11) #[true, true, true, true, true, true, false, false, false, false, false, false] HT_.out ?_
       refine q_p 6 (some 12) #[true, true, true, true, true, true, true, false, false, false, false, false] HT_.out ?_
       refine q_p 7 (some 13) #[true, true, true, true, true, true, true, true, false, false, false, false] HT_.out ?_
       refine q_t 8 (some 14) #[true, true, true, true, true, true, true, true, true, false, false, false] HT_.out HW_.out hHeld ?_
       refine q_t 9 (some 15) #[true, true, true, true, true, true, true, true, true, true, false, false] HT_.out HW_.out hHeld ?_
       refine one_ (i := 10) (N := some 16) #[true, true, true, true, true, true, true, true, true, true, true, false] rfl rfl (one_of HT_.out (by kernel_rfl)) (by decide) (fun K hK => ?_)
       refine goes_ Try.func64 (by kernel_rfl) rfl #[.agg #[.string ((rd_T49 l0 x5_1).f0), .int .i64 ((rd_T49 l0 x5_1).f1), .string ((rd_T49 l0 x5_1).f2), .bool ((rd_T49 l0 x5_1).f3)], .agg #[.string a1_0, .int .i64 a1_1, .string a1_2, .bool a1_3]] (by rfl) rfl rfl (by (try simp only [List.map_toArray, List.map_cons, List.map_nil]); first | done | rfl | (simp only [List.length_drop, List.length_take]; rfl)) ?_
       with_reducible refine (spec_l5Ahead.calls ((rd_T49 l0 x5_1).f0) ((rd_T49 l0 x5_1).f1) ((rd_T49 l0 x5_1).f2) ((rd_T49 l0 x5_1).f3) a1_0 a1_1 a1_2 a1_3 false _ A6.out).mono ?_
       rintro e w36 ⟨rfl, hb⟩
       have HS4_ := (hb.cell (wb (hHeld.2.2.2.2.1))).trans (hHeld.2.2.2.2.1)
       have HS5_ := (hb.cell (wb (hHeld.2.2.2.2.2.1))).trans (hHeld.2.2.2.2.2.1)
       have HS6_ := (hb.cell (wb (hHeld.2.2.2.2.2.2.1))).trans (hHeld.2.2.2.2.2.2.1)
       have HS7_ := (hb.cell (wb (hHeld.2.2.2.2.2.2.2))).trans (hHeld.2.2.2.2.2.2.2)
       refine ⟨_, rfl, ?_⟩
       have n0_ := am (Kd.V_below (q_v (HO_0.out)) hb)
       have n1_ := am (blk_below (q_b BK243.out) hb)
       have n2_ := am (below_step bq hb)
       clear HO_0
       clear BK243
       clear HB
       have HO_0 := n0_
       have BK243 := n1_
       have HB := n2_
       clear n0_ n1_ n2_
       (try clear hb)
       (try clear hb2)
       (try clear hk)
       (try clear hi)
       refine hK.out _ _ ⟨q_z BK243.out 0, q_z BK243.out 1, q_z BK243.out 2, q_z BK243.out 3, HS4_, HS5_, HS6_, HS7_⟩ (fun hHeld => ?_)
       clear hK K
       refine norm_ (a' := ?_) ?_ ?_
       rotate_left
       ·show Act.put _ (some 16) _ = _
        simp only [Act.put, List.setIfInBounds_toArray, List.set_cons_zero, List.set_cons_succ, i64_w, i32_w]
        rfl
       refine q_p 11 (some 17) #[true, true, true, true, true, true, true, true, true, true, true, true] HT_.out ?_
       refine done_ (done_of HT_.out (by kernel_rfl)) ?_
       try go_wp2
       have n0_ := am (Kd.V_drew HO_0.out)
       have n1_ := am (blk_drew BK243.out)
       have n2_ := am (below_drew1 HB.out)
       clear HO_0
       clear BK243
       clear HB
       have HO_0 := n0_
       have BK243 := n1_
       have HB := n2_
       clear n0_ n1_ n2_
       have p246 : 0 ≤ (x5_1 : Int) := q_d
       have q246 : x5_1 < (l0.length : Int) := q_d
       obtain ⟨ad246, e246, hx246_0, hx246_1, hx246_2, hx246_3⟩ := at_T49 (Kd.V_reads' HO_0.out).2.2 x5_1 p246 q246
       obtain rfl : ad244 = ad246 := (by injection e246)
       replace p246 := eq_true p246
       replace q246 := eq_true q246
       refine start_ (n := 13) (S := fun w' => w'.cell? ⟨gb243, 0, none⟩ = some (.string a1_0) ∧ w'.cell? ⟨gb243, 1, none⟩ = some (.int .i64 a1_1) ∧ w'.cell? ⟨gb243, 2, none⟩ = some (.string a1_2) ∧ w'.cell? ⟨gb243, 3, none⟩ = some (.bool a1_3) ∧ w'.cell? (ad244.add ((x5_1).toNat * 4)) = some (.string ((rd_T49 l0 x5_1).f0)) ∧ w'.cell? ⟨(ad244.add ((x5_1).toNat * 4)).block, (ad244.add ((x5_1).toNat * 4)).off + 1, none⟩ = some (.int .i64 ((rd_T49 l0 x5_1).f1)) ∧ w'.cell? ⟨(ad244.add ((x5_1).toNat * 4)).block, (ad244.add ((x5_1).toNat * 4)).off + 2, none⟩ = some (.string ((rd_T49 l0 x5_1).f2)) ∧ w'.cell? ⟨(ad244.add ((x5_1).toNat * 4)).block, (ad244.add ((x5_1).toNat * 4)).off + 3, none⟩ = some (.bool ((rd_T49 l0 x5_1).f3))) (ds := []) #[false, false, false, false, false, false, false, false, false, false, false, false, false] (by kernel_rfl) rfl rfl ⟨q_z BK243.out 0, q_z BK243.out 1, q_z BK243.out 2, q_z BK243.out 3, hx246_0, hx246_1, hx246_2, hx246_3⟩ (fun hHeld => ?_); refine with_tabW spec_l5Put.tab4 spec_l5Put.bits4 (fun HT_ HW_ => ?_)
       generalize w36.drew = w37 at HO_0 BK243 HB hx246_0 hx246_1 hx246_2 hx246_3 hHeld ⊢
       refine q_p 0 (some 20) #[true, false, false, false, false, false, false, false, false, false, false, false, false] HT_.out ?_
       refine q_p 1 (some 21) #[true, true, false, false, false, false, false, false, false, false, false, false, false] HT_.out ?_
       refine q_p 2 (some 22) #[true, true, true, false, false, false, false, false, false, false, false, false, false] HT_.out ?_
       refine q_p 3 (some 23) #[true, true, true, true, false, false, false, false, false, false, false, false, false] HT_.out ?_
       refine q_p 4 (some 24) #[true, true, true, true, true, false, false, false, false, false, false, false, false] HT_.out ?_
       refine q_p 6 (some 26) #[true, true, true, true, true, false, true, false, false, false, false, false, false] HT_.out ?_
       refine q_p 7 (some 27) #[true, true, true, true, true, false, true, true, false, false, false, false, false] HT_.out ?_
       refine q_p 8 (some 28) #[true, true, true, true, true, false, true, true, true, false, false, false, false] HT_.out ?_
       refine q_t 5 (some 25) #[true, true, true, true, true, true, true, true, true, false, false, false, false] HT_.out HW_.out hHeld ?_
       refine q_t 9 (some 29) #[true, true, true, true, true, true, true, true, true, true, false, false, false] HT_.out HW_.out hHeld ?_
       refine one_ (i := 10) (N := some 30) #[true, true, true, true, true, true, true, true, true, true, true, false, false] rfl rfl (one_of HT_.out (by kernel_rfl)) (by decide) (fun K hK => ?_)
       refine goes_ Try.func64 (by kernel_rfl) rfl #[.agg #[.string a1_0, .int .i64 a1_1, .string a1_2, .bool a1_3], .agg #[.string ((rd_T49 l0 x5_1).f0), .int .i64 ((rd_T49 l0 x5_1).f1), .string ((rd_T49 l0 x5_1).f2), .bool ((rd_T49 l0 x5_1).f3)]] (by rfl) rfl rfl (by (try simp only [List.map_toArray, List.map_cons, List.map_nil]); first | done | rfl | (simp only [List.length_drop, List.length_take]; rfl)) ?_
       with_reducible refine (spec_l5Ahead.calls a1_0 a1_1 a1_2 a1_3 ((rd_T49 l0 x5_1).f0) ((rd_T49 l0 x5_1).f1) ((rd_T49 l0 x5_1).f2) ((rd_T49 l0 x5_1).f3) false _ A10.out).mono ?_
       rintro e w38 ⟨rfl, hb⟩
       have HS4_ := (hb.cell (wb (hHeld.2.2.2.2.1))).trans (hHeld.2.2.2.2.1)
       have HS5_ := (hb.cell (wb (hHeld.2.2.2.2.2.1))).trans (hHeld.2.2.2.2.2.1)
       have HS6_ := (hb.cell (wb (hHeld.2.2.2.2.2.2.1))).trans (hHeld.2.2.2.2.2.2.1)
       have HS7_ := (hb.cell (wb (hHeld.2.2.2.2.2.2.2))).trans (hHeld.2.2.2.2.2.2.2)
       refine ⟨_, rfl, ?_⟩
       have n0_ := am (Kd.V_below (q_v (HO_0.out)) hb)
       have n1_ := am (blk_below (q_b BK243.out) hb)
       have n2_ := am (below_step bq hb)
       clear HO_0
       clear BK243
       clear HB
       have HO_0 := n0_
       have BK243 := n1_
       have HB := n2_
       clear n0_ n1_ n2_
       (try clear hb)
       (try clear hb2)
       (try clear hk)
       (try clear hi)
       refine hK.out _ _ ⟨q_z BK243.out 0, q_z BK243.out 1, q_z BK243.out 2, q_z BK243.out 3, HS4_, HS5_, HS6_, HS7_⟩ (fun hHeld => ?_)
       clear hK K
       refine norm_ (a' := ?_) ?_ ?_
       rotate_left
       ·show Act.put _ (some 30) _ = _
        simp only [Act.put, List.setIfInBounds_toArray, List.set_cons_zero, List.set_cons_succ, i64_w, i32_w]
        rfl
       refine q_p 11 (some 31) #[true, true, true, true, true, true, true, true, true, true, true, true, false] HT_.out ?_
       refine q_p 12 (some 32) #[true, true, true, true, true, true, true, true, true, true, true, true, true] HT_.out ?_
       refine done_ (done_of HT_.out (by kernel_rfl)) ?_
       try go_wp2
       go_ret
       exact ⟨_, q_e, q_v (Kd.V_mono HO_0.out (fun _ hk => hk.1)), bq⟩
    ·rw [if_neg c5] at H
     exact absurd H (by simp)
   ·rw [if_neg c4] at H
    have c4b0 := decide_eq_false c4
    clear c4
    obtain ⟨y273, hy273⟩ : ∃ y_ : List (S49), y_ = (([] : List (S49))) := ⟨_, rfl⟩
    replace H : (if 0 ≤ x5_1 then (if x5_1 ≤ (l0.length : Int) then ((some (l0.take (x5_1 : Int).toNat : List (S49))).bind fun y276 => (if y273.length + y276.length < 2932031007402 then ((some (y273 ++ y276 : List (S49))).bind fun y281 => ((some (([(⟨a1_0, a1_1, a1_2, a1_3⟩ : S49)] : List (S49)) : List (S49))).bind fun y284 => (if y281.length + y284.length < 2932031007402 then ((some (y281 ++ y284 : List (S49))).bind fun y287 => ((some (l0.drop (x5_1 : Int).toNat : List (S49))).bind fun y290 => (if y287.length + y290.length < 2932031007402 then (some (y287 ++ y290)) else (none)))) else (none)))) else (none))) else (none)) else (none)) = some r := q_h hy273 H
    have Ny273 := am hy273
    clear hy273
    by_cases c39 : 0 ≤ x5_1
    ·rw [if_pos c39] at H
     have c39b0 := eq_true c39
     have c39b1 := decide_eq_true c39
     clear c39
     by_cases c40 : x5_1 ≤ (l0.length : Int)
     ·rw [if_pos c40] at H
      have c40b0 := eq_true c40
      have c40b1 := decide_eq_true c40
      clear c40
      obtain ⟨y276, hy276⟩ : ∃ y_ : List (S49), y_ = (l0.take (x5_1 : Int).toNat) := ⟨_, rfl⟩
      replace H : (if y273.length + y276.length < 2932031007402 then ((some (y273 ++ y276 : List (S49))).bind fun y281 => ((some (([(⟨a1_0, a1_1, a1_2, a1_3⟩ : S49)] : List (S49)) : List (S49))).bind fun y284 => (if y281.length + y284.length < 2932031007402 then ((some (y281 ++ y284 : List (S49))).bind fun y287 => ((some (l0.drop (x5_1 : Int).toNat : List (S49))).bind fun y290 => (if y287.length + y290.length < 2932031007402 then (some (y287 ++ y290)) else (none)))) else (none)))) else (none)) = some r := q_h hy276 H
      have Ny276 := am hy276
      clear hy276
      by_cases c41 : y273.length + y276.length < 2932031007402
      ·rw [if_pos c41] at H
       have LMc41 := am c41
       clear c41
       obtain ⟨y281, hy281⟩ : ∃ y_ : List (S49), y_ = (y273 ++ y276) := ⟨_, rfl⟩
       replace H : ((some (([(⟨a1_0, a1_1, a1_2, a1_3⟩ : S49)] : List (S49)) : List (S49))).bind fun y284 => (if y281.length + y284.length < 2932031007402 then ((some (y281 ++ y284 : List (S49))).bind fun y287 => ((some (l0.drop (x5_1 : Int).toNat : List (S49))).bind fun y290 => (if y287.length + y290.length < 2932031007402 then (some (y287 ++ y290)) else (none)))) else (none))) = some r := q_h hy281 H
       have Ny281 := am hy281
       clear hy281
       obtain ⟨y284, hy284⟩ : ∃ y_ : List (S49), y_ = (([(⟨a1_0, a1_1, a1_2, a1_3⟩ : S49)] : List (S49))) := ⟨_, rfl⟩
       replace H : (if y281.length + y284.length < 2932031007402 then ((some (y281 ++ y284 : List (S49))).bind fun y287 => ((some (l0.drop (x5_1 : Int).toNat : List (S49))).bind fun y290 => (if y287.length + y290.length < 2932031007402 then (some (y287 ++ y290)) else (none)))) else (none)) = some r := q_h hy284 H
       have Ny284 := am hy284
       clear hy284
       by_cases c42 : y281.length + y284.length < 2932031007402
       ·rw [if_pos c42] at H
        have LMc42 := am c42
        clear c42
        obtain ⟨y287, hy287⟩ : ∃ y_ : List (S49), y_ = (y281 ++ y284) := ⟨_, rfl⟩
        replace H : ((some (l0.drop (x5_1 : Int).toNat : List (S49))).bind fun y290 => (if y287.length + y290.length < 2932031007402 then (some (y287 ++ y290)) else (none))) = some r := q_h hy287 H
        have Ny287 := am hy287
        clear hy287
        have c43b0 := eq_true (q_d : 0 ≤ x5_1)
        have c44b0 := eq_true (q_d : x5_1 ≤ (l0.length : Int))
        obtain ⟨y290, hy290⟩ : ∃ y_ : List (S49), y_ = (l0.drop (x5_1 : Int).toNat) := ⟨_, rfl⟩
        replace H : (if y287.length + y290.length < 2932031007402 then (some (y287 ++ y290)) else (none)) = some r := q_h hy290 H
        have Ny290 := am hy290
        clear hy290
        by_cases c45 : y287.length + y290.length < 2932031007402
        ·rw [if_pos c45] at H
         have LMc45 := am c45
         clear c45
         obtain ⟨y295, hy295⟩ : ∃ y_ : List (S49), y_ = (y287 ++ y290) := ⟨_, rfl⟩
         replace H : (some y295) = some r := q_h hy295 H
         have Ny295 := am hy295
         clear hy295
         obtain rfl := Option.some.inj H
         try go_wp2
         have n0_ := am (Kd.V_drew HO_0.out)
         have n1_ := am (blk_drew BK243.out)
         have n2_ := am (below_drew1 HB.out)
         clear HO_0
         clear BK243
         clear HB
         have HO_0 := n0_
         have BK243 := n1_
         have HB := n2_
         clear n0_ n1_ n2_
         refine start_ (n := 12) (S := fun w' => True) (ds := []) #[false, false, false, false, false, false, false, false, false, false, false, false] (by kernel_rfl) rfl rfl trivial (fun hHeld => ?_); refine with_tabW spec_l5Put.tab2 spec_l5Put.bits2 (fun HT_ HW_ => ?_)
         generalize wr.drew = w46 at HO_0 BK243 HB hHeld ⊢
         refine q_p 0 (some 6) #[true, false, false, false, false, false, false, false, false, false, false, false] HT_.out ?_
         refine q_p 1 (some 7) #[true, true, false, false, false, false, false, false, false, false, false, false] HT_.out ?_
         refine q_p 2 (some 8) #[true, true, true, false, false, false, false, false, false, false, false, false] HT_.out ?_
         refine q_p 3 (some 9) #[true, true, true, true, false, false, false, false, false, false, false, false] HT_.out ?_
         refine q_p 4 (some 10) #[true, true, true, true, true, false, false, false, false, false, false, false] HT_.out ?_
         refine pure_ (i := 5) (N := some 11) (v := undef) (a' := ?_) #[true, true, true, true, true, true, false, false, false, false, false, false] rfl rfl (any_of HT_.out (by kernel_rfl)) (fun _ _ _ h => h) (Or.inr ⟨by rfl, rfl⟩) ?_ ?_
         rotate_left
         ·simp only [Act.put, List.setIfInBounds_toArray, List.set_cons_zero, List.set_cons_succ, i64_w, i32_w]
          rfl
         refine pure_ (i := 6) (N := some 12) (v := undef) (a' := ?_) #[true, true, true, true, true, true, true, false, false, false, false, false] rfl rfl (any_of HT_.out (by kernel_rfl)) (fun _ _ _ h => h) (Or.inr ⟨by rfl, rfl⟩) ?_ ?_
         rotate_left
         ·simp only [Act.put, List.setIfInBounds_toArray, List.set_cons_zero, List.set_cons_succ, i64_w, i32_w]
          rfl
         refine pure_ (i := 7) (N := some 13) (v := undef) (a' := ?_) #[true, true, true, true, true, true, true, true, false, false, false, false] rfl rfl (any_of HT_.out (by kernel_rfl)) (fun _ _ _ h => h) (Or.inr ⟨by rfl, rfl⟩) ?_ ?_
         rotate_left
         ·simp only [Act.put, List.setIfInBounds_toArray, List.set_cons_zero, List.set_cons_succ, i64_w, i32_w]
          rfl
         refine pure_ (i := 8) (N := some 14) (v := undef) (a' := ?_) #[true, true, true, true, true, true, true, true, true, false, false, false] rfl rfl (any_of HT_.out (by kernel_rfl)) (fun _ _ _ h => h) (Or.inr ⟨by rfl, rfl⟩) ?_ ?_
         rotate_left
         ·simp only [Act.put, List.setIfInBounds_toArray, List.set_cons_zero, List.set_cons_succ, i64_w, i32_w]
          rfl
         refine pure_ (i := 9) (N := some 15) (v := undef) (a' := ?_) #[true, true, true, true, true, true, true, true, true, true, false, false] rfl rfl (any_of HT_.out (by kernel_rfl)) (fun _ _ _ h => h) (Or.inr ⟨by rfl, rfl⟩) ?_ ?_
         rotate_left
         ·simp only [Act.put, List.setIfInBounds_toArray, List.set_cons_zero, List.set_cons_succ, i64_w, i32_w]
          rfl
         refine pure_ (i := 10) (N := some 16) (v := undef) (a' := ?_) #[true, true, true, true, true, true, true, true, true, true, true, false] rfl rfl (any_of HT_.out (by kernel_rfl)) (fun _ _ _ h => h) (Or.inr ⟨by rfl, rfl⟩) ?_ ?_
         rotate_left
         ·simp only [Act.put, List.setIfInBounds_toArray, List.set_cons_zero, List.set_cons_succ, i64_w, i32_w]
          rfl
         refine q_p 11 (some 17) #[true, true, true, true, true, true, true, true, true, true, true, true] HT_.out ?_
         refine done_ (done_of HT_.out (by kernel_rfl)) ?_
         try go_wp2
         have n0_ := am (Kd.V_drew HO_0.out)
         have n1_ := am (blk_drew BK243.out)
         have n2_ := am (below_drew1 HB.out)
         clear HO_0
         clear BK243
         clear HB
         have HO_0 := n0_
         have BK243 := n1_
         have HB := n2_
         clear n0_ n1_ n2_
         refine start_ (n := 13) (S := fun w' => True) (ds := []) #[false, false, false, false, false, false, false, false, false, false, false, false, false] (by kernel_rfl) rfl rfl trivial (fun hHeld => ?_); refine with_tabW spec_l5Put.tab4 spec_l5Put.bits4 (fun HT_ HW_ => ?_)
         generalize w46.drew = w47 at HO_0 BK243 HB hHeld ⊢
         refine q_p 0 (some 20) #[true, false, false, false, false, false, false, false, false, false, false, false, false] HT_.out ?_
         refine q_p 1 (some 21) #[true, true, false, false, false, false, false, false, false, false, false, false, false] HT_.out ?_
         refine q_p 2 (some 22) #[true, true, true, false, false, false, false, false, false, false, false, false, false] HT_.out ?_
         refine q_p 3 (some 23) #[true, true, true, true, false, false, false, false, false, false, false, false, false] HT_.out ?_
         refine q_p 4 (some 24) #[true, true, true, true, true, false, false, false, false, false, false, false, false] HT_.out ?_
         refine pure_ (i := 5) (N := some 25) (v := undef) (a' := ?_) #[true, true, true, true, true, true, false, false, false, false, false, false, false] rfl rfl (any_of HT_.out (by kernel_rfl)) (fun _ _ _ h => h) (Or.inr ⟨by rfl, rfl⟩) ?_ ?_
         rotate_left
         ·simp only [Act.put, List.setIfInBounds_toArray, List.set_cons_zero, List.set_cons_succ, i64_w, i32_w]
          rfl
         refine pure_ (i := 6) (N := some 26) (v := undef) (a' := ?_) #[true, true, true, true, true, true, true, false, false, false, false, false, false] rfl rfl (any_of HT_.out (by kernel_rfl)) (fun _ _ _ h => h) (Or.inr ⟨by rfl, rfl⟩) ?_ ?_
         rotate_left
         ·simp only [Act.put, List.setIfInBounds_toArray, List.set_cons_zero, List.set_cons_succ, i64_w, i32_w]
          rfl
         refine pure_ (i := 7) (N := some 27) (v := undef) (a' := ?_) #[true, true, true, true, true, true, true, true, false, false, false, false, false] rfl rfl (any_of HT_.out (by kernel_rfl)) (fun _ _ _ h => h) (Or.inr ⟨by rfl, rfl⟩) ?_ ?_
         rotate_left
         ·simp only [Act.put, List.setIfInBounds_toArray, List.set_cons_zero, List.set_cons_succ, i64_w, i32_w]
          rfl
         refine pure_ (i := 8) (N := some 28) (v := undef) (a' := ?_) #[true, true, true, true, true, true, true, true, true, false, false, false, false] rfl rfl (any_of HT_.out (by kernel_rfl)) (fun _ _ _ h => h) (Or.inr ⟨by rfl, rfl⟩) ?_ ?_
         rotate_left
         ·simp only [Act.put, List.setIfInBounds_toArray, List.set_cons_zero, List.set_cons_succ, i64_w, i32_w]
          rfl
         refine pure_ (i := 9) (N := some 29) (v := undef) (a' := ?_) #[true, true, true, true, true, true, true, true, true, true, false, false, false] rfl rfl (any_of HT_.out (by kernel_rfl)) (fun _ _ _ h => h) (Or.inr ⟨by rfl, rfl⟩) ?_ ?_
         rotate_left
         ·simp only [Act.put, List.setIfInBounds_toArray, List.set_cons_zero, List.set_cons_succ, i64_w, i32_w]
          rfl
         refine pure_ (i := 10) (N := some 30) (v := undef) (a' := ?_) #[true, true, true, true, true, true, true, true, true, true, true, false, false] rfl rfl (any_of HT_.out (by kernel_rfl)) (fun _ _ _ h => h) (Or.inr ⟨by rfl, rfl⟩) ?_ ?_
         rotate_left
         ·simp only [Act.put, List.setIfInBounds_toArray, List.set_cons_zero, List.set_cons_succ, i64_w, i32_w]
          rfl
         refine pure_ (i := 11) (N := some 31) (v := undef) (a' := ?_) #[true, true, true, true, true, true, true, true, true, true, true, true, false] rfl rfl (any_of HT_.out (by kernel_rfl)) (fun _ _ _ h => h) (Or.inr ⟨by rfl, rfl⟩) ?_ ?_
         rotate_left
         ·simp only [Act.put, List.setIfInBounds_toArray, List.set_cons_zero, List.set_cons_succ, i64_w, i32_w]
          rfl
         refine q_p 12 (some 32) #[true, true, true, true, true, true, true, true, true, true, true, true, true] HT_.out ?_
         refine done_ (done_of HT_.out (by kernel_rfl)) ?_
         try go_wp2
         have n0_ := am (Kd.V_drew HO_0.out)
         have n1_ := am (blk_drew BK243.out)
         have n2_ := am (below_drew1 HB.out)
         clear HO_0
         clear BK243
         clear HB
         have HO_0 := n0_
         have BK243 := n1_
         have HB := n2_
         clear n0_ n1_ n2_
         have q49 : (x5_1 : Int) ≤ ((l0.length : Int) : Int) := q_d
         obtain ⟨i049, hi049, _, hsz49, _⟩ := info_parts info49
         have hroom49 : l0.length ≤ c0 := (Kd.V_reads' HO_0.out).2.1
         have hC49 : Kd.F k49 _ _ A0 l0.length l0 := (Kd.V_at (base := w.heap.size) HO_0.out).2.2
         have hcut49 := cut_to (P := Try.prog) 25 49 .i64 Try.underlying25 hi049 A0 l0.length c0 x5_1 q_d q49 hroom49
         have hr49 := Kd.F_take (m := (x5_1 : Int).toNat) hC49 (by omega)
         have hy49 : y276.length = (x5_1 : Int).toNat := (by rw [Ny276.out, List.length_take]; omega)
         rw [← Ny276.out] at hr49
         rw [← hy49] at hcut49
         have HO280 := am (show Kd.V k49 49 _ w.heap.size _ (.slice A0 y276.length c0) y276 from Kd.V_mk (by omega) hr49)
         have HC280 := am (show y276.length ≤ c0 from by omega)
         clear hr49 hC49 hroom49 hi049 hsz49
         have KY49 := am hy49
         clear hy49
         replace q49 := eq_true q49
         have q50 : (x5_1 : Int) ≤ ((l0.length : Int) : Int) := q_d
         obtain ⟨i050, hi050, _, hsz50, _⟩ := info_parts info49
         have hroom50 : l0.length ≤ c0 := (Kd.V_reads' HO_0.out).2.1
         have hC50 : Kd.F k49 _ _ A0 l0.length l0 := (Kd.V_at (base := w.heap.size) HO_0.out).2.2
         have q050 : (0 : Int) ≤ (x5_1 : Int) := q_d
         have hcut50 := cut_from (P := Try.prog) 25 49 .i64 Try.underlying25 hi050 4 hsz50 A0 l0.length c0 x5_1 q050 q50
         have hr50 := Kd.F_cut (m := (x5_1 : Int).toNat) (c := c0) hC50 (by omega) hroom50
         obtain ⟨A50, hA50⟩ : ∃ A1, A1 = (if c0 = (x5_1 : Int).toNat then A0 else (A0 : Option Addr).map (·.add ((x5_1 : Int).toNat * 4))) := ⟨_, rfl⟩
         obtain ⟨c50, hc50⟩ : ∃ c1, c1 = c0 - (x5_1 : Int).toNat := ⟨_, rfl⟩
         have hy50 : y290.length = l0.length - (x5_1 : Int).toNat := (by rw [Ny290.out, List.length_drop] <;> omega)
         rw [show (l0).drop (x5_1 : Int).toNat = y290 from Ny290.out.symm] at hr50
         replace hr50 : Kd.F k49 _ _ A50 y290.length y290 := (by rw [hA50]; exact hr50)
         rw [← hy50, ← hA50, ← hc50] at hcut50
         have HO294 := am (show Kd.V k49 49 _ w.heap.size _ (.slice A50 y290.length c50) y290 from Kd.V_mk (by rw [hy50, hc50]; exact Nat.sub_le_sub_right hroom50 _) hr50)
         have HC294 := am (show y290.length ≤ c50 from by rw [hy50, hc50]; exact Nat.sub_le_sub_right hroom50 _)
         clear hr50 hC50 hroom50 hi050 hsz50 hc50
         have KY50 := am hy50
         have KA50 := am hA50
         clear hy50 hA50
         replace q50 := eq_true q50
         refine start_ (n := 13) (S := fun w' => w'.cell? ⟨gb243, 0, none⟩ = some (.string a1_0) ∧ w'.cell? ⟨gb243, 1, none⟩ = some (.int .i64 a1_1) ∧ w'.cell? ⟨gb243, 2, none⟩ = some (.string a1_2) ∧ w'.cell? ⟨gb243, 3, none⟩ = some (.bool a1_3)) (ds := []) #[false, false, false, false, false, false, false, false, false, false, false, false, false] (by kernel_rfl) rfl rfl ⟨q_z BK243.out 0, q_z BK243.out 1, q_z BK243.out 2, q_z BK243.out 3⟩ (fun hHeld => ?_); refine with_tabW spec_l5Put.tab6 spec_l5Put.bits6 (fun HT_ HW_ => ?_)
         generalize w47.drew = w48 at HO_0 BK243 HB HO280 HO294 hHeld ⊢
         refine q_p 1 (some 35) #[false, true, false, false, false, false, false, false, false, false, false, false, false] HT_.out ?_
         refine q_p 2 (some 36) #[false, true, true, false, false, false, false, false, false, false, false, false, false] HT_.out ?_
         refine q_p 3 (some 37) #[false, true, true, true, false, false, false, false, false, false, false, false, false] HT_.out ?_
         refine q_p 8 (some 42) #[false, true, true, true, false, false, false, false, true, false, false, false, false] HT_.out ?_
         refine q_p 9 (some 43) #[false, true, true, true, false, false, false, false, true, true, false, false, false] HT_.out ?_
         refine q_p 10 (some 44) #[false, true, true, true, false, false, false, false, true, true, true, false, false] HT_.out ?_
         refine q_t 5 (some 39) #[false, true, true, true, false, true, false, false, true, true, true, false, false] HT_.out HW_.out hHeld ?_
         refine join_ (σ := Value × Value × Value) 3 #[true, true, true, true, true, true, true, false, true, true, true, false, false] (fun s_ => [(34, s_.1), (38, s_.2.1), (40, s_.2.2)]) (fun s_ w' => (w'.cell? ⟨gb243, 0, none⟩ = some (.string a1_0) ∧ w'.cell? ⟨gb243, 1, none⟩ = some (.int .i64 a1_1) ∧ w'.cell? ⟨gb243, 2, none⟩ = some (.string a1_2) ∧ w'.cell? ⟨gb243, 3, none⟩ = some (.bool a1_3)) ∧ (Kd.V k49 49 w' w.heap.size (fun k_ => (P0_ k_ ∨ w.heap.size ≤ k_) ∧ some k_ ≠ (s_.2.1 : Value).ownBlock ∧ some k_ ≠ (s_.2.2 : Value).ownBlock ∧ k_ ≠ gb243) (.slice A0 y276.length c0) y276) ∧ (Kd.R k49 49 w' w.heap.size (fun k_ => (w.heap.size ≤ k_) ∧ some k_ ≠ (s_.2.2 : Value).ownBlock ∧ k_ ≠ gb243) s_.2.1 y281) ∧ (Kd.R k49 49 w' w.heap.size (fun k_ => (w.heap.size ≤ k_) ∧ some k_ ≠ (s_.2.1 : Value).ownBlock ∧ k_ ≠ gb243) s_.2.2 y284) ∧ (Kd.V k49 49 w' w.heap.size (fun k_ => (P0_ k_ ∨ w.heap.size ≤ k_) ∧ some k_ ≠ (s_.2.1 : Value).ownBlock ∧ some k_ ≠ (s_.2.2 : Value).ownBlock ∧ k_ ≠ gb243) (.slice A50 y290.length c50) y290) ∧ (Kd.V k49 49 w' w.heap.size (fun k_ => (P0_ k_ ∨ w.heap.size ≤ k_) ∧ some k_ ≠ (s_.2.1 : Value).ownBlock ∧ some k_ ≠ (s_.2.2 : Value).ownBlock ∧ k_ ≠ gb243) (.slice A0 l0.length c0) l0) ∧ (w'.heap[gb243]? = some (.cells #[.string a1_0, .int .i64 a1_1, .string a1_2, .bool a1_3] 49 (0, 0))) ∧ (Below w.heap.size w w')) ?_ ?_
         rotate_left
         ·intro hCont
          refine two_ (i := 0) (j := 6) (Ni := some 34) (Nj := some 40) #[true, true, true, true, false, true, false, false, true, true, true, false, false] #[false, true, true, true, false, true, true, false, true, true, true, false, false] rfl rfl rfl rfl (two_of HT_.out (by kernel_rfl)) (by decide) (by decide) (fun K hK => ?_) (fun K hK => ?_)
          ·skip
           refine Kd.R_lit_step k49 _ 49 ?hg (N := 34) ?hd (xs := ([] : List (S49))) (inner := []) (ok := fun _ => True) (okp := fun _ => True) ?hr ?hp (fun _ hk => hk) trivial (Below.refl _ _) (Nat.le_refl _) (by simp) ?_; (case hd => rfl); (case hg => rfl); (case hr => first | (go_simp; done) | (go_simp; rfl)); (case hp => exact (Reps.none _ _))
           intro v274 w51 ho52 hb hg_ hnew_
           clear hg_ hnew_
           (first | rw [← Ny273.out] at ho52 | (simp only [Int.reduceToNat] at ho52; rw [← Ny273.out] at ho52))
           have n0_ := am (Kd.V_elder' (q_v (HO_0.out)) (Kd.R_base ho52) hb)
           have n1_ := am (Kd.V_elder' (q_v (HO280.out)) (Kd.R_base ho52) hb)
           have n2_ := am (Kd.V_elder' (q_v (HO294.out)) (Kd.R_base ho52) hb)
           have n3_ := am (Kd.R_lower (Kd.R_newB (Kd.R_newM (M := fun k_ => (w.heap.size ≤ k_)) ho52 (below_size bq) (fun k_ h_ => h_)) (q_b BK243.out)) (below_size bq))
           have n4_ := am (blk_below (q_b BK243.out) hb)
           have n5_ := am (below_step bq hb)
           clear HO_0
           clear HO280
           clear HO294
           clear BK243
           clear HB
           have HO_0 := n0_
           have HO280 := n1_
           have HO294 := n2_
           have HO275 := n3_
           have BK243 := n4_
           have HB := n5_
           clear n0_ n1_ n2_ n3_ n4_ n5_
           clear hb ho52
           refine hK.out _ _ ⟨q_z BK243.out 0, q_z BK243.out 1, q_z BK243.out 2, q_z BK243.out 3⟩ (fun hHeld => ?_)
           clear hK K
           refine norm_ (a' := ?_) ?_ ?_
           rotate_left
           ·show Act.put _ (some 34) _ = _
            simp only [Act.put, List.setIfInBounds_toArray, List.set_cons_zero, List.set_cons_succ, i64_w, i32_w]
            rfl
           refine two_ (i := 4) (j := 6) (Ni := some 38) (Nj := some 40) #[true, true, true, true, true, true, false, false, true, true, true, false, false] #[true, true, true, true, false, true, true, false, true, true, true, false, false] rfl rfl rfl rfl (two_of HT_.out (by kernel_rfl)) (by decide) (by decide) (fun K hK => ?_) (fun K hK => ?_)
           ·skip
            refine Kd.R_append_rows_step k49 (w0 := w) w.heap.size (by rfl) (.tmp 34) (.tmp 37) 25 49 (.agg #[(.string ⟨#[]⟩), (.int .i64 0), (.string ⟨#[]⟩), (.bool false)]) 48 rfl Try.underlying25 info49 rfl (by decide) (by omega) v274 y273 y276 _ _ _ (fun k_ => (w.heap.size ≤ k_) ∧ k_ ≠ gb243) (fun _ => False) rfl rfl ?aO ?aR (fun _ _ h => h) (fun _ h => h.elim) ?aF ?aB ?aS ?aL ?_
            (case aR => repeat (first | exact (Kd.V_reads' HO280.out).2.2 | (with_reducible refine Kd.C_alloc ?_ _) | (with_reducible refine Kd.C_drewN ?_ _) | (with_reducible refine Kd.C_drew ?_)))
            (case aB => exact bq)
            (case aF => exact (fun k_ hk => ⟨(Nat.le_trans (below_size bq) hk), Kd.freshB (q_b BK243.out) k_ hk⟩))
            (case aO => exact (by (with_reducible repeat (first | apply Kd.R_alloc | apply Kd.R_drewN | apply Kd.R_drew)); exact Kd.R_mono HO275.out (fun _ hk => ⟨hk.1.1, hk.2⟩)))
            (case aS => exact (below_size bq))
            (case aL => have := LMc41.out; omega)
            intro v282 w53 ho hb hg hat
            rw [← Ny281.out] at ho
            have n0_ := am (Kd.V_afterv (ok := (fun k_ => (P0_ k_ ∨ w.heap.size ≤ k_) ∧ k_ ≠ gb243)) (q_v (HO_0.out)) hg hat)
            have n1_ := am (blk_grown (q_b BK243.out) hg (Kd.R_away HO275.out (fun _ hk => hk.2)))
            have n2_ := am (Kd.V_afterv (ok := (fun k_ => (P0_ k_ ∨ w.heap.size ≤ k_) ∧ k_ ≠ gb243)) (q_v (HO280.out)) hg hat)
            have n3_ := am (Kd.V_afterv (ok := (fun k_ => (P0_ k_ ∨ w.heap.size ≤ k_) ∧ k_ ≠ gb243)) (q_v (HO294.out)) hg hat)
            have n4_ := am (hb)
            have n5_ := am (ho)
            clear HO_0
            clear BK243
            clear HO280
            clear HO294
            clear HB
            clear HO275
            have HO_0 := n0_
            have BK243 := n1_
            have HO280 := n2_
            have HO294 := n3_
            have HB := n4_
            have HO283 := n5_
            clear n0_ n1_ n2_ n3_ n4_ n5_
            clear ho hb hg hat
            refine hK.out _ _ ⟨q_z BK243.out 0, q_z BK243.out 1, q_z BK243.out 2, q_z BK243.out 3⟩ (fun hHeld => ?_)
            clear hK K
            refine norm_ (a' := ?_) ?_ ?_
            rotate_left
            ·show Act.put _ (some 38) _ = _
             simp only [Act.put, List.setIfInBounds_toArray, List.set_cons_zero, List.set_cons_succ, i64_w, i32_w]
             rfl
            refine one_ (i := 6) (N := some 40) #[true, true, true, true, true, true, true, false, true, true, true, false, false] rfl rfl (one_of HT_.out (by kernel_rfl)) (by decide) (fun K hK => ?_)
            refine Kd.R_lit_step k49 _ 49 ?hg (N := 40) ?hd (xs := ([(⟨a1_0, a1_1, a1_2, a1_3⟩ : S49)] : List (S49))) (inner := [.string a1_0, .int .i64 a1_1, .string a1_2, .bool a1_3]) (ok := fun _ => True) (okp := fun _ => True) ?hr ?hp (fun _ hk => hk) trivial (Below.refl _ _) (Nat.le_refl _) (by simp) ?_; (case hd => rfl); (case hg => rfl); (case hr => first | (go_simp; done) | (go_simp; rfl)); (case hp => exact (Reps.c4 (show Kd.M k49 _ _ _ (⟨a1_0, a1_1, a1_2, a1_3⟩ : S49) [.string a1_0, .int .i64 a1_1, .string a1_2, .bool a1_3] from (k49_mkM _ _ _ (⟨a1_0, a1_1, a1_2, a1_3⟩ : S49) )) (Reps.none _ _)))
            intro v285 w54 ho55 hb hg_ hnew_
            clear hg_ hnew_
            (first | rw [← Ny284.out] at ho55 | (simp only [Int.reduceToNat] at ho55; rw [← Ny284.out] at ho55))
            have n0_ := am (Kd.V_elder' (q_v (HO_0.out)) (Kd.R_base ho55) hb)
            have n1_ := am (Kd.V_elder' (q_v (HO280.out)) (Kd.R_base ho55) hb)
            have n2_ := am (Kd.V_elder' (q_v (HO294.out)) (Kd.R_base ho55) hb)
            have n3_ := am (Kd.R_elder' (q_r (HO283.out)) (Kd.R_base ho55) hb)
            have n4_ := am (Kd.R_lower (Kd.R_newB (Kd.R_new' (Kd.R_newM (M := fun k_ => (w.heap.size ≤ k_)) ho55 (below_size bq) (fun k_ h_ => h_)) (Kd.R_lt (q_r (HO283.out)))) (q_b BK243.out)) (below_size bq))
            have n5_ := am (blk_below (q_b BK243.out) hb)
            have n6_ := am (below_step bq hb)
            clear HO_0
            clear HO280
            clear HO294
            clear HO283
            clear BK243
            clear HB
            have HO_0 := n0_
            have HO280 := n1_
            have HO294 := n2_
            have HO283 := n3_
            have HO286 := n4_
            have BK243 := n5_
            have HB := n6_
            clear n0_ n1_ n2_ n3_ n4_ n5_ n6_
            clear hb ho55
            refine hK.out _ _ ⟨q_z BK243.out 0, q_z BK243.out 1, q_z BK243.out 2, q_z BK243.out 3⟩ (fun hHeld => ?_)
            clear hK K
            refine norm_ (a' := ?_) ?_ ?_
            rotate_left
            ·show Act.put _ (some 40) _ = _
             simp only [Act.put, List.setIfInBounds_toArray, List.set_cons_zero, List.set_cons_succ, i64_w, i32_w]
             rfl
            exact norm_ (by simp only [putAll, Act.put, List.setIfInBounds_toArray, List.set_cons_zero, List.set_cons_succ]) (hCont (v274, v282, v285) _ ⟨hHeld, (by (with_reducible repeat (first | apply Kd.V_alloc | apply Kd.V_drewN | apply Kd.V_drew)); exact Kd.V_mono HO280.out (fun _ hk => ⟨hk.1.1.1, ⟨hk.1.2, ⟨hk.2, hk.1.1.2⟩⟩⟩)), (by (with_reducible repeat (first | apply Kd.R_alloc | apply Kd.R_drewN | apply Kd.R_drew)); exact Kd.R_mono HO283.out (fun _ hk => ⟨hk.1.1, ⟨hk.2, hk.1.2⟩⟩)), (by (with_reducible repeat (first | apply Kd.R_alloc | apply Kd.R_drewN | apply Kd.R_drew)); exact Kd.R_mono HO286.out (fun _ hk => ⟨hk.1.1.1, ⟨hk.1.2, hk.2⟩⟩)), (by (with_reducible repeat (first | apply Kd.V_alloc | apply Kd.V_drewN | apply Kd.V_drew)); exact Kd.V_mono HO294.out (fun _ hk => ⟨hk.1.1.1, ⟨hk.1.2, ⟨hk.2, hk.1.1.2⟩⟩⟩)), (by (with_reducible repeat (first | apply Kd.V_alloc | apply Kd.V_drewN | apply Kd.V_drew)); exact Kd.V_mono HO_0.out (fun _ hk => ⟨hk.1.1.1, ⟨hk.1.2, ⟨hk.2, hk.1.1.2⟩⟩⟩)), kq, bq⟩)
           ·skip
            refine Kd.R_lit_step k49 _ 49 ?hg (N := 40) ?hd (xs := ([(⟨a1_0, a1_1, a1_2, a1_3⟩ : S49)] : List (S49))) (inner := [.string a1_0, .int .i64 a1_1, .string a1_2, .bool a1_3]) (ok := fun _ => True) (okp := fun _ => True) ?hr ?hp (fun _ hk => hk) trivial (Below.refl _ _) (Nat.le_refl _) (by simp) ?_; (case hd => rfl); (case hg => rfl); (case hr => first | (go_simp; done) | (go_simp; rfl)); (case hp => exact (Reps.c4 (show Kd.M k49 _ _ _ (⟨a1_0, a1_1, a1_2, a1_3⟩ : S49) [.string a1_0, .int .i64 a1_1, .string a1_2, .bool a1_3] from (k49_mkM _ _ _ (⟨a1_0, a1_1, a1_2, a1_3⟩ : S49) )) (Reps.none _ _)))
            intro v285 w53 ho54 hb hg_ hnew_
            clear hg_ hnew_
            (first | rw [← Ny284.out] at ho54 | (simp only [Int.reduceToNat] at ho54; rw [← Ny284.out] at ho54))
            have n0_ := am (Kd.V_elder' (q_v (HO_0.out)) (Kd.R_base ho54) hb)
            have n1_ := am (Kd.V_elder' (q_v (HO280.out)) (Kd.R_base ho54) hb)
            have n2_ := am (Kd.V_elder' (q_v (HO294.out)) (Kd.R_base ho54) hb)
            have n3_ := am (Kd.R_elder' (q_r (HO275.out)) (Kd.R_base ho54) hb)
            have n4_ := am (Kd.R_lower (Kd.R_newB (Kd.R_new' (Kd.R_newM (M := fun k_ => (w.heap.size ≤ k_)) ho54 (below_size bq) (fun k_ h_ => h_)) (Kd.R_lt (q_r (HO275.out)))) (q_b BK243.out)) (below_size bq))
            have n5_ := am (blk_below (q_b BK243.out) hb)
            have n6_ := am (below_step bq hb)
            clear HO_0
            clear HO280
            clear HO294
            clear HO275
            clear BK243
            clear HB
            have HO_0 := n0_
            have HO280 := n1_
            have HO294 := n2_
            have HO275 := n3_
            have HO286 := n4_
            have BK243 := n5_
            have HB := n6_
            clear n0_ n1_ n2_ n3_ n4_ n5_ n6_
            clear hb ho54
            refine hK.out _ _ ⟨q_z BK243.out 0, q_z BK243.out 1, q_z BK243.out 2, q_z BK243.out 3⟩ (fun hHeld => ?_)
            clear hK K
            refine norm_ (a' := ?_) ?_ ?_
            rotate_left
            ·show Act.put _ (some 40) _ = _
             simp only [Act.put, List.setIfInBounds_toArray, List.set_cons_zero, List.set_cons_succ, i64_w, i32_w]
             rfl
            refine one_ (i := 4) (N := some 38) #[true, true, true, true, true, true, true, false, true, true, true, false, false] rfl rfl (one_of HT_.out (by kernel_rfl)) (by decide) (fun K hK => ?_)
            refine Kd.R_append_rows_step k49 (w0 := w) w.heap.size (by rfl) (.tmp 34) (.tmp 37) 25 49 (.agg #[(.string ⟨#[]⟩), (.int .i64 0), (.string ⟨#[]⟩), (.bool false)]) 48 rfl Try.underlying25 info49 rfl (by decide) (by omega) v274 y273 y276 _ _ _ (fun k_ => (w.heap.size ≤ k_) ∧ some k_ ≠ (v285 : Value).ownBlock ∧ k_ ≠ gb243) (fun _ => False) rfl rfl ?aO ?aR (fun _ _ h => h) (fun _ h => h.elim) ?aF ?aB ?aS ?aL ?_
            (case aR => repeat (first | exact (Kd.V_reads' HO280.out).2.2 | (with_reducible refine Kd.C_alloc ?_ _) | (with_reducible refine Kd.C_drewN ?_ _) | (with_reducible refine Kd.C_drew ?_)))
            (case aB => exact bq)
            (case aF => exact (fun k_ hk => ⟨(Nat.le_trans (below_size bq) hk), Kd.fresh' (Kd.R_lt (q_r (HO286.out))) k_ hk, Kd.freshB (q_b BK243.out) k_ hk⟩))
            (case aO => exact (by (with_reducible repeat (first | apply Kd.R_alloc | apply Kd.R_drewN | apply Kd.R_drew)); exact Kd.R_mono HO275.out (fun _ hk => ⟨hk.1.1.1, ⟨hk.2, hk.1.2⟩⟩)))
            (case aS => exact (below_size bq))
            (case aL => have := LMc41.out; omega)
            intro v282 w55 ho hb hg hat
            rw [← Ny281.out] at ho
            have n0_ := am (Kd.V_afterv (ok := (fun k_ => (P0_ k_ ∨ w.heap.size ≤ k_) ∧ some k_ ≠ (v285 : Value).ownBlock ∧ k_ ≠ gb243)) (by (with_reducible repeat (first | apply Kd.V_alloc | apply Kd.V_drewN | apply Kd.V_drew)); exact Kd.V_mono HO_0.out (fun _ hk => ⟨⟨hk.1.1.1, ⟨hk.2, hk.1.1.2⟩⟩, hk.1.2⟩)) hg hat)
            have n1_ := am (blk_grown (q_b BK243.out) hg (Kd.R_away HO275.out (fun _ hk => hk.1.2)))
            have n2_ := am (Kd.V_afterv (ok := (fun k_ => (P0_ k_ ∨ w.heap.size ≤ k_) ∧ some k_ ≠ (v285 : Value).ownBlock ∧ k_ ≠ gb243)) (by (with_reducible repeat (first | apply Kd.V_alloc | apply Kd.V_drewN | apply Kd.V_drew)); exact Kd.V_mono HO280.out (fun _ hk => ⟨⟨hk.1.1.1, ⟨hk.2, hk.1.1.2⟩⟩, hk.1.2⟩)) hg hat)
            have n3_ := am (Kd.V_afterv (ok := (fun k_ => (P0_ k_ ∨ w.heap.size ≤ k_) ∧ some k_ ≠ (v285 : Value).ownBlock ∧ k_ ≠ gb243)) (by (with_reducible repeat (first | apply Kd.V_alloc | apply Kd.V_drewN | apply Kd.V_drew)); exact Kd.V_mono HO294.out (fun _ hk => ⟨⟨hk.1.1.1, ⟨hk.2, hk.1.1.2⟩⟩, hk.1.2⟩)) hg hat)
            have n4_ := am (Kd.R_after (ok := (fun k_ => (w.heap.size ≤ k_) ∧ k_ ≠ gb243)) (by (with_reducible repeat (first | apply Kd.R_alloc | apply Kd.R_drewN | apply Kd.R_drew)); exact Kd.R_mono HO286.out (fun _ hk => ⟨⟨hk.1.1.1, hk.2⟩, hk.1.2⟩)) hg hat)
            have n5_ := am (hb)
            have n6_ := am (ho)
            clear HO_0
            clear BK243
            clear HO280
            clear HO294
            clear HO286
            clear HB
            clear HO275
            have HO_0 := n0_
            have BK243 := n1_
            have HO280 := n2_
            have HO294 := n3_
            have HO286 := n4_
            have HB := n5_
            have HO283 := n6_
            clear n0_ n1_ n2_ n3_ n4_ n5_ n6_
            clear ho hb hg hat
            refine hK.out _ _ ⟨q_z BK243.out 0, q_z BK243.out 1, q_z BK243.out 2, q_z BK243.out 3⟩ (fun hHeld => ?_)
            clear hK K
            refine norm_ (a' := ?_) ?_ ?_
            rotate_left
            ·show Act.put _ (some 38) _ = _
             simp only [Act.put, List.setIfInBounds_toArray, List.set_cons_zero, List.set_cons_succ, i64_w, i32_w]
             rfl
            exact norm_ (by simp only [putAll, Act.put, List.setIfInBounds_toArray, List.set_cons_zero, List.set_cons_succ]) (hCont (v274, v282, v285) _ ⟨hHeld, (by (with_reducible repeat (first | apply Kd.V_alloc | apply Kd.V_drewN | apply Kd.V_drew)); exact Kd.V_mono HO280.out (fun _ hk => ⟨hk.1.1, ⟨hk.2, ⟨hk.1.2.1, hk.1.2.2⟩⟩⟩)), (q_r (HO283.out)), (by (with_reducible repeat (first | apply Kd.R_alloc | apply Kd.R_drewN | apply Kd.R_drew)); exact Kd.R_mono HO286.out (fun _ hk => ⟨hk.1.1, ⟨hk.2, hk.1.2⟩⟩)), (by (with_reducible repeat (first | apply Kd.V_alloc | apply Kd.V_drewN | apply Kd.V_drew)); exact Kd.V_mono HO294.out (fun _ hk => ⟨hk.1.1, ⟨hk.2, ⟨hk.1.2.1, hk.1.2.2⟩⟩⟩)), (by (with_reducible repeat (first | apply Kd.V_alloc | apply Kd.V_drewN | apply Kd.V_drew)); exact Kd.V_mono HO_0.out (fun _ hk => ⟨hk.1.1, ⟨hk.2, ⟨hk.1.2.1, hk.1.2.2⟩⟩⟩)), kq, bq⟩)
          ·skip
           refine Kd.R_lit_step k49 _ 49 ?hg (N := 40) ?hd (xs := ([(⟨a1_0, a1_1, a1_2, a1_3⟩ : S49)] : List (S49))) (inner := [.string a1_0, .int .i64 a1_1, .string a1_2, .bool a1_3]) (ok := fun _ => True) (okp := fun _ => True) ?hr ?hp (fun _ hk => hk) trivial (Below.refl _ _) (Nat.le_refl _) (by simp) ?_; (case hd => rfl); (case hg => rfl); (case hr => first | (go_simp; done) | (go_simp; rfl)); (case hp => exact (Reps.c4 (show Kd.M k49 _ _ _ (⟨a1_0, a1_1, a1_2, a1_3⟩ : S49) [.string a1_0, .int .i64 a1_1, .string a1_2, .bool a1_3] from (k49_mkM _ _ _ (⟨a1_0, a1_1, a1_2, a1_3⟩ : S49) )) (Reps.none _ _)))
           intro v285 w51 ho52 hb hg_ hnew_
           clear hg_ hnew_
           (first | rw [← Ny284.out] at ho52 | (simp only [Int.reduceToNat] at ho52; rw [← Ny284.out] at ho52))
           have n0_ := am (Kd.V_elder' (q_v (HO_0.out)) (Kd.R_base ho52) hb)
           have n1_ := am (Kd.V_elder' (q_v (HO280.out)) (Kd.R_base ho52) hb)
           have n2_ := am (Kd.V_elder' (q_v (HO294.out)) (Kd.R_base ho52) hb)
           have n3_ := am (Kd.R_lower (Kd.R_newB (Kd.R_newM (M := fun k_ => (w.heap.size ≤ k_)) ho52 (below_size bq) (fun k_ h_ => h_)) (q_b BK243.out)) (below_size bq))
           have n4_ := am (blk_below (q_b BK243.out) hb)
           have n5_ := am (below_step bq hb)
           clear HO_0
           clear HO280
           clear HO294
           clear BK243
           clear HB
           have HO_0 := n0_
           have HO280 := n1_
           have HO294 := n2_
           have HO286 := n3_
           have BK243 := n4_
           have HB := n5_
           clear n0_ n1_ n2_ n3_ n4_ n5_
           clear hb ho52
           refine hK.out _ _ ⟨q_z BK243.out 0, q_z BK243.out 1, q_z BK243.out 2, q_z BK243.out 3⟩ (fun hHeld => ?_)
           clear hK K
           refine norm_ (a' := ?_) ?_ ?_
           rotate_left
           ·show Act.put _ (some 40) _ = _
            simp only [Act.put, List.setIfInBounds_toArray, List.set_cons_zero, List.set_cons_succ, i64_w, i32_w]
            rfl
           refine one_ (i := 0) (N := some 34) #[true, true, true, true, false, true, true, false, true, true, true, false, false] rfl rfl (one_of HT_.out (by kernel_rfl)) (by decide) (fun K hK => ?_)
           refine Kd.R_lit_step k49 _ 49 ?hg (N := 34) ?hd (xs := ([] : List (S49))) (inner := []) (ok := fun _ => True) (okp := fun _ => True) ?hr ?hp (fun _ hk => hk) trivial (Below.refl _ _) (Nat.le_refl _) (by simp) ?_; (case hd => rfl); (case hg => rfl); (case hr => first | (go_simp; done) | (go_simp; rfl)); (case hp => exact (Reps.none _ _))
           intro v274 w53 ho54 hb hg_ hnew_
           clear hg_ hnew_
           (first | rw [← Ny273.out] at ho54 | (simp only [Int.reduceToNat] at ho54; rw [← Ny273.out] at ho54))
           have n0_ := am (Kd.V_elder' (q_v (HO_0.out)) (Kd.R_base ho54) hb)
           have n1_ := am (Kd.V_elder' (q_v (HO280.out)) (Kd.R_base ho54) hb)
           have n2_ := am (Kd.V_elder' (q_v (HO294.out)) (Kd.R_base ho54) hb)
           have n3_ := am (Kd.R_elder' (q_r (HO286.out)) (Kd.R_base ho54) hb)
           have n4_ := am (Kd.R_lower (Kd.R_newB (Kd.R_new' (Kd.R_newM (M := fun k_ => (w.heap.size ≤ k_)) ho54 (below_size bq) (fun k_ h_ => h_)) (Kd.R_lt (q_r (HO286.out)))) (q_b BK243.out)) (below_size bq))
           have n5_ := am (blk_below (q_b BK243.out) hb)
           have n6_ := am (below_step bq hb)
           clear HO_0
           clear HO280
           clear HO294
           clear HO286
           clear BK243
           clear HB
           have HO_0 := n0_
           have HO280 := n1_
           have HO294 := n2_
           have HO286 := n3_
           have HO275 := n4_
           have BK243 := n5_
           have HB := n6_
           clear n0_ n1_ n2_ n3_ n4_ n5_ n6_
           clear hb ho54
           refine hK.out _ _ ⟨q_z BK243.out 0, q_z BK243.out 1, q_z BK243.out 2, q_z BK243.out 3⟩ (fun hHeld => ?_)
           clear hK K
           refine norm_ (a' := ?_) ?_ ?_
           rotate_left
           ·show Act.put _ (some 34) _ = _
            simp only [Act.put, List.setIfInBounds_toArray, List.set_cons_zero, List.set_cons_succ, i64_w, i32_w]
            rfl
           refine one_ (i := 4) (N := some 38) #[true, true, true, true, true, true, true, false, true, true, true, false, false] rfl rfl (one_of HT_.out (by kernel_rfl)) (by decide) (fun K hK => ?_)
           refine Kd.R_append_rows_step k49 (w0 := w) w.heap.size (by rfl) (.tmp 34) (.tmp 37) 25 49 (.agg #[(.string ⟨#[]⟩), (.int .i64 0), (.string ⟨#[]⟩), (.bool false)]) 48 rfl Try.underlying25 info49 rfl (by decide) (by omega) v274 y273 y276 _ _ _ (fun k_ => (w.heap.size ≤ k_) ∧ some k_ ≠ (v285 : Value).ownBlock ∧ k_ ≠ gb243) (fun _ => False) rfl rfl ?aO ?aR (fun _ _ h => h) (fun _ h => h.elim) ?aF ?aB ?aS ?aL ?_
           (case aR => repeat (first | exact (Kd.V_reads' HO280.out).2.2 | (with_reducible refine Kd.C_alloc ?_ _) | (with_reducible refine Kd.C_drewN ?_ _) | (with_reducible refine Kd.C_drew ?_)))
           (case aB => exact bq)
           (case aF => exact (fun k_ hk => ⟨(Nat.le_trans (below_size bq) hk), Kd.fresh' (Kd.R_lt (q_r (HO286.out))) k_ hk, Kd.freshB (q_b BK243.out) k_ hk⟩))
           (case aO => exact (by (with_reducible repeat (first | apply Kd.R_alloc | apply Kd.R_drewN | apply Kd.R_drew)); exact Kd.R_mono HO275.out (fun _ hk => ⟨hk.1.1.1, ⟨hk.1.2, hk.2⟩⟩)))
           (case aS => exact (below_size bq))
           (case aL => have := LMc41.out; omega)
           intro v282 w55 ho hb hg hat
           rw [← Ny281.out] at ho
           have n0_ := am (Kd.V_afterv (ok := (fun k_ => (P0_ k_ ∨ w.heap.size ≤ k_) ∧ some k_ ≠ (v285 : Value).ownBlock ∧ k_ ≠ gb243)) (by (with_reducible repeat (first | apply Kd.V_alloc | apply Kd.V_drewN | apply Kd.V_drew)); exact Kd.V_mono HO_0.out (fun _ hk => ⟨⟨hk.1.1.1, ⟨hk.1.2, hk.1.1.2⟩⟩, hk.2⟩)) hg hat)
           have n1_ := am (blk_grown (q_b BK243.out) hg (Kd.R_away HO275.out (fun _ hk => hk.2)))
           have n2_ := am (Kd.V_afterv (ok := (fun k_ => (P0_ k_ ∨ w.heap.size ≤ k_) ∧ some k_ ≠ (v285 : Value).ownBlock ∧ k_ ≠ gb243)) (by (with_reducible repeat (first | apply Kd.V_alloc | apply Kd.V_drewN | apply Kd.V_drew)); exact Kd.V_mono HO280.out (fun _ hk => ⟨⟨hk.1.1.1, ⟨hk.1.2, hk.1.1.2⟩⟩, hk.2⟩)) hg hat)
           have n3_ := am (Kd.V_afterv (ok := (fun k_ => (P0_ k_ ∨ w.heap.size ≤ k_) ∧ some k_ ≠ (v285 : Value).ownBlock ∧ k_ ≠ gb243)) (by (with_reducible repeat (first | apply Kd.V_alloc | apply Kd.V_drewN | apply Kd.V_drew)); exact Kd.V_mono HO294.out (fun _ hk => ⟨⟨hk.1.1.1, ⟨hk.1.2, hk.1.1.2⟩⟩, hk.2⟩)) hg hat)
           have n4_ := am (Kd.R_after (ok := (fun k_ => (w.heap.size ≤ k_) ∧ k_ ≠ gb243)) (by (with_reducible repeat (first | apply Kd.R_alloc | apply Kd.R_drewN | apply Kd.R_drew)); exact Kd.R_mono HO286.out (fun _ hk => ⟨⟨hk.1.1.1, hk.1.2⟩, hk.2⟩)) hg hat)
           have n5_ := am (hb)
           have n6_ := am (ho)
           clear HO_0
           clear BK243
           clear HO280
           clear HO294
           clear HO286
           clear HB
           clear HO275
           have HO_0 := n0_
           have BK243 := n1_
           have HO280 := n2_
           have HO294 := n3_
           have HO286 := n4_
           have HB := n5_
           have HO283 := n6_
           clear n0_ n1_ n2_ n3_ n4_ n5_ n6_
           clear ho hb hg hat
           refine hK.out _ _ ⟨q_z BK243.out 0, q_z BK243.out 1, q_z BK243.out 2, q_z BK243.out 3⟩ (fun hHeld => ?_)
           clear hK K
           refine norm_ (a' := ?_) ?_ ?_
           rotate_left
           ·show Act.put _ (some 38) _ = _
            simp only [Act.put, List.setIfInBounds_toArray, List.set_cons_zero, List.set_cons_succ, i64_w, i32_w]
            rfl
           exact norm_ (by simp only [putAll, Act.put, List.setIfInBounds_toArray, List.set_cons_zero, List.set_cons_succ]) (hCont (v274, v282, v285) _ ⟨hHeld, (by (with_reducible repeat (first | apply Kd.V_alloc | apply Kd.V_drewN | apply Kd.V_drew)); exact Kd.V_mono HO280.out (fun _ hk => ⟨hk.1.1, ⟨hk.2, ⟨hk.1.2.1, hk.1.2.2⟩⟩⟩)), (q_r (HO283.out)), (by (with_reducible repeat (first | apply Kd.R_alloc | apply Kd.R_drewN | apply Kd.R_drew)); exact Kd.R_mono HO286.out (fun _ hk => ⟨hk.1.1, ⟨hk.2, hk.1.2⟩⟩)), (by (with_reducible repeat (first | apply Kd.V_alloc | apply Kd.V_drewN | apply Kd.V_drew)); exact Kd.V_mono HO294.out (fun _ hk => ⟨hk.1.1, ⟨hk.2, ⟨hk.1.2.1, hk.1.2.2⟩⟩⟩)), (by (with_reducible repeat (first | apply Kd.V_alloc | apply Kd.V_drewN | apply Kd.V_drew)); exact Kd.V_mono HO_0.out (fun _ hk => ⟨hk.1.1, ⟨hk.2, ⟨hk.1.2.1, hk.1.2.2⟩⟩⟩)), kq, bq⟩)
         rintro ⟨v274, v282, v285⟩ w56 ⟨hS_, h0_, h1_, h2_, h3_, h4_, h5_, h6_⟩
         have n0_ : Aside0 (Kd.V k49 49 w56 w.heap.size (fun k_ => (P0_ k_ ∨ w.heap.size ≤ k_) ∧ some k_ ≠ (v282 : Value).ownBlock ∧ some k_ ≠ (v285 : Value).ownBlock ∧ k_ ≠ gb243) (.slice A0 y276.length c0) y276) := ⟨h0_⟩
         have n1_ : Aside0 (Kd.R k49 49 w56 w.heap.size (fun k_ => (w.heap.size ≤ k_) ∧ some k_ ≠ (v285 : Value).ownBlock ∧ k_ ≠ gb243) v282 y281) := ⟨h1_⟩
         have n2_ : Aside0 (Kd.R k49 49 w56 w.heap.size (fun k_ => (w.heap.size ≤ k_) ∧ some k_ ≠ (v282 : Value).ownBlock ∧ k_ ≠ gb243) v285 y284) := ⟨h2_⟩
         have n3_ : Aside0 (Kd.V k49 49 w56 w.heap.size (fun k_ => (P0_ k_ ∨ w.heap.size ≤ k_) ∧ some k_ ≠ (v282 : Value).ownBlock ∧ some k_ ≠ (v285 : Value).ownBlock ∧ k_ ≠ gb243) (.slice A50 y290.length c50) y290) := ⟨h3_⟩
         have n4_ : Aside0 (Kd.V k49 49 w56 w.heap.size (fun k_ => (P0_ k_ ∨ w.heap.size ≤ k_) ∧ some k_ ≠ (v282 : Value).ownBlock ∧ some k_ ≠ (v285 : Value).ownBlock ∧ k_ ≠ gb243) (.slice A0 l0.length c0) l0) := ⟨h4_⟩
         have n5_ : Aside0 (w56.heap[gb243]? = some (.cells #[.string a1_0, .int .i64 a1_1, .string a1_2, .bool a1_3] 49 (0, 0))) := ⟨h5_⟩
         have n6_ : Aside0 (Below w.heap.size w w56) := ⟨h6_⟩
         clear HO_0
         clear BK243
         clear HB
         clear h0_ h1_ h2_ h3_ h4_ h5_ h6_
         have HO280 := n0_
         have HO283 := n1_
         have HO286 := n2_
         have HO294 := n3_
         have HO_0 := n4_
         have BK243 := n5_
         have HB := n6_
         clear n0_ n1_ n2_ n3_ n4_ n5_ n6_
         have hHeld : w56.cell? ⟨gb243, 0, none⟩ = some (.string a1_0) ∧ w56.cell? ⟨gb243, 1, none⟩ = some (.int .i64 a1_1) ∧ w56.cell? ⟨gb243, 2, none⟩ = some (.string a1_2) ∧ w56.cell? ⟨gb243, 3, none⟩ = some (.bool a1_3) := hS_
         obtain ⟨Ao58, co58, eo58⟩ := Kd.R_slice HO286.out
         (first | subst eo58 | (injection eo58 with f1_ f2_ f3_; have f4_ := f1_.symm; have f5_ := f3_.symm; clear f1_ f2_ f3_; subst f4_; subst f5_))
         refine norm_ (a' := ?_) ?_ ?_
         rotate_left
         ·simp only [putAll, Act.put, List.setIfInBounds_toArray, List.set_cons_zero, List.set_cons_succ]
          rfl
         refine one_ (i := 7) (N := some 41) #[true, true, true, true, true, true, true, true, true, true, true, false, false] rfl rfl (one_of HT_.out (by kernel_rfl)) (by decide) (fun K hK => ?_)
         refine Kd.R_append_rows_step k49 (w0 := w) w.heap.size (by rfl) (.tmp 38) (.tmp 40) 25 49 (.agg #[(.string ⟨#[]⟩), (.int .i64 0), (.string ⟨#[]⟩), (.bool false)]) 48 rfl Try.underlying25 info49 rfl (by decide) (by omega) v282 y281 y284 _ _ _ (fun k_ => (w.heap.size ≤ k_) ∧ some k_ ≠ (.slice Ao58 y284.length co58 : Value).ownBlock ∧ k_ ≠ gb243) (fun _ => False) rfl rfl ?aO ?aR (fun _ _ h => h) (fun _ h => h.elim) ?aF ?aB ?aS ?aL ?_
         (case aR => repeat (first | exact (Kd.R_reads' HO286.out).2.2 | (with_reducible refine Kd.C_alloc ?_ _) | (with_reducible refine Kd.C_drewN ?_ _) | (with_reducible refine Kd.C_drew ?_)))
         (case aB => exact bq)
         (case aF => exact (fun k_ hk => ⟨(Nat.le_trans (below_size bq) hk), Kd.fresh' (Kd.R_lt (q_r (HO286.out))) k_ hk, Kd.freshB (q_b BK243.out) k_ hk⟩))
         (case aO => exact (q_r (HO283.out)))
         (case aS => exact (below_size bq))
         (case aL => have := LMc42.out; omega)
         intro v288 w57 ho hb hg hat
         rw [← Ny287.out] at ho
         have n0_ := am (Kd.V_afterv (ok := (fun k_ => (P0_ k_ ∨ w.heap.size ≤ k_) ∧ some k_ ≠ (.slice Ao58 y284.length co58 : Value).ownBlock ∧ k_ ≠ gb243)) (by (with_reducible repeat (first | apply Kd.V_alloc | apply Kd.V_drewN | apply Kd.V_drew)); exact Kd.V_mono HO_0.out (fun _ hk => ⟨⟨hk.1, ⟨hk.2.2.1, hk.2.2.2⟩⟩, hk.2.1⟩)) hg hat)
         have n1_ := am (blk_grown (q_b BK243.out) hg (Kd.R_away HO283.out (fun _ hk => hk.2.2)))
         have n2_ := am (Kd.V_afterv (ok := (fun k_ => (P0_ k_ ∨ w.heap.size ≤ k_) ∧ some k_ ≠ (.slice Ao58 y284.length co58 : Value).ownBlock ∧ k_ ≠ gb243)) (by (with_reducible repeat (first | apply Kd.V_alloc | apply Kd.V_drewN | apply Kd.V_drew)); exact Kd.V_mono HO280.out (fun _ hk => ⟨⟨hk.1, ⟨hk.2.2.1, hk.2.2.2⟩⟩, hk.2.1⟩)) hg hat)
         have n3_ := am (Kd.V_afterv (ok := (fun k_ => (P0_ k_ ∨ w.heap.size ≤ k_) ∧ some k_ ≠ (.slice Ao58 y284.length co58 : Value).ownBlock ∧ k_ ≠ gb243)) (by (with_reducible repeat (first | apply Kd.V_alloc | apply Kd.V_drewN | apply Kd.V_drew)); exact Kd.V_mono HO294.out (fun _ hk => ⟨⟨hk.1, ⟨hk.2.2.1, hk.2.2.2⟩⟩, hk.2.1⟩)) hg hat)
         have n4_ := am (Kd.R_after (ok := (fun k_ => (w.heap.size ≤ k_) ∧ k_ ≠ gb243)) (by (with_reducible repeat (first | apply Kd.R_alloc | apply Kd.R_drewN | apply Kd.R_drew)); exact Kd.R_mono HO286.out (fun _ hk => ⟨⟨hk.1, hk.2.2⟩, hk.2.1⟩)) hg hat)
         have n5_ := am (hb)
         have n6_ := am (ho)
         clear HO_0
         clear BK243
         clear HO280
         clear HO294
         clear HO286
         clear HB
         clear HO283
         have HO_0 := n0_
         have BK243 := n1_
         have HO280 := n2_
         have HO294 := n3_
         have HO286 := n4_
         have HB := n5_
         have HO289 := n6_
         clear n0_ n1_ n2_ n3_ n4_ n5_ n6_
         clear ho hb hg hat
         refine hK.out _ _ ⟨q_z BK243.out 0, q_z BK243.out 1, q_z BK243.out 2, q_z BK243.out 3⟩ (fun hHeld => ?_)
         clear hK K
         refine norm_ (a' := ?_) ?_ ?_
         rotate_left
         ·show Act.put _ (some 41) _ = _
          simp only [Act.put, List.setIfInBounds_toArray, List.set_cons_zero, List.set_cons_succ, i64_w, i32_w]
          rfl
         refine one_ (i := 11) (N := some 45) #[true, true, true, true, true, true, true, true, true, true, true, true, false] rfl rfl (one_of HT_.out (by kernel_rfl)) (by decide) (fun K hK => ?_)
         refine Kd.R_append_rows_step k49 (w0 := w) w.heap.size (by rfl) (.tmp 41) (.tmp 44) 25 49 (.agg #[(.string ⟨#[]⟩), (.int .i64 0), (.string ⟨#[]⟩), (.bool false)]) 48 rfl Try.underlying25 info49 rfl (by decide) (by omega) v288 y287 y290 _ _ _ (fun k_ => (w.heap.size ≤ k_) ∧ some k_ ≠ (.slice Ao58 y284.length co58 : Value).ownBlock ∧ k_ ≠ gb243) (fun _ => False) rfl rfl ?aO ?aR (fun _ _ h => h) (fun _ h => h.elim) ?aF ?aB ?aS ?aL ?_
         (case aR => repeat (first | exact (Kd.V_reads' HO294.out).2.2 | (with_reducible refine Kd.C_alloc ?_ _) | (with_reducible refine Kd.C_drewN ?_ _) | (with_reducible refine Kd.C_drew ?_)))
         (case aB => exact bq)
         (case aF => exact (fun k_ hk => ⟨(Nat.le_trans (below_size bq) hk), Kd.fresh' (Kd.R_lt (q_r (HO286.out))) k_ hk, Kd.freshB (q_b BK243.out) k_ hk⟩))
         (case aO => exact (q_r (HO289.out)))
         (case aS => exact (below_size bq))
         (case aL => have := LMc45.out; omega)
         intro v296 w59 ho hb hg hat
         rw [← Ny295.out] at ho
         have n0_ := am (Kd.V_afterv (ok := (fun k_ => (P0_ k_ ∨ w.heap.size ≤ k_) ∧ some k_ ≠ (.slice Ao58 y284.length co58 : Value).ownBlock ∧ k_ ≠ gb243)) (q_v (HO_0.out)) hg hat)
         have n1_ := am (blk_grown (q_b BK243.out) hg (Kd.R_away HO289.out (fun _ hk => hk.2.2)))
         have n2_ := am (Kd.V_afterv (ok := (fun k_ => (P0_ k_ ∨ w.heap.size ≤ k_) ∧ some k_ ≠ (.slice Ao58 y284.length co58 : Value).ownBlock ∧ k_ ≠ gb243)) (q_v (HO280.out)) hg hat)
         have n3_ := am (Kd.V_afterv (ok := (fun k_ => (P0_ k_ ∨ w.heap.size ≤ k_) ∧ some k_ ≠ (.slice Ao58 y284.length co58 : Value).ownBlock ∧ k_ ≠ gb243)) (q_v (HO294.out)) hg hat)
         have n4_ := am (Kd.R_after (ok := (fun k_ => (w.heap.size ≤ k_) ∧ k_ ≠ gb243)) (q_r (HO286.out)) hg hat)
         have n5_ := am (hb)
         have n6_ := am (ho)
         clear HO_0
         clear BK243
         clear HO280
         clear HO294
         clear HO286
         clear HB
         clear HO289
         have HO_0 := n0_
         have BK243 := n1_
         have HO280 := n2_
         have HO294 := n3_
         have HO286 := n4_
         have HB := n5_
         have HO297 := n6_
         clear n0_ n1_ n2_ n3_ n4_ n5_ n6_
         clear ho hb hg hat
         refine hK.out _ _ ⟨q_z BK243.out 0, q_z BK243.out 1, q_z BK243.out 2, q_z BK243.out 3⟩ (fun hHeld => ?_)
         clear hK K
         refine norm_ (a' := ?_) ?_ ?_
         rotate_left
         ·show Act.put _ (some 45) _ = _
          simp only [Act.put, List.setIfInBounds_toArray, List.set_cons_zero, List.set_cons_succ, i64_w, i32_w]
          rfl
         refine q_p 12 (some 4) #[true, true, true, true, true, true, true, true, true, true, true, true, true] HT_.out ?_
         refine done_ (done_of HT_.out (by kernel_rfl)) ?_
         try go_wp2
         go_ret
         exact ⟨_, q_e, Kd.V_mono (Kd.R_V (q_r (Kd.R_mono HO297.out (fun _ hk => hk.1)))) (fun k_ hk => by first | exact ⟨(.inr (hk.1)), hk.2⟩ | exact (.inr (hk))), bq⟩
        ·rw [if_neg c45] at H
         exact absurd H (by simp)
       ·rw [if_neg c42] at H
        exact absurd H (by simp)
      ·rw [if_neg c41] at H
       exact absurd H (by simp)
     ·rw [if_neg c40] at H
      exact absurd H (by simp)
    ·rw [if_neg c39] at H
     exact absurd H (by simp)

end Go.Proofs.Ytdhlcnlcpjlliaa.PFnExactMergeTables
