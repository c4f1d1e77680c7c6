/- Functions that a law reaches, as plain Lean functions, with the proof that the machine comes to their answers. No conditions. -/
import Derived.Test.YtdhlcnlcpjlliaaPFnTablesx0
import Derived.Test.YtdhlcnlcpjlliaaPFnTablesx3
namespace Go.Proofs.Ytdhlcnlcpjlliaa.PFnTables
open Go.RowKit Go.Proofs.YtdhlcnlcpjlliaaW.PrintWords Go.Proofs.YtdhlcnlcpjlliaaW.PrintLast Go.Proofs.YtdhlcnlcpjlliaaW.PrintMore
attribute [local go_sem] max2_int min2_int max_two min_two max_three min_three max_four min_four   -- for this text's walks alone
set_option linter.unusedVariables false
set_option linter.unusedSimpArgs false
set_option maxHeartbeats 8000000
set_option maxRecDepth 100000

/-! ### spec_l5Put: function 115 -/
def spec_l5Put.l0 : Nat → List (S49) → Int → ByteArray → Int → ByteArray → Bool → Option ((List (S49)))
  | 0, _, _, _, _, _, _ => none
  | k + 1, x0, x5, x129000, x129001, x129002, x129003 => if x5 < (x0.length : Int) then (if 0 ≤ x5 then ((spec_l5Ahead.f ((rd_T49 x0 x5).f0) ((rd_T49 x0 x5).f1) ((rd_T49 x0 x5).f2) ((rd_T49 x0 x5).f3) x129000 x129001 x129002 x129003).bind fun t130 => (if t130 = true then (spec_l5Put.l0 k x0 (wrap64 (x5 + 1)) x129000 x129001 x129002 x129003) else ((spec_l5Ahead.f x129000 x129001 x129002 x129003 ((rd_T49 x0 x5).f0) ((rd_T49 x0 x5).f1) ((rd_T49 x0 x5).f2) ((rd_T49 x0 x5).f3)).bind fun t132 => (if t132 = true then ((some (([] : List (S49)) : List (S49))).bind fun y133 => (if x5 ≤ (x0.length : Int) then ((some (x0.take (x5 : Int).toNat : List (S49))).bind fun y136 => (if y133.length + y136.length < 2932031007402 then ((some (y133 ++ y136 : List (S49))).bind fun y140 => ((some (([(⟨x129000, x129001, x129002, x129003⟩ : S49)] : List (S49)) : List (S49))).bind fun y143 => (if y140.length + y143.length < 2932031007402 then ((some (y140 ++ y143 : List (S49))).bind fun y146 => ((some (x0.drop (x5 : Int).toNat : List (S49))).bind fun y149 => (if y146.length + y149.length < 2932031007402 then (some (y146 ++ y149)) else (none)))) else (none)))) else (none))) else (none))) else (some x0))))) else (none)) else ((some (([] : List (S49)) : List (S49))).bind fun y156 => (if 0 ≤ x5 then (if x5 ≤ (x0.length : Int) then ((some (x0.take (x5 : Int).toNat : List (S49))).bind fun y159 => (if y156.length + y159.length < 2932031007402 then ((some (y156 ++ y159 : List (S49))).bind fun y163 => ((some (([(⟨x129000, x129001, x129002, x129003⟩ : S49)] : List (S49)) : List (S49))).bind fun y166 => (if y163.length + y166.length < 2932031007402 then ((some (y163 ++ y166 : List (S49))).bind fun y169 => ((some (x0.drop (x5 : Int).toNat : List (S49))).bind fun y172 => (if y169.length + y172.length < 2932031007402 then (some (y169 ++ y172)) else (none)))) else (none)))) else (none))) else (none)) else (none)))
def spec_l5Put.f (k : Nat) (l0 : List (S49)) (a1_0 : ByteArray) (a1_1 : Int) (a1_2 : ByteArray) (a1_3 : Bool) : Option ((List (S49))) := spec_l5Put.l0 k l0 0 a1_0 a1_1 a1_2 a1_3
def spec_l5Put.T2 : Bool × List (List Nat × List Nat) := (true, [([], []), ([], []), ([1], [1]), ([0, 2], [0, 2]), ([3], [3]), ([4], [4]), ([4], [4]), ([5, 6, 4], [4, 5, 6]), ([7, 4], [4, 7]), ([4], [4]), ([8, 9, 4, 4], [4, 8, 9]), ([4, 10], [4, 10])])
def spec_l5Put.B2 : List Nat := [0, 0, 2, 7, 15, 31, 31, 127, 255, 31, 1023, 2047]
theorem spec_l5Put.tab2 : rtab .any (opsOf Try.f115 2) = spec_l5Put.T2 := by kernel_rfl
theorem spec_l5Put.bits2 : waitsOk spec_l5Put.T2.2 spec_l5Put.B2 = true := by kernel_rfl
def spec_l5Put.T4 : Bool × List (List Nat × List Nat) := (true, [([], []), ([], []), ([1], [1]), ([0, 2], [0, 2]), ([3], [3]), ([4], [4]), ([4], [4]), ([4], [4]), ([6, 7, 4], [4, 6, 7]), ([8, 4], [4, 8]), ([5, 9, 4, 4], [4, 5, 9]), ([10, 4], [4, 10]), ([4, 11], [4, 11])])
def spec_l5Put.B4 : List Nat := [0, 0, 2, 7, 15, 31, 31, 31, 223, 479, 1023, 2047, 4095]
theorem spec_l5Put.tab4 : rtab .any (opsOf Try.f115 4) = spec_l5Put.T4 := by kernel_rfl
theorem spec_l5Put.bits4 : waitsOk spec_l5Put.T4.2 spec_l5Put.B4 = true := by kernel_rfl
def spec_l5Put.T6 : Bool × List (List Nat × List Nat) := (true, [([], []), ([], []), ([], []), ([1, 2], [1, 2]), ([0, 3], [0, 3]), ([], []), ([5], [5]), ([4, 6, 4], [4, 6]), ([], []), ([], []), ([8, 9], [8, 9]), ([7, 10, 7], [7, 10]), ([11, 11, 0, 1, 2, 3, 4, 5, 6, 7, 8, 9, 10, 11], [11])])
def spec_l5Put.B6 : List Nat := [0, 0, 0, 6, 15, 0, 32, 127, 0, 0, 768, 2047, 4095]
theorem spec_l5Put.tab6 : rtab .any (opsOf Try.f115 6) = spec_l5Put.T6 := by kernel_rfl
theorem spec_l5Put.bits6 : waitsOk spec_l5Put.T6.2 spec_l5Put.B6 = true := by kernel_rfl
theorem spec_l5Put.calls (k : Nat) (P0_ : Nat → Prop) (u9000_ : Value) (l0 : List (S49)) (a1_0 : ByteArray) (a1_1 : Int) (a1_2 : ByteArray) (a1_3 : Bool) (r : List (S49)) (w0 w : World) (hB : Below w0.heap.size w0 w) (ho0 : Kd.R k49 49 w w0.heap.size P0_ u9000_ l0) (h : spec_l5Put.f k l0 a1_0 a1_1 a1_2 a1_3 = some r) :
  Calls Try.prog 115 #[u9000_, .agg #[.string a1_0, .int .i64 a1_1, .string a1_2, .bool a1_3]] w fun e w' => ∃ v0_ : Value, e = .returned (v0_) ∧ Kd.R k49 49 w' w0.heap.size (fun k_ => (P0_ k_ ∨ w.heap.size ≤ k_)) v0_ r ∧ Below w0.heap.size w0 w' ∧ Kept w w' (fun k_ => P0_ k_) := by
 have hu49 := Try.underlying49
 have HO0 := am (show Kd.R k49 49 w w0.heap.size (fun k_ => (P0_ k_ ∨ w.heap.size ≤ k_)) u9000_ l0 from Kd.R_mono ho0 (fun k_ hk => (.inl hk)))
 have HK := am (Kept.refl w (fun k_ => P0_ k_))
 have HW0 := am hB.size
 have HB := am hB
 clear hB
 have H : (spec_l5Put.l0 k l0 0 a1_0 a1_1 a1_2 a1_3) = some r := h
 clear h
 have H' := am H
 clear H
 go_enter Try.func115, Try.ntmps115
 go_wp2_with (first | ((with_reducible refine gate_dst (N := 3) rfl ?_); refine q_box (N := 3) (cs := #[.string a1_0, .int .i64 a1_1, .string a1_2, .bool a1_3]) (t := 49) ?_; intro gb128 hg w3 hbox hb; have n0_ := am (Kd.R_below (Kd.R_elderB (q_r (HO0.out)) gb128 (Nat.le_of_eq hg.symm)) hb); have n1_ := am (Kept.below (S := (fun k_ => P0_ k_)) q_k hb); have n2_ := am (below_step bq hb); have n3_ := am (hbox); have n4_ := am ((by rw [hg]; exact (by first | exact HK.out.1 | exact (show Kept w _ (fun k_ => P0_ k_) from q_k).1) : w.heap.size ≤ gb128)); have n5_ := am ((q_g hg bq : w0.heap.size ≤ gb128)); revert n0_ n1_ n2_ n3_ n4_ n5_; clear HO0 HK HB; intro HO0 HK HB BK128 GW128 GE128; clear hb hbox hg))
 go_loopg [5] k (fun kq v5 w' => ∃ (x5_1 : Int), v5 = .int .i64 x5_1 ∧ Aside0 (spec_l5Put.l0 kq l0 x5_1 a1_0 a1_1 a1_2 a1_3 = some r) ∧ Aside0 (kq ≤ k) ∧ Aside0 (Kd.R k49 49 w' w0.heap.size (fun k_ => (P0_ k_ ∨ w.heap.size ≤ k_) ∧ k_ ≠ gb128) u9000_ l0) ∧ Aside0 (w'.heap[gb128]? = some (.cells #[.string a1_0, .int .i64 a1_1, .string a1_2, .bool a1_3] 49 (0, 0))) ∧ Aside0 (Kept w w' (fun k_ => P0_ k_)) ∧ Aside0 (Below w0.heap.size w0 w'))
 case atStart => exact ⟨(0), q_i, H', ⟨Nat.le_refl _⟩, ⟨q_r (HO0.out)⟩, ⟨q_b BK128.out⟩, ⟨by repeat (first | (with_reducible first | exact HK.out | apply Kept.alloc | apply Kept.drewN | apply Kept.drew | refine Kept.setCell ?_ (.inr GW128.out) _) | exact HK.out)⟩, ⟨bq⟩⟩
 case round =>
  clear H'
  (try clear c1); (try clear p2)
  obtain ⟨x5_1, rfl, HA, HK1, HO_0, BK128, HK, HB⟩ := hrel
  cases gk with
  | zero => exact absurd HA.out (by simp [spec_l5Put.l0])
  | succ k1 =>
   have H := HA.out
   clear HA
   simp only [spec_l5Put.l0] at H
   by_cases c4 : x5_1 < (l0.length : Int)
   ·rw [if_pos c4] at H
    have c4b0 := decide_eq_true c4
    clear c4
    by_cases c5 : 0 ≤ x5_1
    ·rw [if_pos c5] at H
     have c5b0 := decide_eq_true c5
     clear c5
     replace H := ob H
     obtain ⟨t130, A60, H⟩ := H
     replace H : (if t130 = true then (spec_l5Put.l0 k1 l0 (wrap64 (x5_1 + 1)) a1_0 a1_1 a1_2 a1_3) else ((spec_l5Ahead.f a1_0 a1_1 a1_2 a1_3 ((rd_T49 l0 x5_1).f0) ((rd_T49 l0 x5_1).f1) ((rd_T49 l0 x5_1).f2) ((rd_T49 l0 x5_1).f3)).bind fun t132 => (if t132 = true then ((some (([] : List (S49)) : List (S49))).bind fun y133 => (if x5_1 ≤ (l0.length : Int) then ((some (l0.take (x5_1 : Int).toNat : List (S49))).bind fun y136 => (if y133.length + y136.length < 2932031007402 then ((some (y133 ++ y136 : List (S49))).bind fun y140 => ((some (([(⟨a1_0, a1_1, a1_2, a1_3⟩ : S49)] : List (S49)) : List (S49))).bind fun y143 => (if y140.length + y143.length < 2932031007402 then ((some (y140 ++ y143 : List (S49))).bind fun y146 => ((some (l0.drop (x5_1 : Int).toNat : List (S49))).bind fun y149 => (if y146.length + y149.length < 2932031007402 then (some (y146 ++ y149)) else (none)))) else (none)))) else (none))) else (none))) else (some l0)))) = some r := H
     have A6 := am A60
     clear A60
     by_cases c7 : t130 = true
     ·subst c7
      have H1 : (spec_l5Put.l0 k1 l0 (wrap64 (x5_1 + 1)) a1_0 a1_1 a1_2 a1_3) = some r := by rw [if_pos rfl] at H; exact H
      clear H
      have H := H1
      clear H1
      have H' := am H
      clear H
      try go_wp2
      have n0_ := am (Kd.R_drew HO_0.out)
      have n1_ := am (blk_drew BK128.out)
      have n2_ := am (Kept.drew HK.out)
      have n3_ := am (below_drew1 HB.out)
      clear HO_0
      clear BK128
      clear HK
      clear HB
      have HO_0 := n0_
      have BK128 := n1_
      have HK := n2_
      have HB := n3_
      clear n0_ n1_ n2_ n3_
      obtain ⟨Ao9, co9, eo9⟩ := Kd.R_slice HO_0.out
      (first | subst eo9 | (injection eo9 with f1_ f2_ f3_; have f4_ := f1_.symm; have f5_ := f3_.symm; clear f1_ f2_ f3_; subst f4_; subst f5_))
      have p129 : 0 ≤ (x5_1 : Int) := q_d
      have q129 : x5_1 < (l0.length : Int) := q_d
      obtain ⟨ad129, e129, hx129_0, hx129_1, hx129_2, hx129_3⟩ := at_T49 (Kd.R_reads' HO_0.out).2.2 x5_1 p129 q129
      cases e129
      replace p129 := eq_true p129
      replace q129 := eq_true q129
      refine start_ (n := 12) (S := fun w' => w'.cell? ⟨gb128, 0, none⟩ = some (.string a1_0) ∧ w'.cell? ⟨gb128, 1, none⟩ = some (.int .i64 a1_1) ∧ w'.cell? ⟨gb128, 2, none⟩ = some (.string a1_2) ∧ w'.cell? ⟨gb128, 3, none⟩ = some (.bool a1_3) ∧ w'.cell? (ad129.add ((x5_1).toNat * 4)) = some (.string ((rd_T49 l0 x5_1).f0)) ∧ w'.cell? ⟨(ad129.add ((x5_1).toNat * 4)).block, (ad129.add ((x5_1).toNat * 4)).off + 1, none⟩ = some (.int .i64 ((rd_T49 l0 x5_1).f1)) ∧ w'.cell? ⟨(ad129.add ((x5_1).toNat * 4)).block, (ad129.add ((x5_1).toNat * 4)).off + 2, none⟩ = some (.string ((rd_T49 l0 x5_1).f2)) ∧ w'.cell? ⟨(ad129.add ((x5_1).toNat * 4)).block, (ad129.add ((x5_1).toNat * 4)).off + 3, none⟩ = some (.bool ((rd_T49 l0 x5_1).f3))) (ds := []) #[false, false, false, false, false, false, false, false, false, false, false, false] (by kernel_rfl) rfl rfl ⟨q_z BK128.out 0, q_z BK128.out 1, q_z BK128.out 2, q_z BK128.out 3, hx129_0, hx129_1, hx129_2, hx129_3⟩ (fun hHeld => ?_); refine with_tabW spec_l5Put.tab2 spec_l5Put.bits2 (fun HT_ HW_ => ?_)
      generalize wr.drew = w8 at HO_0 BK128 HK HB hx129_0 hx129_1 hx129_2 hx129_3 hHeld ⊢
      refine q_p 0 (some 6) #[true, false, false, false, false, false, false, false, false, false, false, false] HT_.out ?_
      refine q_p 1 (some 7) #[true, true, false, false, false, false, false, false, false, false, false, false] HT_.out ?_
      refine q_p 2 (some 8) #[true, true, true, false, false, false, false, false, false, false, false, false] HT_.out ?_
      refine q_p 3 (some 9) #[true, true, true, true, false, false, false, false, false, false, false, false] HT_.out ?_
      refine q_p 4 (some 10) #[true, true, true, true, true, false, false, false, false, false, false, false] HT_.out ?_
      refine q_p 5 (some 11) #[true, true, true, true, true, true, false, false, false, false, false, false] HT_.out ?_
      refine q_p 6 (some 12) #[true, true, true, true, true, true, true, false, false, false, false, false] HT_.out ?_
      refine q_p 7 (some 13) #[true, true, true, true, true, true, true, true, false, false, false, false] HT_.out ?_
      refine q_t 8 (some 14) #[true, true, true, true, true, true, true, true, true, false, false, false] HT_.out HW_.out hHeld ?_
      refine q_t 9 (some 15) #[true, true, true, true, true, true, true, true, true, true, false, false] HT_.out HW_.out hHeld ?_
      refine one_ (i := 10) (N := some 16) #[true, true, true, true, true, true, true, true, true, true, true, false] rfl rfl (one_of HT_.out (by kernel_rfl)) (by decide) (fun K hK => ?_)
      refine goes_ Try.func64 (by kernel_rfl) rfl #[.agg #[.string ((rd_T49 l0 x5_1).f0), .int .i64 ((rd_T49 l0 x5_1).f1), .string ((rd_T49 l0 x5_1).f2), .bool ((rd_T49 l0 x5_1).f3)], .agg #[.string a1_0, .int .i64 a1_1, .string a1_2, .bool a1_3]] (by rfl) rfl rfl (by (try simp only [List.map_toArray, List.map_cons, List.map_nil]); first | done | rfl | (simp only [List.length_drop, List.length_take]; rfl)) ?_
      with_reducible refine (spec_l5Ahead.calls ((rd_T49 l0 x5_1).f0) ((rd_T49 l0 x5_1).f1) ((rd_T49 l0 x5_1).f2) ((rd_T49 l0 x5_1).f3) a1_0 a1_1 a1_2 a1_3 true _ A6.out).mono ?_
      rintro e w10 ⟨rfl, hb⟩
      have HS4_ := (hb.cell (wb (hHeld.2.2.2.2.1))).trans (hHeld.2.2.2.2.1)
      have HS5_ := (hb.cell (wb (hHeld.2.2.2.2.2.1))).trans (hHeld.2.2.2.2.2.1)
      have HS6_ := (hb.cell (wb (hHeld.2.2.2.2.2.2.1))).trans (hHeld.2.2.2.2.2.2.1)
      have HS7_ := (hb.cell (wb (hHeld.2.2.2.2.2.2.2))).trans (hHeld.2.2.2.2.2.2.2)
      refine ⟨_, rfl, ?_⟩
      have n0_ := am (Kd.R_below (q_r (HO_0.out)) hb)
      have n1_ := am (blk_below (q_b BK128.out) hb)
      have n2_ := am (Kept.below (S := (fun k_ => P0_ k_)) (by repeat (first | (with_reducible first | exact HK.out | apply Kept.alloc | apply Kept.drewN | apply Kept.drew | refine Kept.setCell ?_ (.inr GW128.out) _) | exact HK.out)) hb)
      have n3_ := am (below_step bq hb)
      clear HO_0
      clear BK128
      clear HK
      clear HB
      have HO_0 := n0_
      have BK128 := n1_
      have HK := n2_
      have HB := n3_
      clear n0_ n1_ n2_ n3_
      (try clear hb)
      (try clear hb2)
      (try clear hk)
      (try clear hi)
      refine hK.out _ _ ⟨q_z BK128.out 0, q_z BK128.out 1, q_z BK128.out 2, q_z BK128.out 3, HS4_, HS5_, HS6_, HS7_⟩ (fun hHeld => ?_)
      clear hK K
      refine norm_ (a' := ?_) ?_ ?_
      rotate_left
      ·show Act.put _ (some 16) _ = _
       simp only [Act.put, List.setIfInBounds_toArray, List.set_cons_zero, List.set_cons_succ, i64_w, i32_w]
       rfl
      refine q_p 11 (some 17) #[true, true, true, true, true, true, true, true, true, true, true, true] HT_.out ?_
      refine done_ (done_of HT_.out (by kernel_rfl)) ?_
      try go_wp2
      go_roundg k1
      case measure => have := HK1.out; omega
      case rel => exact ⟨(wrap64 (x5_1 + 1)), q_i, H', ⟨by have := HK1.out; omega⟩, ⟨q_r (HO_0.out)⟩, ⟨q_b BK128.out⟩, ⟨by repeat (first | (with_reducible first | exact HK.out | apply Kept.alloc | apply Kept.drewN | apply Kept.drew | refine Kept.setCell ?_ (.inr GW128.out) _) | exact HK.out)⟩, ⟨bq⟩⟩
     ·replace c7 := Bool.eq_false_iff.mpr c7
      subst c7
      have H1 : ((spec_l5Ahead.f a1_0 a1_1 a1_2 a1_3 ((rd_T49 l0 x5_1).f0) ((rd_T49 l0 x5_1).f1) ((rd_T49 l0 x5_1).f2) ((rd_T49 l0 x5_1).f3)).bind fun t132 => (if t132 = true then ((some (([] : List (S49)) : List (S49))).bind fun y133 => (if x5_1 ≤ (l0.length : Int) then ((some (l0.take (x5_1 : Int).toNat : List (S49))).bind fun y136 => (if y133.length + y136.length < 2932031007402 then ((some (y133 ++ y136 : List (S49))).bind fun y140 => ((some (([(⟨a1_0, a1_1, a1_2, a1_3⟩ : S49)] : List (S49)) : List (S49))).bind fun y143 => (if y140.length + y143.length < 2932031007402 then ((some (y140 ++ y143 : List (S49))).bind fun y146 => ((some (l0.drop (x5_1 : Int).toNat : List (S49))).bind fun y149 => (if y146.length + y149.length < 2932031007402 then (some (y146 ++ y149)) else (none)))) else (none)))) else (none))) else (none))) else (some l0))) = some r := by rw [if_neg (show ¬ (false = true) by decide)] at H; exact H
      clear H
      have H := H1
      clear H1
      replace H := ob H
      obtain ⟨t132, A110, H⟩ := H
      replace H : (if t132 = true then ((some (([] : List (S49)) : List (S49))).bind fun y133 => (if x5_1 ≤ (l0.length : Int) then ((some (l0.take (x5_1 : Int).toNat : List (S49))).bind fun y136 => (if y133.length + y136.length < 2932031007402 then ((some (y133 ++ y136 : List (S49))).bind fun y140 => ((some (([(⟨a1_0, a1_1, a1_2, a1_3⟩ : S49)] : List (S49)) : List (S49))).bind fun y143 => (if y140.length + y143.length < 2932031007402 then ((some (y140 ++ y143 : List (S49))).bind fun y146 => ((some (l0.drop (x5_1 : Int).toNat : List (S49))).bind fun y149 => (if y146.length + y149.length < 2932031007402 then (some (y146 ++ y149)) else (none)))) else (none)))) else (none))) else (none))) else (some l0)) = some r := H
      have A11 := am A110
      clear A110
      by_cases c12 : t132 = true
      ·subst c12
       have H1 : ((some (([] : List (S49)) : List (S49))).bind fun y133 => (if x5_1 ≤ (l0.length : Int) then ((some (l0.take (x5_1 : Int).toNat : List (S49))).bind fun y136 => (if y133.length + y136.length < 2932031007402 then ((some (y133 ++ y136 : List (S49))).bind fun y140 => ((some (([(⟨a1_0, a1_1, a1_2, a1_3⟩ : S49)] : List (S49)) : List (S49))).bind fun y143 => (if y140.length + y143.length < 2932031007402 then ((some (y140 ++ y143 : List (S49))).bind fun y146 => ((some (l0.drop (x5_1 : Int).toNat : List (S49))).bind fun y149 => (if y146.length + y149.length < 2932031007402 then (some (y146 ++ y149)) else (none)))) else (none)))) else (none))) else (none))) = some r := by rw [if_pos rfl] at H; exact H
       clear H
       have H := H1
       clear H1
       obtain ⟨y133, hy133⟩ : ∃ y_ : List (S49), y_ = (([] : List (S49))) := ⟨_, rfl⟩
       replace H : (if x5_1 ≤ (l0.length : Int) then ((some (l0.take (x5_1 : Int).toNat : List (S49))).bind fun y136 => (if y133.length + y136.length < 2932031007402 then ((some (y133 ++ y136 : List (S49))).bind fun y140 => ((some (([(⟨a1_0, a1_1, a1_2, a1_3⟩ : S49)] : List (S49)) : List (S49))).bind fun y143 => (if y140.length + y143.length < 2932031007402 then ((some (y140 ++ y143 : List (S49))).bind fun y146 => ((some (l0.drop (x5_1 : Int).toNat : List (S49))).bind fun y149 => (if y146.length + y149.length < 2932031007402 then (some (y146 ++ y149)) else (none)))) else (none)))) else (none))) else (none)) = some r := q_h hy133 H
       have Ny133 := am hy133
       clear hy133
       have c13b0 := eq_true (q_d : 0 ≤ x5_1)
       by_cases c14 : x5_1 ≤ (l0.length : Int)
       ·rw [if_pos c14] at H
        have c14b0 := eq_true c14
        have c14b1 := decide_eq_true c14
        clear c14
        obtain ⟨y136, hy136⟩ : ∃ y_ : List (S49), y_ = (l0.take (x5_1 : Int).toNat) := ⟨_, rfl⟩
        replace H : (if y133.length + y136.length < 2932031007402 then ((some (y133 ++ y136 : List (S49))).bind fun y140 => ((some (([(⟨a1_0, a1_1, a1_2, a1_3⟩ : S49)] : List (S49)) : List (S49))).bind fun y143 => (if y140.length + y143.length < 2932031007402 then ((some (y140 ++ y143 : List (S49))).bind fun y146 => ((some (l0.drop (x5_1 : Int).toNat : List (S49))).bind fun y149 => (if y146.length + y149.length < 2932031007402 then (some (y146 ++ y149)) else (none)))) else (none)))) else (none)) = some r := q_h hy136 H
        have Ny136 := am hy136
        clear hy136
        by_cases c15 : y133.length + y136.length < 2932031007402
        ·rw [if_pos c15] at H
         have LMc15 := am c15
         clear c15
         obtain ⟨y140, hy140⟩ : ∃ y_ : List (S49), y_ = (y133 ++ y136) := ⟨_, rfl⟩
         replace H : ((some (([(⟨a1_0, a1_1, a1_2, a1_3⟩ : S49)] : List (S49)) : List (S49))).bind fun y143 => (if y140.length + y143.length < 2932031007402 then ((some (y140 ++ y143 : List (S49))).bind fun y146 => ((some (l0.drop (x5_1 : Int).toNat : List (S49))).bind fun y149 => (if y146.length + y149.length < 2932031007402 then (some (y146 ++ y149)) else (none)))) else (none))) = some r := q_h hy140 H
         have Ny140 := am hy140
         clear hy140
         obtain ⟨y143, hy143⟩ : ∃ y_ : List (S49), y_ = (([(⟨a1_0, a1_1, a1_2, a1_3⟩ : S49)] : List (S49))) := ⟨_, rfl⟩
         replace H : (if y140.length + y143.length < 2932031007402 then ((some (y140 ++ y143 : List (S49))).bind fun y146 => ((some (l0.drop (x5_1 : Int).toNat : List (S49))).bind fun y149 => (if y146.length + y149.length < 2932031007402 then (some (y146 ++ y149)) else (none)))) else (none)) = some r := q_h hy143 H
         have Ny143 := am hy143
         clear hy143
         by_cases c16 : y140.length + y143.length < 2932031007402
         ·rw [if_pos c16] at H
          have LMc16 := am c16
          clear c16
          obtain ⟨y146, hy146⟩ : ∃ y_ : List (S49), y_ = (y140 ++ y143) := ⟨_, rfl⟩
          replace H : ((some (l0.drop (x5_1 : Int).toNat : List (S49))).bind fun y149 => (if y146.length + y149.length < 2932031007402 then (some (y146 ++ y149)) else (none))) = some r := q_h hy146 H
          have Ny146 := am hy146
          clear hy146
          have c17b0 := eq_true (q_d : 0 ≤ x5_1)
          have c18b0 := eq_true (q_d : x5_1 ≤ (l0.length : Int))
          obtain ⟨y149, hy149⟩ : ∃ y_ : List (S49), y_ = (l0.drop (x5_1 : Int).toNat) := ⟨_, rfl⟩
          replace H : (if y146.length + y149.length < 2932031007402 then (some (y146 ++ y149)) else (none)) = some r := q_h hy149 H
          have Ny149 := am hy149
          clear hy149
          by_cases c19 : y146.length + y149.length < 2932031007402
          ·rw [if_pos c19] at H
           have LMc19 := am c19
           clear c19
           obtain ⟨y153, hy153⟩ : ∃ y_ : List (S49), y_ = (y146 ++ y149) := ⟨_, rfl⟩
           replace H : (some y153) = some r := q_h hy153 H
           have Ny153 := am hy153
           clear hy153
           obtain rfl := Option.some.inj H
           try go_wp2
           have n0_ := am (Kd.R_drew HO_0.out)
           have n1_ := am (blk_drew BK128.out)
           have n2_ := am (Kept.drew HK.out)
           have n3_ := am (below_drew1 HB.out)
           clear HO_0
           clear BK128
           clear HK
           clear HB
           have HO_0 := n0_
           have BK128 := n1_
           have HK := n2_
           have HB := n3_
           clear n0_ n1_ n2_ n3_
           obtain ⟨Ao21, co21, eo21⟩ := Kd.R_slice HO_0.out
           (first | subst eo21 | (injection eo21 with f1_ f2_ f3_; have f4_ := f1_.symm; have f5_ := f3_.symm; clear f1_ f2_ f3_; subst f4_; subst f5_))
           have p129 : 0 ≤ (x5_1 : Int) := q_d
           have q129 : x5_1 < (l0.length : Int) := q_d
           obtain ⟨ad129, e129, hx129_0, hx129_1, hx129_2, hx129_3⟩ := at_T49 (Kd.R_reads' HO_0.out).2.2 x5_1 p129 q129
           cases e129
           replace p129 := eq_true p129
           replace q129 := eq_true q129
           refine start_ (n := 12) (S := fun w' => w'.cell? ⟨gb128, 0, none⟩ = some (.string a1_0) ∧ w'.cell? ⟨gb128, 1, none⟩ = some (.int .i64 a1_1) ∧ w'.cell? ⟨gb128, 2, none⟩ = some (.string a1_2) ∧ w'.cell? ⟨gb128, 3, none⟩ = some (.bool a1_3) ∧ w'.cell? (ad129.add ((x5_1).toNat * 4)) = some (.string ((rd_T49 l0 x5_1).f0)) ∧ w'.cell? ⟨(ad129.add ((x5_1).toNat * 4)).block, (ad129.add ((x5_1).toNat * 4)).off + 1, none⟩ = some (.int .i64 ((rd_T49 l0 x5_1).f1)) ∧ w'.cell? ⟨(ad129.add ((x5_1).toNat * 4)).block, (ad129.add ((x5_1).toNat * 4)).off + 2, none⟩ = some (.string ((rd_T49 l0 x5_1).f2)) ∧ w'.cell? ⟨(ad129.add ((x5_1).toNat * 4)).block, (ad129.add ((x5_1).toNat * 4)).off + 3, none⟩ = some (.bool ((rd_T49 l0 x5_1).f3))) (ds := []) #[false, false, false, false, false, false, false, false, false, false, false, false] (by kernel_rfl) rfl rfl ⟨q_z BK128.out 0, q_z BK128.out 1, q_z BK128.out 2, q_z BK128.out 3, hx129_0, hx129_1, hx129_2, hx129_3⟩ (fun hHeld => ?_); refine with_tabW spec_l5Put.tab2 spec_l5Put.bits2 (fun HT_ HW_ => ?_)
           generalize wr.drew = w20 at HO_0 BK128 HK HB hx129_0 hx129_1 hx129_2 hx129_3 hHeld ⊢
           refine q_p 0 (some 6) #[true, false, false, false, false, false, false, false, false, false, false, false] HT_.out ?_
           refine q_p 1 (some 7) #[true, true, false, false, false, false, false, false, false, false, false, false] HT_.out ?_
           refine q_p 2 (some 8) #[true, true, true, false, false, false, false, false, false, false, false, false] HT_.out ?_
           refine q_p 3 (some 9) #[true, true, true, true, false, false, false, false, false, false, false, false] HT_.out ?_
           refine q_p 4 (some 10) #[true, true, true, true, true, false, false, false, false, false, false, false] HT_.out ?_
           refine q_p 5 (some 11) #[true, true, true, true, true, true, false, false, false, false, false, false] HT_.out ?_
           refine q_p 6 (some 12) #[true, true, true, true, true, true, true, false, false, false, false, false] HT_.out ?_
           refine q_p 7 (some 13) #[true, true, true, true, true, true, true, true, false, false, false, false] HT_.out ?_
           refine q_t 8 (some 14) #[true, true, true, true, true, true, true, true, true, false, false, false] HT_.out HW_.out hHeld ?_
           refine q_t 9 (some 15) #[true, true, true, true, true, true, true, true, true, true, false, false] HT_.out HW_.out hHeld ?_
           refine one_ (i := 10) (N := some 16) #[true, true, true, true, true, true, true, true, true, true, true, false] rfl rfl (one_of HT_.out (by kernel_rfl)) (by decide) (fun K hK => ?_)
           refine goes_ Try.func64 (by kernel_rfl) rfl #[.agg #[.string ((rd_T49 l0 x5_1).f0), .int .i64 ((rd_T49 l0 x5_1).f1), .string ((rd_T49 l0 x5_1).f2), .bool ((rd_T49 l0 x5_1).f3)], .agg #[.string a1_0, .int .i64 a1_1, .string a1_2, .bool a1_3]] (by rfl) rfl rfl (by (try simp only [List.map_toArray, List.map_cons, List.map_nil]); first | done | rfl | (simp only [List.length_drop, List.length_take]; rfl)) ?_
           with_reducible refine (spec_l5Ahead.calls ((rd_T49 l0 x5_1).f0) ((rd_T49 l0 x5_1).f1) ((rd_T49 l0 x5_1).f2) ((rd_T49 l0 x5_1).f3) a1_0 a1_1 a1_2 a1_3 false _ A6.out).mono ?_
           rintro e w22 ⟨rfl, hb⟩
           have HS4_ := (hb.cell (wb (hHeld.2.2.2.2.1))).trans (hHeld.2.2.2.2.1)
           have HS5_ := (hb.cell (wb (hHeld.2.2.2.2.2.1))).trans (hHeld.2.2.2.2.2.1)
           have HS6_ := (hb.cell (wb (hHeld.2.2.2.2.2.2.1))).trans (hHeld.2.2.2.2.2.2.1)
           have HS7_ := (hb.cell (wb (hHeld.2.2.2.2.2.2.2))).trans (hHeld.2.2.2.2.2.2.2)
           refine ⟨_, rfl, ?_⟩
           have n0_ := am (Kd.R_below (q_r (HO_0.out)) hb)
           have n1_ := am (blk_below (q_b BK128.out) hb)
           have n2_ := am (Kept.below (S := (fun k_ => P0_ k_)) (by repeat (first | (with_reducible first | exact HK.out | apply Kept.alloc | apply Kept.drewN | apply Kept.drew | refine Kept.setCell ?_ (.inr GW128.out) _) | exact HK.out)) hb)
           have n3_ := am (below_step bq hb)
           clear HO_0
           clear BK128
           clear HK
           clear HB
           have HO_0 := n0_
           have BK128 := n1_
           have HK := n2_
           have HB := n3_
           clear n0_ n1_ n2_ n3_
           (try clear hb)
           (try clear hb2)
           (try clear hk)
           (try clear hi)
           refine hK.out _ _ ⟨q_z BK128.out 0, q_z BK128.out 1, q_z BK128.out 2, q_z BK128.out 3, HS4_, HS5_, HS6_, HS7_⟩ (fun hHeld => ?_)
           clear hK K
           refine norm_ (a' := ?_) ?_ ?_
           rotate_left
           ·show Act.put _ (some 16) _ = _
            simp only [Act.put, List.setIfInBounds_toArray, List.set_cons_zero, List.set_cons_succ, i64_w, i32_w]
            rfl
           refine q_p 11 (some 17) #[true, true, true, true, true, true, true, true, true, true, true, true] HT_.out ?_
           refine done_ (done_of HT_.out (by kernel_rfl)) ?_
           try go_wp2
           have n0_ := am (Kd.R_drew HO_0.out)
           have n1_ := am (blk_drew BK128.out)
           have n2_ := am (Kept.drew HK.out)
           have n3_ := am (below_drew1 HB.out)
           clear HO_0
           clear BK128
           clear HK
           clear HB
           have HO_0 := n0_
           have BK128 := n1_
           have HK := n2_
           have HB := n3_
           clear n0_ n1_ n2_ n3_
           have p131 : 0 ≤ (x5_1 : Int) := q_d
           have q131 : x5_1 < (l0.length : Int) := q_d
           obtain ⟨ad131, e131, hx131_0, hx131_1, hx131_2, hx131_3⟩ := at_T49 (Kd.R_reads' HO_0.out).2.2 x5_1 p131 q131
           obtain rfl : ad129 = ad131 := (by injection e131)
           replace p131 := eq_true p131
           replace q131 := eq_true q131
           refine start_ (n := 13) (S := fun w' => w'.cell? ⟨gb128, 0, none⟩ = some (.string a1_0) ∧ w'.cell? ⟨gb128, 1, none⟩ = some (.int .i64 a1_1) ∧ w'.cell? ⟨gb128, 2, none⟩ = some (.string a1_2) ∧ w'.cell? ⟨gb128, 3, none⟩ = some (.bool a1_3) ∧ w'.cell? (ad129.add ((x5_1).toNat * 4)) = some (.string ((rd_T49 l0 x5_1).f0)) ∧ w'.cell? ⟨(ad129.add ((x5_1).toNat * 4)).block, (ad129.add ((x5_1).toNat * 4)).off + 1, none⟩ = some (.int .i64 ((rd_T49 l0 x5_1).f1)) ∧ w'.cell? ⟨(ad129.add ((x5_1).toNat * 4)).block, (ad129.add ((x5_1).toNat * 4)).off + 2, none⟩ = some (.string ((rd_T49 l0 x5_1).f2)) ∧ w'.cell? ⟨(ad129.add ((x5_1).toNat * 4)).block, (ad129.add ((x5_1).toNat * 4)).off + 3, none⟩ = some (.bool ((rd_T49 l0 x5_1).f3))) (ds := []) #[false, false, false, false, false, false, false, false, false, false, false, false, false] (by kernel_rfl) rfl rfl ⟨q_z BK128.out 0, q_z BK128.out 1, q_z BK128.out 2, q_z BK128.out 3, hx131_0, hx131_1, hx131_2, hx131_3⟩ (fun hHeld => ?_); refine with_tabW spec_l5Put.tab4 spec_l5Put.bits4 (fun HT_ HW_ => ?_)
           generalize w22.drew = w23 at HO_0 BK128 HK HB hx131_0 hx131_1 hx131_2 hx131_3 hHeld ⊢
           refine q_p 0 (some 20) #[true, false, false, false, false, false, false, false, false, false, false, false, false] HT_.out ?_
           refine q_p 1 (some 21) #[true, true, false, false, false, false, false, false, false, false, false, false, false] HT_.out ?_
           refine q_p 2 (some 22) #[true, true, true, false, false, false, false, false, false, false, false, false, false] HT_.out ?_
           refine q_p 3 (some 23) #[true, true, true, true, false, false, false, false, false, false, false, false, false] HT_.out ?_
           refine q_p 4 (some 24) #[true, true, true, true, true, false, false, false, false, false, false, false, false] HT_.out ?_
           refine q_p 6 (some 26) #[true, true, true, true, true, false, true, false, false, false, false, false, false] HT_.out ?_
           refine q_p 7 (some 27) #[true, true, true, true, true, false, true, true, false, false, false, false, false] HT_.out ?_
           refine q_p 8 (some 28) #[true, true, true, true, true, false, true, true, true, false, false, false, false] HT_.out ?_
           refine q_t 5 (some 25) #[true, true, true, true, true, true, true, true, true, false, false, false, false] HT_.out HW_.out hHeld ?_
           refine q_t 9 (some 29) #[true, true, true, true, true, true, true, true, true, true, false, false, false] HT_.out HW_.out hHeld ?_
           refine one_ (i := 10) (N := some 30) #[true, true, true, true, true, true, true, true, true, true, true, false, false] rfl rfl (one_of HT_.out (by kernel_rfl)) (by decide) (fun K hK => ?_)
           refine goes_ Try.func64 (by kernel_rfl) rfl #[.agg #[.string a1_0, .int .i64 a1_1, .string a1_2, .bool a1_3], .agg #[.string ((rd_T49 l0 x5_1).f0), .int .i64 ((rd_T49 l0 x5_1).f1), .string ((rd_T49 l0 x5_1).f2), .bool ((rd_T49 l0 x5_1).f3)]] (by rfl) rfl rfl (by (try simp only [List.map_toArray, List.map_cons, List.map_nil]); first | done | rfl | (simp only [List.length_drop, List.length_take]; rfl)) ?_
           with_reducible refine (spec_l5Ahead.calls a1_0 a1_1 a1_2 a1_3 ((rd_T49 l0 x5_1).f0) ((rd_T49 l0 x5_1).f1) ((rd_T49 l0 x5_1).f2) ((rd_T49 l0 x5_1).f3) true _ A11.out).mono ?_
           rintro e w24 ⟨rfl, hb⟩
           have HS4_ := (hb.cell (wb (hHeld.2.2.2.2.1))).trans (hHeld.2.2.2.2.1)
           have HS5_ := (hb.cell (wb (hHeld.2.2.2.2.2.1))).trans (hHeld.2.2.2.2.2.1)
           have HS6_ := (hb.cell (wb (hHeld.2.2.2.2.2.2.1))).trans (hHeld.2.2.2.2.2.2.1)
           have HS7_ := (hb.cell (wb (hHeld.2.2.2.2.2.2.2))).trans (hHeld.2.2.2.2.2.2.2)
           refine ⟨_, rfl, ?_⟩
           have n0_ := am (Kd.R_below (q_r (HO_0.out)) hb)
           have n1_ := am (blk_below (q_b BK128.out) hb)
           have n2_ := am (Kept.below (S := (fun k_ => P0_ k_)) (by repeat (first | (with_reducible first | exact HK.out | apply Kept.alloc | apply Kept.drewN | apply Kept.drew | refine Kept.setCell ?_ (.inr GW128.out) _) | exact HK.out)) hb)
           have n3_ := am (below_step bq hb)
           clear HO_0
           clear BK128
           clear HK
           clear HB
           have HO_0 := n0_
           have BK128 := n1_
           have HK := n2_
           have HB := n3_
           clear n0_ n1_ n2_ n3_
           (try clear hb)
           (try clear hb2)
           (try clear hk)
           (try clear hi)
           refine hK.out _ _ ⟨q_z BK128.out 0, q_z BK128.out 1, q_z BK128.out 2, q_z BK128.out 3, HS4_, HS5_, HS6_, HS7_⟩ (fun hHeld => ?_)
           clear hK K
           refine norm_ (a' := ?_) ?_ ?_
           rotate_left
           ·show Act.put _ (some 30) _ = _
            simp only [Act.put, List.setIfInBounds_toArray, List.set_cons_zero, List.set_cons_succ, i64_w, i32_w]
            rfl
           refine q_p 11 (some 31) #[true, true, true, true, true, true, true, true, true, true, true, true, false] HT_.out ?_
           refine q_p 12 (some 32) #[true, true, true, true, true, true, true, true, true, true, true, true, true] HT_.out ?_
           refine done_ (done_of HT_.out (by kernel_rfl)) ?_
           try go_wp2
           have n0_ := am (Kd.R_drew HO_0.out)
           have n1_ := am (blk_drew BK128.out)
           have n2_ := am (Kept.drew HK.out)
           have n3_ := am (below_drew1 HB.out)
           clear HO_0
           clear BK128
           clear HK
           clear HB
           have HO_0 := n0_
           have BK128 := n1_
           have HK := n2_
           have HB := n3_
           clear n0_ n1_ n2_ n3_
           have q26 : (x5_1 : Int) ≤ ((l0.length : Int) : Int) := q_d
           obtain ⟨i026, hi026, _, hsz26, _⟩ := info_parts info49
           have hroom26 : l0.length ≤ co21 := (Kd.R_reads' HO_0.out).2.1
           have hC26 : Kd.C k49 _ (some ad129) l0.length l0 := (Kd.R_reads' HO_0.out).2.2
           have hcut26 := cut_to (P := Try.prog) 25 49 .i64 Try.underlying25 hi026 (some ad129) l0.length co21 x5_1 q_d q26 hroom26
           have hr26 := Kd.C_take (m := (x5_1 : Int).toNat) hC26 (by omega)
           have hy26 : y136.length = (x5_1 : Int).toNat := (by rw [Ny136.out, List.length_take]; omega)
           rw [← Ny136.out] at hr26
           rw [← hy26] at hcut26
           have HR139 := am hr26
           have HC139 := am (show y136.length ≤ co21 from by omega)
           clear hr26 hC26 hroom26 hi026 hsz26
           have KY26 := am hy26
           clear hy26
           have KL26 := am (show (x5_1 : Int).toNat ≤ l0.length from by omega)
           replace q26 := eq_true q26
           have q27 : (x5_1 : Int) ≤ ((l0.length : Int) : Int) := q_d
           obtain ⟨i027, hi027, _, hsz27, _⟩ := info_parts info49
           have hroom27 : l0.length ≤ co21 := (Kd.R_reads' HO_0.out).2.1
           have hC27 : Kd.C k49 _ (some ad129) l0.length l0 := (Kd.R_reads' HO_0.out).2.2
           have q027 : (0 : Int) ≤ (x5_1 : Int) := q_d
           have hcut27 := cut_from (P := Try.prog) 25 49 .i64 Try.underlying25 hi027 4 hsz27 (some ad129) l0.length co21 x5_1 q027 q27
           have hr27 := Kd.C_drop (m := (x5_1 : Int).toNat) (c := co21) hC27 (by omega) hroom27
           obtain ⟨A27, hA27⟩ : ∃ A1, A1 = (if co21 = (x5_1 : Int).toNat then (some ad129) else ((some ad129) : Option Addr).map (·.add ((x5_1 : Int).toNat * 4))) := ⟨_, rfl⟩
           obtain ⟨c27, hc27⟩ : ∃ c1, c1 = co21 - (x5_1 : Int).toNat := ⟨_, rfl⟩
           have hy27 : y149.length = l0.length - (x5_1 : Int).toNat := (by rw [Ny149.out, List.length_drop] <;> omega)
           rw [show (l0).drop (x5_1 : Int).toNat = y149 from Ny149.out.symm] at hr27
           replace hr27 : Kd.C k49 _ A27 y149.length y149 := (by rw [hA27]; exact hr27)
           rw [← hy27, ← hA27, ← hc27] at hcut27
           have HR152 := am hr27
           have HC152 := am (show y149.length ≤ c27 from by rw [hy27, hc27]; exact Nat.sub_le_sub_right hroom27 _)
           clear hr27 hC27 hroom27 hi027 hsz27 hc27
           have KY27 := am hy27
           have KA27 := am hA27
           clear hy27 hA27
           have KL27 := am (show (x5_1 : Int).toNat ≤ l0.length from by omega)
           replace q27 := eq_true q27
           refine start_ (n := 13) (S := fun w' => w'.cell? ⟨gb128, 0, none⟩ = some (.string a1_0) ∧ w'.cell? ⟨gb128, 1, none⟩ = some (.int .i64 a1_1) ∧ w'.cell? ⟨gb128, 2, none⟩ = some (.string a1_2) ∧ w'.cell? ⟨gb128, 3, none⟩ = some (.bool a1_3)) (ds := []) #[false, false, false, false, false, false, false, false, false, false, false, false, false] (by kernel_rfl) rfl rfl ⟨q_z BK128.out 0, q_z BK128.out 1, q_z BK128.out 2, q_z BK128.out 3⟩ (fun hHeld => ?_); refine with_tabW spec_l5Put.tab6 spec_l5Put.bits6 (fun HT_ HW_ => ?_)
           generalize w24.drew = w25 at HO_0 BK128 HK HB HR139 HR152 hHeld ⊢
           refine q_p 1 (some 35) #[false, true, false, false, false, false, false, false, false, false, false, false, false] HT_.out ?_
           refine q_p 2 (some 36) #[false, true, true, false, false, false, false, false, false, false, false, false, false] HT_.out ?_
           refine q_p 3 (some 37) #[false, true, true, true, false, false, false, false, false, false, false, false, false] HT_.out ?_
           refine q_p 8 (some 42) #[false, true, true, true, false, false, false, false, true, false, false, false, false] HT_.out ?_
           refine q_p 9 (some 43) #[false, true, true, true, false, false, false, false, true, true, false, false, false] HT_.out ?_
           refine q_p 10 (some 44) #[false, true, true, true, false, false, false, false, true, true, true, false, false] HT_.out ?_
           refine q_t 5 (some 39) #[false, true, true, true, false, true, false, false, true, true, true, false, false] HT_.out HW_.out hHeld ?_
           refine join_ (σ := Value × Value × Value) 3 #[true, true, true, true, true, true, true, false, true, true, true, false, false] (fun s_ => [(34, s_.1), (38, s_.2.1), (40, s_.2.2)]) (fun s_ w' => (w'.cell? ⟨gb128, 0, none⟩ = some (.string a1_0) ∧ w'.cell? ⟨gb128, 1, none⟩ = some (.int .i64 a1_1) ∧ w'.cell? ⟨gb128, 2, none⟩ = some (.string a1_2) ∧ w'.cell? ⟨gb128, 3, none⟩ = some (.bool a1_3)) ∧ (Kd.R k49 49 w' w0.heap.size (fun k_ => (P0_ k_ ∨ w.heap.size ≤ k_) ∧ some k_ ≠ (s_.2.2 : Value).ownBlock ∧ some k_ ≠ (.slice (some ad129) l0.length co21 : Value).ownBlock ∧ k_ ≠ gb128) s_.2.1 y140) ∧ (Kd.R k49 49 w' w0.heap.size (fun k_ => (P0_ k_ ∨ w.heap.size ≤ k_) ∧ some k_ ≠ (s_.2.1 : Value).ownBlock ∧ some k_ ≠ (.slice (some ad129) l0.length co21 : Value).ownBlock ∧ k_ ≠ gb128) s_.2.2 y143) ∧ (Kd.R k49 49 w' w0.heap.size (fun k_ => (P0_ k_ ∨ w.heap.size ≤ k_) ∧ some k_ ≠ (s_.2.1 : Value).ownBlock ∧ some k_ ≠ (s_.2.2 : Value).ownBlock ∧ k_ ≠ gb128) (.slice (some ad129) l0.length co21) l0) ∧ (w'.heap[gb128]? = some (.cells #[.string a1_0, .int .i64 a1_1, .string a1_2, .bool a1_3] 49 (0, 0))) ∧ (Kept w w' (fun k_ => P0_ k_)) ∧ (Below w0.heap.size w0 w')) ?_ ?_
           rotate_left
           ·intro hCont
            refine two_ (i := 0) (j := 6) (Ni := some 34) (Nj := some 40) #[true, true, true, true, false, true, false, false, true, true, true, false, false] #[false, true, true, true, false, true, true, false, true, true, true, false, false] rfl rfl rfl rfl (two_of HT_.out (by kernel_rfl)) (by decide) (by decide) (fun K hK => ?_) (fun K hK => ?_)
            ·skip
             refine Kd.R_lit_step k49 _ 49 ?hg (N := 34) ?hd (xs := ([] : List (S49))) (inner := []) (ok := fun _ => True) (okp := fun _ => True) ?hr ?hp (fun _ hk => hk) trivial (Below.refl _ _) (Nat.le_refl _) (by simp) ?_; (case hd => rfl); (case hg => rfl); (case hr => first | (go_simp; done) | (go_simp; rfl)); (case hp => exact (Reps.none _ _))
             intro v134 w28 ho29 hb hg_ hnew_
             clear hg_ hnew_
             (first | rw [← Ny133.out] at ho29 | (simp only [Int.reduceToNat] at ho29; rw [← Ny133.out] at ho29))
             have n0_ := am (Kd.R_elder' (q_r (HO_0.out)) (Kd.R_base ho29) hb)
             have n1_ := am (Kd.R_lower (Kd.R_newB (Kd.R_new' (Kd.R_newM (M := fun k_ => (P0_ k_ ∨ w.heap.size ≤ k_)) ho29 (by first | exact HK.out.1 | exact (show Kept w _ (fun k_ => P0_ k_) from by repeat (first | (with_reducible first | exact HK.out | apply Kept.alloc | apply Kept.drewN | apply Kept.drew | refine Kept.setCell ?_ (.inr GW128.out) _) | exact HK.out)).1) (fun k_ h_ => .inr h_)) (Kd.R_lt (q_r (HO_0.out)))) (q_b BK128.out)) (below_size bq))
             have n2_ := am (blk_below (q_b BK128.out) hb)
             have n3_ := am (Kd.C_below (by repeat (first | (with_reducible exact HR139.out) | (with_reducible refine Kd.C_alloc ?_ _) | (with_reducible refine Kd.C_drewN ?_ _) | (with_reducible refine Kd.C_drew ?_) | exact HR139.out)) hb)
             have n4_ := am (Kd.C_below (by repeat (first | (with_reducible exact HR152.out) | (with_reducible refine Kd.C_alloc ?_ _) | (with_reducible refine Kd.C_drewN ?_ _) | (with_reducible refine Kd.C_drew ?_) | exact HR152.out)) hb)
             have n5_ := am (Kept.below (S := (fun k_ => P0_ k_)) (by repeat (first | (with_reducible first | exact HK.out | apply Kept.alloc | apply Kept.drewN | apply Kept.drew | refine Kept.setCell ?_ (.inr GW128.out) _) | exact HK.out)) hb)
             have n6_ := am (below_step bq hb)
             clear HO_0
             clear BK128
             clear HR139
             clear HR152
             clear HK
             clear HB
             have HO_0 := n0_
             have HO135 := n1_
             have BK128 := n2_
             have HR139 := n3_
             have HR152 := n4_
             have HK := n5_
             have HB := n6_
             clear n0_ n1_ n2_ n3_ n4_ n5_ n6_
             clear hb ho29
             refine hK.out _ _ ⟨q_z BK128.out 0, q_z BK128.out 1, q_z BK128.out 2, q_z BK128.out 3⟩ (fun hHeld => ?_)
             clear hK K
             refine norm_ (a' := ?_) ?_ ?_
             rotate_left
             ·show Act.put _ (some 34) _ = _
              simp only [Act.put, List.setIfInBounds_toArray, List.set_cons_zero, List.set_cons_succ, i64_w, i32_w]
              rfl
             refine two_ (i := 4) (j := 6) (Ni := some 38) (Nj := some 40) #[true, true, true, true, true, true, false, false, true, true, true, false, false] #[true, true, true, true, false, true, true, false, true, true, true, false, false] rfl rfl rfl rfl (two_of HT_.out (by kernel_rfl)) (by decide) (by decide) (fun K hK => ?_) (fun K hK => ?_)
             ·skip
              refine Kd.R_append_rows_step k49 (w0 := w0) w0.heap.size (by rfl) (.tmp 34) (.tmp 37) 25 49 (.agg #[(.string ⟨#[]⟩), (.int .i64 0), (.string ⟨#[]⟩), (.bool false)]) 48 rfl Try.underlying25 info49 rfl (by decide) (by omega) v134 y133 y136 _ _ _ (fun k_ => (P0_ k_ ∨ w.heap.size ≤ k_) ∧ some k_ ≠ (.slice (some ad129) l0.length co21 : Value).ownBlock ∧ k_ ≠ gb128) (fun _ => False) rfl rfl ?aO ?aR (fun _ _ h => h) (fun _ h => h.elim) ?aF ?aB ?aS ?aL ?_
              (case aR => repeat (first | exact (by repeat (first | (with_reducible exact HR139.out) | (with_reducible refine Kd.C_alloc ?_ _) | (with_reducible refine Kd.C_drewN ?_ _) | (with_reducible refine Kd.C_drew ?_) | exact HR139.out)) | (with_reducible refine Kd.C_alloc ?_ _) | (with_reducible refine Kd.C_drewN ?_ _) | (with_reducible refine Kd.C_drew ?_)))
              (case aB => exact bq)
              (case aF => exact (fun k_ hk => ⟨(.inr (Nat.le_trans (by first | exact HK.out.1 | exact (show Kept w _ (fun k_ => P0_ k_) from by repeat (first | (with_reducible first | exact HK.out | apply Kept.alloc | apply Kept.drewN | apply Kept.drew | refine Kept.setCell ?_ (.inr GW128.out) _) | exact HK.out)).1) hk)), Kd.fresh' (Kd.R_lt (q_r (HO_0.out))) k_ hk, Kd.freshB (q_b BK128.out) k_ hk⟩))
              (case aO => exact (by (with_reducible repeat (first | apply Kd.R_alloc | apply Kd.R_drewN | apply Kd.R_drew)); exact Kd.R_mono HO135.out (fun _ hk => ⟨hk.1.1.1, ⟨hk.1.2, hk.2⟩⟩)))
              (case aS => exact (below_size bq))
              (case aL => have := LMc15.out; omega)
              intro v141 w30 ho hb hg hat
              rw [← Ny140.out] at ho
              have n0_ := am (Kd.R_after (ok := (fun k_ => (P0_ k_ ∨ w.heap.size ≤ k_) ∧ k_ ≠ gb128)) (q_r (HO_0.out)) hg hat)
              have n1_ := am (blk_grown (q_b BK128.out) hg (Kd.R_away HO135.out (fun _ hk => hk.2)))
              have n2_ := am (hb)
              have n3_ := am (Kept.of_grown (S := (fun k_ => P0_ k_)) hg (by repeat (first | (with_reducible first | exact HK.out | apply Kept.alloc | apply Kept.drewN | apply Kept.drew | refine Kept.setCell ?_ (.inr GW128.out) _) | exact HK.out)) (fun k_ e_ => (HO135.out.1 k_ e_).1.1.1))
              have n4_ := am ((show Kd.C k49 w30 (some ad129) y136.length y136 from by rw [Ny136.out]; exact Kd.C_take (m := (x5_1 : Int).toNat) ((Kd.R_reads' (Kd.R_after (ok := (fun k_ => (P0_ k_ ∨ w.heap.size ≤ k_) ∧ k_ ≠ gb128)) (q_r (HO_0.out)) hg hat)).2.2) KL26.out))
              have n5_ := am ((show Kd.C k49 w30 A27 y149.length y149 from by rw [Ny149.out, KA27.out]; exact Kd.C_drop (m := (x5_1 : Int).toNat) (c := co21) ((Kd.R_reads' (Kd.R_after (ok := (fun k_ => (P0_ k_ ∨ w.heap.size ≤ k_) ∧ k_ ≠ gb128)) (q_r (HO_0.out)) hg hat)).2.2) KL27.out ((Kd.R_reads' (Kd.R_after (ok := (fun k_ => (P0_ k_ ∨ w.heap.size ≤ k_) ∧ k_ ≠ gb128)) (q_r (HO_0.out)) hg hat)).2.1)))
              have n6_ := am (ho)
              clear HO_0
              clear BK128
              clear HB
              clear HK
              clear HR139
              clear HR152
              clear HO135
              have HO_0 := n0_
              have BK128 := n1_
              have HB := n2_
              have HK := n3_
              have HR139 := n4_
              have HR152 := n5_
              have HO142 := n6_
              clear n0_ n1_ n2_ n3_ n4_ n5_ n6_
              clear ho hb hg hat
              refine hK.out _ _ ⟨q_z BK128.out 0, q_z BK128.out 1, q_z BK128.out 2, q_z BK128.out 3⟩ (fun hHeld => ?_)
              clear hK K
              refine norm_ (a' := ?_) ?_ ?_
              rotate_left
              ·show Act.put _ (some 38) _ = _
               simp only [Act.put, List.setIfInBounds_toArray, List.set_cons_zero, List.set_cons_succ, i64_w, i32_w]
               rfl
              refine one_ (i := 6) (N := some 40) #[true, true, true, true, true, true, true, false, true, true, true, false, false] rfl rfl (one_of HT_.out (by kernel_rfl)) (by decide) (fun K hK => ?_)
              refine Kd.R_lit_step k49 _ 49 ?hg (N := 40) ?hd (xs := ([(⟨a1_0, a1_1, a1_2, a1_3⟩ : S49)] : List (S49))) (inner := [.string a1_0, .int .i64 a1_1, .string a1_2, .bool a1_3]) (ok := fun _ => True) (okp := fun _ => True) ?hr ?hp (fun _ hk => hk) trivial (Below.refl _ _) (Nat.le_refl _) (by simp) ?_; (case hd => rfl); (case hg => rfl); (case hr => first | (go_simp; done) | (go_simp; rfl)); (case hp => exact (Reps.c4 (show Kd.M k49 _ _ _ (⟨a1_0, a1_1, a1_2, a1_3⟩ : S49) [.string a1_0, .int .i64 a1_1, .string a1_2, .bool a1_3] from (k49_mkM _ _ _ (⟨a1_0, a1_1, a1_2, a1_3⟩ : S49) )) (Reps.none _ _)))
              intro v144 w31 ho32 hb hg_ hnew_
              clear hg_ hnew_
              (first | rw [← Ny143.out] at ho32 | (simp only [Int.reduceToNat] at ho32; rw [← Ny143.out] at ho32))
              have n0_ := am (Kd.R_elder' (q_r (HO_0.out)) (Kd.R_base ho32) hb)
              have n1_ := am (Kd.R_elder' (q_r (HO142.out)) (Kd.R_base ho32) hb)
              have n2_ := am (Kd.R_lower (Kd.R_newB (Kd.R_new' (Kd.R_new' (Kd.R_newM (M := fun k_ => (P0_ k_ ∨ w.heap.size ≤ k_)) ho32 (by first | exact HK.out.1 | exact (show Kept w _ (fun k_ => P0_ k_) from by repeat (first | (with_reducible first | exact HK.out | apply Kept.alloc | apply Kept.drewN | apply Kept.drew | refine Kept.setCell ?_ (.inr GW128.out) _) | exact HK.out)).1) (fun k_ h_ => .inr h_)) (Kd.R_lt (q_r (HO_0.out)))) (Kd.R_lt (q_r (HO142.out)))) (q_b BK128.out)) (below_size bq))
              have n3_ := am (blk_below (q_b BK128.out) hb)
              have n4_ := am (Kd.C_below (by repeat (first | (with_reducible exact HR139.out) | (with_reducible refine Kd.C_alloc ?_ _) | (with_reducible refine Kd.C_drewN ?_ _) | (with_reducible refine Kd.C_drew ?_) | exact HR139.out)) hb)
              have n5_ := am (Kd.C_below (by repeat (first | (with_reducible exact HR152.out) | (with_reducible refine Kd.C_alloc ?_ _) | (with_reducible refine Kd.C_drewN ?_ _) | (with_reducible refine Kd.C_drew ?_) | exact HR152.out)) hb)
              have n6_ := am (Kept.below (S := (fun k_ => P0_ k_)) (by repeat (first | (with_reducible first | exact HK.out | apply Kept.alloc | apply Kept.drewN | apply Kept.drew | refine Kept.setCell ?_ (.inr GW128.out) _) | exact HK.out)) hb)
              have n7_ := am (below_step bq hb)
              clear HO_0
              clear HO142
              clear BK128
              clear HR139
              clear HR152
              clear HK
              clear HB
              have HO_0 := n0_
              have HO142 := n1_
              have HO145 := n2_
              have BK128 := n3_
              have HR139 := n4_
              have HR152 := n5_
              have HK := n6_
              have HB := n7_
              clear n0_ n1_ n2_ n3_ n4_ n5_ n6_ n7_
              clear hb ho32
              refine hK.out _ _ ⟨q_z BK128.out 0, q_z BK128.out 1, q_z BK128.out 2, q_z BK128.out 3⟩ (fun hHeld => ?_)
              clear hK K
              refine norm_ (a' := ?_) ?_ ?_
              rotate_left
              ·show Act.put _ (some 40) _ = _
               simp only [Act.put, List.setIfInBounds_toArray, List.set_cons_zero, List.set_cons_succ, i64_w, i32_w]
               rfl
              exact norm_ (by simp only [putAll, Act.put, List.setIfInBounds_toArray, List.set_cons_zero, List.set_cons_succ]) (hCont (v134, v141, v144) _ ⟨hHeld, (by (with_reducible repeat (first | apply Kd.R_alloc | apply Kd.R_drewN | apply Kd.R_drew)); exact Kd.R_mono HO142.out (fun _ hk => ⟨hk.1.1, ⟨hk.2, ⟨hk.1.2.1, hk.1.2.2⟩⟩⟩)), (by (with_reducible repeat (first | apply Kd.R_alloc | apply Kd.R_drewN | apply Kd.R_drew)); exact Kd.R_mono HO145.out (fun _ hk => ⟨hk.1.1.1.1, ⟨hk.1.2, ⟨hk.1.1.2, hk.2⟩⟩⟩)), (by (with_reducible repeat (first | apply Kd.R_alloc | apply Kd.R_drewN | apply Kd.R_drew)); exact Kd.R_mono HO_0.out (fun _ hk => ⟨hk.1.1.1, ⟨hk.1.2, ⟨hk.2, hk.1.1.2⟩⟩⟩)), kq, (by repeat (first | (with_reducible first | exact HK.out | apply Kept.alloc | apply Kept.drewN | apply Kept.drew | refine Kept.setCell ?_ (.inr GW128.out) _) | exact HK.out)), bq⟩)
             ·skip
              refine Kd.R_lit_step k49 _ 49 ?hg (N := 40) ?hd (xs := ([(⟨a1_0, a1_1, a1_2, a1_3⟩ : S49)] : List (S49))) (inner := [.string a1_0, .int .i64 a1_1, .string a1_2, .bool a1_3]) (ok := fun _ => True) (okp := fun _ => True) ?hr ?hp (fun _ hk => hk) trivial (Below.refl _ _) (Nat.le_refl _) (by simp) ?_; (case hd => rfl); (case hg => rfl); (case hr => first | (go_simp; done) | (go_simp; rfl)); (case hp => exact (Reps.c4 (show Kd.M k49 _ _ _ (⟨a1_0, a1_1, a1_2, a1_3⟩ : S49) [.string a1_0, .int .i64 a1_1, .string a1_2, .bool a1_3] from (k49_mkM _ _ _ (⟨a1_0, a1_1, a1_2, a1_3⟩ : S49) )) (Reps.none _ _)))
              intro v144 w30 ho31 hb hg_ hnew_
              clear hg_ hnew_
              (first | rw [← Ny143.out] at ho31 | (simp only [Int.reduceToNat] at ho31; rw [← Ny143.out] at ho31))
              have n0_ := am (Kd.R_elder' (q_r (HO_0.out)) (Kd.R_base ho31) hb)
              have n1_ := am (Kd.R_elder' (q_r (HO135.out)) (Kd.R_base ho31) hb)
              have n2_ := am (Kd.R_lower (Kd.R_newB (Kd.R_new' (Kd.R_new' (Kd.R_newM (M := fun k_ => (P0_ k_ ∨ w.heap.size ≤ k_)) ho31 (by first | exact HK.out.1 | exact (show Kept w _ (fun k_ => P0_ k_) from by repeat (first | (with_reducible first | exact HK.out | apply Kept.alloc | apply Kept.drewN | apply Kept.drew | refine Kept.setCell ?_ (.inr GW128.out) _) | exact HK.out)).1) (fun k_ h_ => .inr h_)) (Kd.R_lt (q_r (HO_0.out)))) (Kd.R_lt (q_r (HO135.out)))) (q_b BK128.out)) (below_size bq))
              have n3_ := am (blk_below (q_b BK128.out) hb)
              have n4_ := am (Kd.C_below (by repeat (first | (with_reducible exact HR139.out) | (with_reducible refine Kd.C_alloc ?_ _) | (with_reducible refine Kd.C_drewN ?_ _) | (with_reducible refine Kd.C_drew ?_) | exact HR139.out)) hb)
              have n5_ := am (Kd.C_below (by repeat (first | (with_reducible exact HR152.out) | (with_reducible refine Kd.C_alloc ?_ _) | (with_reducible refine Kd.C_drewN ?_ _) | (with_reducible refine Kd.C_drew ?_) | exact HR152.out)) hb)
              have n6_ := am (Kept.below (S := (fun k_ => P0_ k_)) (by repeat (first | (with_reducible first | exact HK.out | apply Kept.alloc | apply Kept.drewN | apply Kept.drew | refine Kept.setCell ?_ (.inr GW128.out) _) | exact HK.out)) hb)
              have n7_ := am (below_step bq hb)
              clear HO_0
              clear HO135
              clear BK128
              clear HR139
              clear HR152
              clear HK
              clear HB
              have HO_0 := n0_
              have HO135 := n1_
              have HO145 := n2_
              have BK128 := n3_
              have HR139 := n4_
              have HR152 := n5_
              have HK := n6_
              have HB := n7_
              clear n0_ n1_ n2_ n3_ n4_ n5_ n6_ n7_
              clear hb ho31
              refine hK.out _ _ ⟨q_z BK128.out 0, q_z BK128.out 1, q_z BK128.out 2, q_z BK128.out 3⟩ (fun hHeld => ?_)
              clear hK K
              refine norm_ (a' := ?_) ?_ ?_
              rotate_left
              ·show Act.put _ (some 40) _ = _
               simp only [Act.put, List.setIfInBounds_toArray, List.set_cons_zero, List.set_cons_succ, i64_w, i32_w]
               rfl
              refine one_ (i := 4) (N := some 38) #[true, true, true, true, true, true, true, false, true, true, true, false, false] rfl rfl (one_of HT_.out (by kernel_rfl)) (by decide) (fun K hK => ?_)
              refine Kd.R_append_rows_step k49 (w0 := w0) w0.heap.size (by rfl) (.tmp 34) (.tmp 37) 25 49 (.agg #[(.string ⟨#[]⟩), (.int .i64 0), (.string ⟨#[]⟩), (.bool false)]) 48 rfl Try.underlying25 info49 rfl (by decide) (by omega) v134 y133 y136 _ _ _ (fun k_ => (P0_ k_ ∨ w.heap.size ≤ k_) ∧ some k_ ≠ (.slice (some ad129) l0.length co21 : Value).ownBlock ∧ some k_ ≠ (v144 : Value).ownBlock ∧ k_ ≠ gb128) (fun _ => False) rfl rfl ?aO ?aR (fun _ _ h => h) (fun _ h => h.elim) ?aF ?aB ?aS ?aL ?_
              (case aR => repeat (first | exact (by repeat (first | (with_reducible exact HR139.out) | (with_reducible refine Kd.C_alloc ?_ _) | (with_reducible refine Kd.C_drewN ?_ _) | (with_reducible refine Kd.C_drew ?_) | exact HR139.out)) | (with_reducible refine Kd.C_alloc ?_ _) | (with_reducible refine Kd.C_drewN ?_ _) | (with_reducible refine Kd.C_drew ?_)))
              (case aB => exact bq)
              (case aF => exact (fun k_ hk => ⟨(.inr (Nat.le_trans (by first | exact HK.out.1 | exact (show Kept w _ (fun k_ => P0_ k_) from by repeat (first | (with_reducible first | exact HK.out | apply Kept.alloc | apply Kept.drewN | apply Kept.drew | refine Kept.setCell ?_ (.inr GW128.out) _) | exact HK.out)).1) hk)), Kd.fresh' (Kd.R_lt (q_r (HO_0.out))) k_ hk, Kd.fresh' (Kd.R_lt (q_r (HO145.out))) k_ hk, Kd.freshB (q_b BK128.out) k_ hk⟩))
              (case aO => exact (by (with_reducible repeat (first | apply Kd.R_alloc | apply Kd.R_drewN | apply Kd.R_drew)); exact Kd.R_mono HO135.out (fun _ hk => ⟨hk.1.1.1.1, ⟨hk.1.1.2, ⟨hk.2, hk.1.2⟩⟩⟩)))
              (case aS => exact (below_size bq))
              (case aL => have := LMc15.out; omega)
              intro v141 w32 ho hb hg hat
              rw [← Ny140.out] at ho
              have n0_ := am (Kd.R_after (ok := (fun k_ => (P0_ k_ ∨ w.heap.size ≤ k_) ∧ some k_ ≠ (v144 : Value).ownBlock ∧ k_ ≠ gb128)) (by (with_reducible repeat (first | apply Kd.R_alloc | apply Kd.R_drewN | apply Kd.R_drew)); exact Kd.R_mono HO_0.out (fun _ hk => ⟨⟨hk.1.1.1, ⟨hk.2, hk.1.1.2⟩⟩, hk.1.2⟩)) hg hat)
              have n1_ := am (blk_grown (q_b BK128.out) hg (Kd.R_away HO135.out (fun _ hk => hk.1.2)))
              have n2_ := am (Kd.R_after (ok := (fun k_ => (P0_ k_ ∨ w.heap.size ≤ k_) ∧ some k_ ≠ (.slice (some ad129) l0.length co21 : Value).ownBlock ∧ k_ ≠ gb128)) (by (with_reducible repeat (first | apply Kd.R_alloc | apply Kd.R_drewN | apply Kd.R_drew)); exact Kd.R_mono HO145.out (fun _ hk => ⟨⟨hk.1.1.1.1, ⟨hk.1.1.2, hk.2⟩⟩, hk.1.2⟩)) hg hat)
              have n3_ := am (hb)
              have n4_ := am (Kept.of_grown (S := (fun k_ => P0_ k_)) hg (by repeat (first | (with_reducible first | exact HK.out | apply Kept.alloc | apply Kept.drewN | apply Kept.drew | refine Kept.setCell ?_ (.inr GW128.out) _) | exact HK.out)) (fun k_ e_ => (HO135.out.1 k_ e_).1.1.1.1))
              have n5_ := am ((show Kd.C k49 w32 (some ad129) y136.length y136 from by rw [Ny136.out]; exact Kd.C_take (m := (x5_1 : Int).toNat) ((Kd.R_reads' (Kd.R_after (ok := (fun k_ => (P0_ k_ ∨ w.heap.size ≤ k_) ∧ some k_ ≠ (v144 : Value).ownBlock ∧ k_ ≠ gb128)) (by (with_reducible repeat (first | apply Kd.R_alloc | apply Kd.R_drewN | apply Kd.R_drew)); exact Kd.R_mono HO_0.out (fun _ hk => ⟨⟨hk.1.1.1, ⟨hk.2, hk.1.1.2⟩⟩, hk.1.2⟩)) hg hat)).2.2) KL26.out))
              have n6_ := am ((show Kd.C k49 w32 A27 y149.length y149 from by rw [Ny149.out, KA27.out]; exact Kd.C_drop (m := (x5_1 : Int).toNat) (c := co21) ((Kd.R_reads' (Kd.R_after (ok := (fun k_ => (P0_ k_ ∨ w.heap.size ≤ k_) ∧ some k_ ≠ (v144 : Value).ownBlock ∧ k_ ≠ gb128)) (by (with_reducible repeat (first | apply Kd.R_alloc | apply Kd.R_drewN | apply Kd.R_drew)); exact Kd.R_mono HO_0.out (fun _ hk => ⟨⟨hk.1.1.1, ⟨hk.2, hk.1.1.2⟩⟩, hk.1.2⟩)) hg hat)).2.2) KL27.out ((Kd.R_reads' (Kd.R_after (ok := (fun k_ => (P0_ k_ ∨ w.heap.size ≤ k_) ∧ some k_ ≠ (v144 : Value).ownBlock ∧ k_ ≠ gb128)) (by (with_reducible repeat (first | apply Kd.R_alloc | apply Kd.R_drewN | apply Kd.R_drew)); exact Kd.R_mono HO_0.out (fun _ hk => ⟨⟨hk.1.1.1, ⟨hk.2, hk.1.1.2⟩⟩, hk.1.2⟩)) hg hat)).2.1)))
              have n7_ := am (ho)
              clear HO_0
              clear BK128
              clear HO145
              clear HB
              clear HK
              clear HR139
              clear HR152
              clear HO135
              have HO_0 := n0_
              have BK128 := n1_
              have HO145 := n2_
              have HB := n3_
              have HK := n4_
              have HR139 := n5_
              have HR152 := n6_
              have HO142 := n7_
              clear n0_ n1_ n2_ n3_ n4_ n5_ n6_ n7_
              clear ho hb hg hat
              refine hK.out _ _ ⟨q_z BK128.out 0, q_z BK128.out 1, q_z BK128.out 2, q_z BK128.out 3⟩ (fun hHeld => ?_)
              clear hK K
              refine norm_ (a' := ?_) ?_ ?_
              rotate_left
              ·show Act.put _ (some 38) _ = _
               simp only [Act.put, List.setIfInBounds_toArray, List.set_cons_zero, List.set_cons_succ, i64_w, i32_w]
               rfl
              exact norm_ (by simp only [putAll, Act.put, List.setIfInBounds_toArray, List.set_cons_zero, List.set_cons_succ]) (hCont (v134, v141, v144) _ ⟨hHeld, (by (with_reducible repeat (first | apply Kd.R_alloc | apply Kd.R_drewN | apply Kd.R_drew)); exact Kd.R_mono HO142.out (fun _ hk => ⟨hk.1, ⟨hk.2.2.1, ⟨hk.2.1, hk.2.2.2⟩⟩⟩)), (by (with_reducible repeat (first | apply Kd.R_alloc | apply Kd.R_drewN | apply Kd.R_drew)); exact Kd.R_mono HO145.out (fun _ hk => ⟨hk.1.1, ⟨hk.2, ⟨hk.1.2.1, hk.1.2.2⟩⟩⟩)), (by (with_reducible repeat (first | apply Kd.R_alloc | apply Kd.R_drewN | apply Kd.R_drew)); exact Kd.R_mono HO_0.out (fun _ hk => ⟨hk.1.1, ⟨hk.2, ⟨hk.1.2.1, hk.1.2.2⟩⟩⟩)), kq, (by repeat (first | (with_reducible first | exact HK.out | apply Kept.alloc | apply Kept.drewN | apply Kept.drew | refine Kept.setCell ?_ (.inr GW128.out) _) | exact HK.out)), bq⟩)
            ·skip
             refine Kd.R_lit_step k49 _ 49 ?hg (N := 40) ?hd (xs := ([(⟨a1_0, a1_1, a1_2, a1_3⟩ : S49)] : List (S49))) (inner := [.string a1_0, .int .i64 a1_1, .string a1_2, .bool a1_3]) (ok := fun _ => True) (okp := fun _ => True) ?hr ?hp (fun _ hk => hk) trivial (Below.refl _ _) (Nat.le_refl _) (by simp) ?_; (case hd => rfl); (case hg => rfl); (case hr => first | (go_simp; done) | (go_simp; rfl)); (case hp => exact (Reps.c4 (show Kd.M k49 _ _ _ (⟨a1_0, a1_1, a1_2, a1_3⟩ : S49) [.string a1_0, .int .i64 a1_1, .string a1_2, .bool a1_3] from (k49_mkM _ _ _ (⟨a1_0, a1_1, a1_2, a1_3⟩ : S49) )) (Reps.none _ _)))
             intro v144 w28 ho29 hb hg_ hnew_
             clear hg_ hnew_
             (first | rw [← Ny143.out] at ho29 | (simp only [Int.reduceToNat] at ho29; rw [← Ny143.out] at ho29))
             have n0_ := am (Kd.R_elder' (q_r (HO_0.out)) (Kd.R_base ho29) hb)
             have n1_ := am (Kd.R_lower (Kd.R_newB (Kd.R_new' (Kd.R_newM (M := fun k_ => (P0_ k_ ∨ w.heap.size ≤ k_)) ho29 (by first | exact HK.out.1 | exact (show Kept w _ (fun k_ => P0_ k_) from by repeat (first | (with_reducible first | exact HK.out | apply Kept.alloc | apply Kept.drewN | apply Kept.drew | refine Kept.setCell ?_ (.inr GW128.out) _) | exact HK.out)).1) (fun k_ h_ => .inr h_)) (Kd.R_lt (q_r (HO_0.out)))) (q_b BK128.out)) (below_size bq))
             have n2_ := am (blk_below (q_b BK128.out) hb)
             have n3_ := am (Kd.C_below (by repeat (first | (with_reducible exact HR139.out) | (with_reducible refine Kd.C_alloc ?_ _) | (with_reducible refine Kd.C_drewN ?_ _) | (with_reducible refine Kd.C_drew ?_) | exact HR139.out)) hb)
             have n4_ := am (Kd.C_below (by repeat (first | (with_reducible exact HR152.out) | (with_reducible refine Kd.C_alloc ?_ _) | (with_reducible refine Kd.C_drewN ?_ _) | (with_reducible refine Kd.C_drew ?_) | exact HR152.out)) hb)
             have n5_ := am (Kept.below (S := (fun k_ => P0_ k_)) (by repeat (first | (with_reducible first | exact HK.out | apply Kept.alloc | apply Kept.drewN | apply Kept.drew | refine Kept.setCell ?_ (.inr GW128.out) _) | exact HK.out)) hb)
             have n6_ := am (below_step bq hb)
             clear HO_0
             clear BK128
             clear HR139
             clear HR152
             clear HK
             clear HB
             have HO_0 := n0_
             have HO145 := n1_
             have BK128 := n2_
             have HR139 := n3_
             have HR152 := n4_
             have HK := n5_
             have HB := n6_
             clear n0_ n1_ n2_ n3_ n4_ n5_ n6_
             clear hb ho29
             refine hK.out _ _ ⟨q_z BK128.out 0, q_z BK128.out 1, q_z BK128.out 2, q_z BK128.out 3⟩ (fun hHeld => ?_)
             clear hK K
             refine norm_ (a' := ?_) ?_ ?_
             rotate_left
             ·show Act.put _ (some 40) _ = _
              simp only [Act.put, List.setIfInBounds_toArray, List.set_cons_zero, List.set_cons_succ, i64_w, i32_w]
              rfl
             refine one_ (i := 0) (N := some 34) #[true, true, true, true, false, true, true, false, true, true, true, false, false] rfl rfl (one_of HT_.out (by kernel_rfl)) (by decide) (fun K hK => ?_)
             refine Kd.R_lit_step k49 _ 49 ?hg (N := 34) ?hd (xs := ([] : List (S49))) (inner := []) (ok := fun _ => True) (okp := fun _ => True) ?hr ?hp (fun _ hk => hk) trivial (Below.refl _ _) (Nat.le_refl _) (by simp) ?_; (case hd => rfl); (case hg => rfl); (case hr => first | (go_simp; done) | (go_simp; rfl)); (case hp => exact (Reps.none _ _))
             intro v134 w30 ho31 hb hg_ hnew_
             clear hg_ hnew_
             (first | rw [← Ny133.out] at ho31 | (simp only [Int.reduceToNat] at ho31; rw [← Ny133.out] at ho31))
             have n0_ := am (Kd.R_elder' (q_r (HO_0.out)) (Kd.R_base ho31) hb)
             have n1_ := am (Kd.R_elder' (q_r (HO145.out)) (Kd.R_base ho31) hb)
             have n2_ := am (Kd.R_lower (Kd.R_newB (Kd.R_new' (Kd.R_new' (Kd.R_newM (M := fun k_ => (P0_ k_ ∨ w.heap.size ≤ k_)) ho31 (by first | exact HK.out.1 | exact (show Kept w _ (fun k_ => P0_ k_) from by repeat (first | (with_reducible first | exact HK.out | apply Kept.alloc | apply Kept.drewN | apply Kept.drew | refine Kept.setCell ?_ (.inr GW128.out) _) | exact HK.out)).1) (fun k_ h_ => .inr h_)) (Kd.R_lt (q_r (HO_0.out)))) (Kd.R_lt (q_r (HO145.out)))) (q_b BK128.out)) (below_size bq))
             have n3_ := am (blk_below (q_b BK128.out) hb)
             have n4_ := am (Kd.C_below (by repeat (first | (with_reducible exact HR139.out) | (with_reducible refine Kd.C_alloc ?_ _) | (with_reducible refine Kd.C_drewN ?_ _) | (with_reducible refine Kd.C_drew ?_) | exact HR139.out)) hb)
             have n5_ := am (Kd.C_below (by repeat (first | (with_reducible exact HR152.out) | (with_reducible refine Kd.C_alloc ?_ _) | (with_reducible refine Kd.C_drewN ?_ _) | (with_reducible refine Kd.C_drew ?_) | exact HR152.out)) hb)
             have n6_ := am (Kept.below (S := (fun k_ => P0_ k_)) (by repeat (first | (with_reducible first | exact HK.out | apply Kept.alloc | apply Kept.drewN | apply Kept.drew | refine Kept.setCell ?_ (.inr GW128.out) _) | exact HK.out)) hb)
             have n7_ := am (below_step bq hb)
             clear HO_0
             clear HO145
             clear BK128
             clear HR139
             clear HR152
             clear HK
             clear HB
             have HO_0 := n0_
             have HO145 := n1_
             have HO135 := n2_
             have BK128 := n3_
             have HR139 := n4_
             have HR152 := n5_
             have HK := n6_
             have HB := n7_
             clear n0_ n1_ n2_ n3_ n4_ n5_ n6_ n7_
             clear hb ho31
             refine hK.out _ _ ⟨q_z BK128.out 0, q_z BK128.out 1, q_z BK128.out 2, q_z BK128.out 3⟩ (fun hHeld => ?_)
             clear hK K
             refine norm_ (a' := ?_) ?_ ?_
             rotate_left
             ·show Act.put _ (some 34) _ = _
              simp only [Act.put, List.setIfInBounds_toArray, List.set_cons_zero, List.set_cons_succ, i64_w, i32_w]
              rfl
             refine one_ (i := 4) (N := some 38) #[true, true, true, true, true, true, true, false, true, true, true, false, false] rfl rfl (one_of HT_.out (by kernel_rfl)) (by decide) (fun K hK => ?_)
             refine Kd.R_append_rows_step k49 (w0 := w0) w0.heap.size (by rfl) (.tmp 34) (.tmp 37) 25 49 (.agg #[(.string ⟨#[]⟩), (.int .i64 0), (.string ⟨#[]⟩), (.bool false)]) 48 rfl Try.underlying25 info49 rfl (by decide) (by omega) v134 y133 y136 _ _ _ (fun k_ => (P0_ k_ ∨ w.heap.size ≤ k_) ∧ some k_ ≠ (.slice (some ad129) l0.length co21 : Value).ownBlock ∧ some k_ ≠ (v144 : Value).ownBlock ∧ k_ ≠ gb128) (fun _ => False) rfl rfl ?aO ?aR (fun _ _ h => h) (fun _ h => h.elim) ?aF ?aB ?aS ?aL ?_
             (case aR => repeat (first | exact (by repeat (first | (with_reducible exact HR139.out) | (with_reducible refine Kd.C_alloc ?_ _) | (with_reducible refine Kd.C_drewN ?_ _) | (with_reducible refine Kd.C_drew ?_) | exact HR139.out)) | (with_reducible refine Kd.C_alloc ?_ _) | (with_reducible refine Kd.C_drewN ?_ _) | (with_reducible refine Kd.C_drew ?_)))
             (case aB => exact bq)
             (case aF => exact (fun k_ hk => ⟨(.inr (Nat.le_trans (by first | exact HK.out.1 | exact (show Kept w _ (fun k_ => P0_ k_) from by repeat (first | (with_reducible first | exact HK.out | apply Kept.alloc | apply Kept.drewN | apply Kept.drew | refine Kept.setCell ?_ (.inr GW128.out) _) | exact HK.out)).1) hk)), Kd.fresh' (Kd.R_lt (q_r (HO_0.out))) k_ hk, Kd.fresh' (Kd.R_lt (q_r (HO145.out))) k_ hk, Kd.freshB (q_b BK128.out) k_ hk⟩))
             (case aO => exact (by (with_reducible repeat (first | apply Kd.R_alloc | apply Kd.R_drewN | apply Kd.R_drew)); exact Kd.R_mono HO135.out (fun _ hk => ⟨hk.1.1.1.1, ⟨hk.1.1.2, ⟨hk.1.2, hk.2⟩⟩⟩)))
             (case aS => exact (below_size bq))
             (case aL => have := LMc15.out; omega)
             intro v141 w32 ho hb hg hat
             rw [← Ny140.out] at ho
             have n0_ := am (Kd.R_after (ok := (fun k_ => (P0_ k_ ∨ w.heap.size ≤ k_) ∧ some k_ ≠ (v144 : Value).ownBlock ∧ k_ ≠ gb128)) (by (with_reducible repeat (first | apply Kd.R_alloc | apply Kd.R_drewN | apply Kd.R_drew)); exact Kd.R_mono HO_0.out (fun _ hk => ⟨⟨hk.1.1.1, ⟨hk.1.2, hk.1.1.2⟩⟩, hk.2⟩)) hg hat)
             have n1_ := am (blk_grown (q_b BK128.out) hg (Kd.R_away HO135.out (fun _ hk => hk.2)))
             have n2_ := am (Kd.R_after (ok := (fun k_ => (P0_ k_ ∨ w.heap.size ≤ k_) ∧ some k_ ≠ (.slice (some ad129) l0.length co21 : Value).ownBlock ∧ k_ ≠ gb128)) (by (with_reducible repeat (first | apply Kd.R_alloc | apply Kd.R_drewN | apply Kd.R_drew)); exact Kd.R_mono HO145.out (fun _ hk => ⟨⟨hk.1.1.1.1, ⟨hk.1.1.2, hk.1.2⟩⟩, hk.2⟩)) hg hat)
             have n3_ := am (hb)
             have n4_ := am (Kept.of_grown (S := (fun k_ => P0_ k_)) hg (by repeat (first | (with_reducible first | exact HK.out | apply Kept.alloc | apply Kept.drewN | apply Kept.drew | refine Kept.setCell ?_ (.inr GW128.out) _) | exact HK.out)) (fun k_ e_ => (HO135.out.1 k_ e_).1.1.1.1))
             have n5_ := am ((show Kd.C k49 w32 (some ad129) y136.length y136 from by rw [Ny136.out]; exact Kd.C_take (m := (x5_1 : Int).toNat) ((Kd.R_reads' (Kd.R_after (ok := (fun k_ => (P0_ k_ ∨ w.heap.size ≤ k_) ∧ some k_ ≠ (v144 : Value).ownBlock ∧ k_ ≠ gb128)) (by (with_reducible repeat (first | apply Kd.R_alloc | apply Kd.R_drewN | apply Kd.R_drew)); exact Kd.R_mono HO_0.out (fun _ hk => ⟨⟨hk.1.1.1, ⟨hk.1.2, hk.1.1.2⟩⟩, hk.2⟩)) hg hat)).2.2) KL26.out))
             have n6_ := am ((show Kd.C k49 w32 A27 y149.length y149 from by rw [Ny149.out, KA27.out]; exact Kd.C_drop (m := (x5_1 : Int).toNat) (c := co21) ((Kd.R_reads' (Kd.R_after (ok := (fun k_ => (P0_ k_ ∨ w.heap.size ≤ k_) ∧ some k_ ≠ (v144 : Value).ownBlock ∧ k_ ≠ gb128)) (by (with_reducible repeat (first | apply Kd.R_alloc | apply Kd.R_drewN | apply Kd.R_drew)); exact Kd.R_mono HO_0.out (fun _ hk => ⟨⟨hk.1.1.1, ⟨hk.1.2, hk.1.1.2⟩⟩, hk.2⟩)) hg hat)).2.2) KL27.out ((Kd.R_reads' (Kd.R_after (ok := (fun k_ => (P0_ k_ ∨ w.heap.size ≤ k_) ∧ some k_ ≠ (v144 : Value).ownBlock ∧ k_ ≠ gb128)) (by (with_reducible repeat (first | apply Kd.R_alloc | apply Kd.R_drewN | apply Kd.R_drew)); exact Kd.R_mono HO_0.out (fun _ hk => ⟨⟨hk.1.1.1, ⟨hk.1.2, hk.1.1.2⟩⟩, hk.2⟩)) hg hat)).2.1)))
             have n7_ := am (ho)
             clear HO_0
             clear BK128
             clear HO145
             clear HB
             clear HK
             clear HR139
             clear HR152
             clear HO135
             have HO_0 := n0_
             have BK128 := n1_
             have HO145 := n2_
             have HB := n3_
             have HK := n4_
             have HR139 := n5_
             have HR152 := n6_
             have HO142 := n7_
             clear n0_ n1_ n2_ n3_ n4_ n5_ n6_ n7_
             clear ho hb hg hat
             refine hK.out _ _ ⟨q_z BK128.out 0, q_z BK128.out 1, q_z BK128.out 2, q_z BK128.out 3⟩ (fun hHeld => ?_)
             clear hK K
             refine norm_ (a' := ?_) ?_ ?_
             rotate_left
             ·show Act.put _ (some 38) _ = _
              simp only [Act.put, List.setIfInBounds_toArray, List.set_cons_zero, List.set_cons_succ, i64_w, i32_w]
              rfl
             exact norm_ (by simp only [putAll, Act.put, List.setIfInBounds_toArray, List.set_cons_zero, List.set_cons_succ]) (hCont (v134, v141, v144) _ ⟨hHeld, (by (with_reducible repeat (first | apply Kd.R_alloc | apply Kd.R_drewN | apply Kd.R_drew)); exact Kd.R_mono HO142.out (fun _ hk => ⟨hk.1, ⟨hk.2.2.1, ⟨hk.2.1, hk.2.2.2⟩⟩⟩)), (by (with_reducible repeat (first | apply Kd.R_alloc | apply Kd.R_drewN | apply Kd.R_drew)); exact Kd.R_mono HO145.out (fun _ hk => ⟨hk.1.1, ⟨hk.2, ⟨hk.1.2.1, hk.1.2.2⟩⟩⟩)), (by (with_reducible repeat (first | apply Kd.R_alloc | apply Kd.R_drewN | apply Kd.R_drew)); exact Kd.R_mono HO_0.out (fun _ hk => ⟨hk.1.1, ⟨hk.2, ⟨hk.1.2.1, hk.1.2.2⟩⟩⟩)), kq, (by repeat (first | (with_reducible first | exact HK.out | apply Kept.alloc | apply Kept.drewN | apply Kept.drew | refine Kept.setCell ?_ (.inr GW128.out) _) | exact HK.out)), bq⟩)
           rintro ⟨v134, v141, v144⟩ w33 ⟨hS_, h0_, h1_, h2_, h3_, h4_, h5_⟩
           have n0_ : Aside0 (Kd.R k49 49 w33 w0.heap.size (fun k_ => (P0_ k_ ∨ w.heap.size ≤ k_) ∧ some k_ ≠ (v144 : Value).ownBlock ∧ some k_ ≠ (.slice (some ad129) l0.length co21 : Value).ownBlock ∧ k_ ≠ gb128) v141 y140) := ⟨h0_⟩
           have n1_ : Aside0 (Kd.R k49 49 w33 w0.heap.size (fun k_ => (P0_ k_ ∨ w.heap.size ≤ k_) ∧ some k_ ≠ (v141 : Value).ownBlock ∧ some k_ ≠ (.slice (some ad129) l0.length co21 : Value).ownBlock ∧ k_ ≠ gb128) v144 y143) := ⟨h1_⟩
           have n2_ : Aside0 (Kd.R k49 49 w33 w0.heap.size (fun k_ => (P0_ k_ ∨ w.heap.size ≤ k_) ∧ some k_ ≠ (v141 : Value).ownBlock ∧ some k_ ≠ (v144 : Value).ownBlock ∧ k_ ≠ gb128) (.slice (some ad129) l0.length co21) l0) := ⟨h2_⟩
           have n3_ : Aside0 (w33.heap[gb128]? = some (.cells #[.string a1_0, .int .i64 a1_1, .string a1_2, .bool a1_3] 49 (0, 0))) := ⟨h3_⟩
           have n4_ : Aside0 (Kept w w33 (fun k_ => P0_ k_)) := ⟨h4_⟩
           have n5_ : Aside0 (Below w0.heap.size w0 w33) := ⟨h5_⟩
           clear HO_0
           clear BK128
           clear HK
           clear HB
           clear h0_ h1_ h2_ h3_ h4_ h5_
           have HO142 := n0_
           have HO145 := n1_
           have HO_0 := n2_
           have BK128 := n3_
           have HK := n4_
           have HB := n5_
           clear n0_ n1_ n2_ n3_ n4_ n5_
           have hHeld : w33.cell? ⟨gb128, 0, none⟩ = some (.string a1_0) ∧ w33.cell? ⟨gb128, 1, none⟩ = some (.int .i64 a1_1) ∧ w33.cell? ⟨gb128, 2, none⟩ = some (.string a1_2) ∧ w33.cell? ⟨gb128, 3, none⟩ = some (.bool a1_3) := hS_
           obtain ⟨Ao35, co35, eo35⟩ := Kd.R_slice HO145.out
           (first | subst eo35 | (injection eo35 with f1_ f2_ f3_; have f4_ := f1_.symm; have f5_ := f3_.symm; clear f1_ f2_ f3_; subst f4_; subst f5_))
           refine norm_ (a' := ?_) ?_ ?_
           rotate_left
           ·simp only [putAll, Act.put, List.setIfInBounds_toArray, List.set_cons_zero, List.set_cons_succ]
            rfl
           refine one_ (i := 7) (N := some 41) #[true, true, true, true, true, true, true, true, true, true, true, false, false] rfl rfl (one_of HT_.out (by kernel_rfl)) (by decide) (fun K hK => ?_)
           refine Kd.R_append_rows_step k49 (w0 := w0) w0.heap.size (by rfl) (.tmp 38) (.tmp 40) 25 49 (.agg #[(.string ⟨#[]⟩), (.int .i64 0), (.string ⟨#[]⟩), (.bool false)]) 48 rfl Try.underlying25 info49 rfl (by decide) (by omega) v141 y140 y143 _ _ _ (fun k_ => (P0_ k_ ∨ w.heap.size ≤ k_) ∧ some k_ ≠ (.slice (some ad129) l0.length co21 : Value).ownBlock ∧ some k_ ≠ (.slice Ao35 y143.length co35 : Value).ownBlock ∧ k_ ≠ gb128) (fun _ => False) rfl rfl ?aO ?aR (fun _ _ h => h) (fun _ h => h.elim) ?aF ?aB ?aS ?aL ?_
           (case aR => repeat (first | exact (Kd.R_reads' HO145.out).2.2 | (with_reducible refine Kd.C_alloc ?_ _) | (with_reducible refine Kd.C_drewN ?_ _) | (with_reducible refine Kd.C_drew ?_)))
           (case aB => exact bq)
           (case aF => exact (fun k_ hk => ⟨(.inr (Nat.le_trans (by first | exact HK.out.1 | exact (show Kept w _ (fun k_ => P0_ k_) from by repeat (first | (with_reducible first | exact HK.out | apply Kept.alloc | apply Kept.drewN | apply Kept.drew | refine Kept.setCell ?_ (.inr GW128.out) _) | exact HK.out)).1) hk)), Kd.fresh' (Kd.R_lt (q_r (HO_0.out))) k_ hk, Kd.fresh' (Kd.R_lt (q_r (HO145.out))) k_ hk, Kd.freshB (q_b BK128.out) k_ hk⟩))
           (case aO => exact (by (with_reducible repeat (first | apply Kd.R_alloc | apply Kd.R_drewN | apply Kd.R_drew)); exact Kd.R_mono HO142.out (fun _ hk => ⟨hk.1, ⟨hk.2.2.1, ⟨hk.2.1, hk.2.2.2⟩⟩⟩)))
           (case aS => exact (below_size bq))
           (case aL => have := LMc16.out; omega)
           intro v147 w34 ho hb hg hat
           rw [← Ny146.out] at ho
           have n0_ := am (Kd.R_after (ok := (fun k_ => (P0_ k_ ∨ w.heap.size ≤ k_) ∧ some k_ ≠ (.slice Ao35 y143.length co35 : Value).ownBlock ∧ k_ ≠ gb128)) (by (with_reducible repeat (first | apply Kd.R_alloc | apply Kd.R_drewN | apply Kd.R_drew)); exact Kd.R_mono HO_0.out (fun _ hk => ⟨⟨hk.1, ⟨hk.2.2.1, hk.2.2.2⟩⟩, hk.2.1⟩)) hg hat)
           have n1_ := am (blk_grown (q_b BK128.out) hg (Kd.R_away HO142.out (fun _ hk => hk.2.2.2)))
           have n2_ := am (Kd.R_after (ok := (fun k_ => (P0_ k_ ∨ w.heap.size ≤ k_) ∧ some k_ ≠ (.slice (some ad129) l0.length co21 : Value).ownBlock ∧ k_ ≠ gb128)) (by (with_reducible repeat (first | apply Kd.R_alloc | apply Kd.R_drewN | apply Kd.R_drew)); exact Kd.R_mono HO145.out (fun _ hk => ⟨⟨hk.1, ⟨hk.2.2.1, hk.2.2.2⟩⟩, hk.2.1⟩)) hg hat)
           have n3_ := am (hb)
           have n4_ := am (Kept.of_grown (S := (fun k_ => P0_ k_)) hg (by repeat (first | (with_reducible first | exact HK.out | apply Kept.alloc | apply Kept.drewN | apply Kept.drew | refine Kept.setCell ?_ (.inr GW128.out) _) | exact HK.out)) (fun k_ e_ => (HO142.out.1 k_ e_).1))
           have n5_ := am (ho)
           clear HO_0
           clear BK128
           clear HO145
           clear HB
           clear HK
           clear HO142
           have HO_0 := n0_
           have BK128 := n1_
           have HO145 := n2_
           have HB := n3_
           have HK := n4_
           have HO148 := n5_
           clear n0_ n1_ n2_ n3_ n4_ n5_
           clear ho hb hg hat
           refine hK.out _ _ ⟨q_z BK128.out 0, q_z BK128.out 1, q_z BK128.out 2, q_z BK128.out 3⟩ (fun hHeld => ?_)
           clear hK K
           refine norm_ (a' := ?_) ?_ ?_
           rotate_left
           ·show Act.put _ (some 41) _ = _
            simp only [Act.put, List.setIfInBounds_toArray, List.set_cons_zero, List.set_cons_succ, i64_w, i32_w]
            rfl
           refine one_ (i := 11) (N := some 45) #[true, true, true, true, true, true, true, true, true, true, true, true, false] rfl rfl (one_of HT_.out (by kernel_rfl)) (by decide) (fun K hK => ?_)
           refine Kd.R_append_rows_step k49 (w0 := w0) w0.heap.size (by rfl) (.tmp 41) (.tmp 44) 25 49 (.agg #[(.string ⟨#[]⟩), (.int .i64 0), (.string ⟨#[]⟩), (.bool false)]) 48 rfl Try.underlying25 info49 rfl (by decide) (by omega) v147 y146 y149 _ _ _ (fun k_ => (P0_ k_ ∨ w.heap.size ≤ k_) ∧ some k_ ≠ (.slice (some ad129) l0.length co21 : Value).ownBlock ∧ some k_ ≠ (.slice Ao35 y143.length co35 : Value).ownBlock ∧ k_ ≠ gb128) (fun _ => False) rfl rfl ?aO ?aR (fun _ _ h => h) (fun _ h => h.elim) ?aF ?aB ?aS ?aL ?_
           (case aR => repeat (first | exact (by have hr_ := Kd.C_drop (m := (x5_1 : Int).toNat) (c := co21) (Kd.R_reads' HO_0.out).2.2 KL27.out (Kd.R_reads' HO_0.out).2.1; rw [show (l0).drop (x5_1 : Int).toNat = y149 from Ny149.out.symm] at hr_; rw [KA27.out]; exact hr_) | (with_reducible refine Kd.C_alloc ?_ _) | (with_reducible refine Kd.C_drewN ?_ _) | (with_reducible refine Kd.C_drew ?_)))
           (case aB => exact bq)
           (case aF => exact (fun k_ hk => ⟨(.inr (Nat.le_trans (by first | exact HK.out.1 | exact (show Kept w _ (fun k_ => P0_ k_) from by repeat (first | (with_reducible first | exact HK.out | apply Kept.alloc | apply Kept.drewN | apply Kept.drew | refine Kept.setCell ?_ (.inr GW128.out) _) | exact HK.out)).1) hk)), Kd.fresh' (Kd.R_lt (q_r (HO_0.out))) k_ hk, Kd.fresh' (Kd.R_lt (q_r (HO145.out))) k_ hk, Kd.freshB (q_b BK128.out) k_ hk⟩))
           (case aO => exact (q_r (HO148.out)))
           (case aS => exact (below_size bq))
           (case aL => have := LMc19.out; omega)
           intro v154 w36 ho hb hg hat
           rw [← Ny153.out] at ho
           have n0_ := am (Kd.R_after (ok := (fun k_ => (P0_ k_ ∨ w.heap.size ≤ k_) ∧ some k_ ≠ (.slice Ao35 y143.length co35 : Value).ownBlock ∧ k_ ≠ gb128)) (q_r (HO_0.out)) hg hat)
           have n1_ := am (blk_grown (q_b BK128.out) hg (Kd.R_away HO148.out (fun _ hk => hk.2.2.2)))
           have n2_ := am (Kd.R_after (ok := (fun k_ => (P0_ k_ ∨ w.heap.size ≤ k_) ∧ some k_ ≠ (.slice (some ad129) l0.length co21 : Value).ownBlock ∧ k_ ≠ gb128)) (q_r (HO145.out)) hg hat)
           have n3_ := am (hb)
           have n4_ := am (Kept.of_grown (S := (fun k_ => P0_ k_)) hg (by repeat (first | (with_reducible first | exact HK.out | apply Kept.alloc | apply Kept.drewN | apply Kept.drew | refine Kept.setCell ?_ (.inr GW128.out) _) | exact HK.out)) (fun k_ e_ => (HO148.out.1 k_ e_).1))
           have n5_ := am (ho)
           clear HO_0
           clear BK128
           clear HO145
           clear HB
           clear HK
           clear HO148
           have HO_0 := n0_
           have BK128 := n1_
           have HO145 := n2_
           have HB := n3_
           have HK := n4_
           have HO155 := n5_
           clear n0_ n1_ n2_ n3_ n4_ n5_
           clear ho hb hg hat
           refine hK.out _ _ ⟨q_z BK128.out 0, q_z BK128.out 1, q_z BK128.out 2, q_z BK128.out 3⟩ (fun hHeld => ?_)
           clear hK K
           refine norm_ (a' := ?_) ?_ ?_
           rotate_left
           ·show Act.put _ (some 45) _ = _
            simp only [Act.put, List.setIfInBounds_toArray, List.set_cons_zero, List.set_cons_succ, i64_w, i32_w]
            rfl
           refine q_p 12 (some 4) #[true, true, true, true, true, true, true, true, true, true, true, true, true] HT_.out ?_
           refine done_ (done_of HT_.out (by kernel_rfl)) ?_
           try go_wp2
           go_ret
           exact ⟨_, q_e, q_r (Kd.R_mono HO155.out (fun _ hk => hk.1)), bq, by repeat (first | (with_reducible first | exact HK.out | apply Kept.alloc | apply Kept.drewN | apply Kept.drew | refine Kept.setCell ?_ (.inr GW128.out) _) | exact HK.out)⟩
          ·rw [if_neg c19] at H
           exact absurd H (by simp)
         ·rw [if_neg c16] at H
          exact absurd H (by simp)
        ·rw [if_neg c15] at H
         exact absurd H (by simp)
       ·rw [if_neg c14] at H
        exact absurd H (by simp)
      ·replace c12 := Bool.eq_false_iff.mpr c12
       subst c12
       have H1 : (some l0) = some r := by rw [if_neg (show ¬ (false = true) by decide)] at H; exact H
       clear H
       have H := H1
       clear H1
       obtain rfl := Option.some.inj H
       try go_wp2
       have n0_ := am (Kd.R_drew HO_0.out)
       have n1_ := am (blk_drew BK128.out)
       have n2_ := am (Kept.drew HK.out)
       have n3_ := am (below_drew1 HB.out)
       clear HO_0
       clear BK128
       clear HK
       clear HB
       have HO_0 := n0_
       have BK128 := n1_
       have HK := n2_
       have HB := n3_
       clear n0_ n1_ n2_ n3_
       obtain ⟨Ao38, co38, eo38⟩ := Kd.R_slice HO_0.out
       (first | subst eo38 | (injection eo38 with f1_ f2_ f3_; have f4_ := f1_.symm; have f5_ := f3_.symm; clear f1_ f2_ f3_; subst f4_; subst f5_))
       have p129 : 0 ≤ (x5_1 : Int) := q_d
       have q129 : x5_1 < (l0.length : Int) := q_d
       obtain ⟨ad129, e129, hx129_0, hx129_1, hx129_2, hx129_3⟩ := at_T49 (Kd.R_reads' HO_0.out).2.2 x5_1 p129 q129
       cases e129
       replace p129 := eq_true p129
       replace q129 := eq_true q129
       refine start_ (n := 12) (S := fun w' => w'.cell? ⟨gb128, 0, none⟩ = some (.string a1_0) ∧ w'.cell? ⟨gb128, 1, none⟩ = some (.int .i64 a1_1) ∧ w'.cell? ⟨gb128, 2, none⟩ = some (.string a1_2) ∧ w'.cell? ⟨gb128, 3, none⟩ = some (.bool a1_3) ∧ w'.cell? (ad129.add ((x5_1).toNat * 4)) = some (.string ((rd_T49 l0 x5_1).f0)) ∧ w'.cell? ⟨(ad129.add ((x5_1).toNat * 4)).block, (ad129.add ((x5_1).toNat * 4)).off + 1, none⟩ = some (.int .i64 ((rd_T49 l0 x5_1).f1)) ∧ w'.cell? ⟨(ad129.add ((x5_1).toNat * 4)).block, (ad129.add ((x5_1).toNat * 4)).off + 2, none⟩ = some (.string ((rd_T49 l0 x5_1).f2)) ∧ w'.cell? ⟨(ad129.add ((x5_1).toNat * 4)).block, (ad129.add ((x5_1).toNat * 4)).off + 3, none⟩ = some (.bool ((rd_T49 l0 x5_1).f3))) (ds := []) #[false, false, false, false, false, false, false, false, false, false, false, false] (by kernel_rfl) rfl rfl ⟨q_z BK128.out 0, q_z BK128.out 1, q_z BK128.out 2, q_z BK128.out 3, hx129_0, hx129_1, hx129_2, hx129_3⟩ (fun hHeld => ?_); refine with_tabW spec_l5Put.tab2 spec_l5Put.bits2 (fun HT_ HW_ => ?_)
       generalize wr.drew = w37 at HO_0 BK128 HK HB hx129_0 hx129_1 hx129_2 hx129_3 hHeld ⊢
       refine q_p 0 (some 6) #[true, false, false, false, false, false, false, false, false, false, false, false] HT_.out ?_
       refine q_p 1 (some 7) #[true, true, false, false, false, false, false, false, false, false, false, false] HT_.out ?_
       refine q_p 2 (some 8) #[true, true, true, false, false, false, false, false, false, false, false, false] HT_.out ?_
       refine q_p 3 (some 9) #[true, true, true, true, false, false, false, false, false, false, false, false] HT_.out ?_
       refine q_p 4 (some 10) #[true, true, true, true, true, false, false, false, false, false, false, false] HT_.out ?_
       refine q_p 5 (some 11) #[true, true, true, true, true, true, false, false, false, false, false, false] HT_.out ?_
       refine q_p 6 (some 12) #[true, true, true, true, true, true, true, false, false, false, false, false] HT_.out ?_
       refine q_p 7 (some 13) #[true, true, true, true, true, true, true, true, false, false, false, false] HT_.out ?_
       refine q_t 8 (some 14) #[true, true, true, true, true, true, true, true, true, false, false, false] HT_.out HW_.out hHeld ?_
       refine q_t 9 (some 15) #[true, true, true, true, true, true, true, true, true, true, false, false] HT_.out HW_.out hHeld ?_
       refine one_ (i := 10) (N := some 16) #[true, true, true, true, true, true, true, true, true, true, true, false] rfl rfl (one_of HT_.out (by kernel_rfl)) (by decide) (fun K hK => ?_)
       refine goes_ Try.func64 (by kernel_rfl) rfl #[.agg #[.string ((rd_T49 l0 x5_1).f0), .int .i64 ((rd_T49 l0 x5_1).f1), .string ((rd_T49 l0 x5_1).f2), .bool ((rd_T49 l0 x5_1).f3)], .agg #[.string a1_0, .int .i64 a1_1, .string a1_2, .bool a1_3]] (by rfl) rfl rfl (by (try simp only [List.map_toArray, List.map_cons, List.map_nil]); first | done | rfl | (simp only [List.length_drop, List.length_take]; rfl)) ?_
       with_reducible refine (spec_l5Ahead.calls ((rd_T49 l0 x5_1).f0) ((rd_T49 l0 x5_1).f1) ((rd_T49 l0 x5_1).f2) ((rd_T49 l0 x5_1).f3) a1_0 a1_1 a1_2 a1_3 false _ A6.out).mono ?_
       rintro e w39 ⟨rfl, hb⟩
       have HS4_ := (hb.cell (wb (hHeld.2.2.2.2.1))).trans (hHeld.2.2.2.2.1)
       have HS5_ := (hb.cell (wb (hHeld.2.2.2.2.2.1))).trans (hHeld.2.2.2.2.2.1)
       have HS6_ := (hb.cell (wb (hHeld.2.2.2.2.2.2.1))).trans (hHeld.2.2.2.2.2.2.1)
       have HS7_ := (hb.cell (wb (hHeld.2.2.2.2.2.2.2))).trans (hHeld.2.2.2.2.2.2.2)
       refine ⟨_, rfl, ?_⟩
       have n0_ := am (Kd.R_below (q_r (HO_0.out)) hb)
       have n1_ := am (blk_below (q_b BK128.out) hb)
       have n2_ := am (Kept.below (S := (fun k_ => P0_ k_)) (by repeat (first | (with_reducible first | exact HK.out | apply Kept.alloc | apply Kept.drewN | apply Kept.drew | refine Kept.setCell ?_ (.inr GW128.out) _) | exact HK.out)) hb)
       have n3_ := am (below_step bq hb)
       clear HO_0
       clear BK128
       clear HK
       clear HB
       have HO_0 := n0_
       have BK128 := n1_
       have HK := n2_
       have HB := n3_
       clear n0_ n1_ n2_ n3_
       (try clear hb)
       (try clear hb2)
       (try clear hk)
       (try clear hi)
       refine hK.out _ _ ⟨q_z BK128.out 0, q_z BK128.out 1, q_z BK128.out 2, q_z BK128.out 3, HS4_, HS5_, HS6_, HS7_⟩ (fun hHeld => ?_)
       clear hK K
       refine norm_ (a' := ?_) ?_ ?_
       rotate_left
       ·show Act.put _ (some 16) _ = _
        simp only [Act.put, List.setIfInBounds_toArray, List.set_cons_zero, List.set_cons_succ, i64_w, i32_w]
        rfl
       refine q_p 11 (some 17) #[true, true, true, true, true, true, true, true, true, true, true, true] HT_.out ?_
       refine done_ (done_of HT_.out (by kernel_rfl)) ?_
       try go_wp2
       have n0_ := am (Kd.R_drew HO_0.out)
       have n1_ := am (blk_drew BK128.out)
       have n2_ := am (Kept.drew HK.out)
       have n3_ := am (below_drew1 HB.out)
       clear HO_0
       clear BK128
       clear HK
       clear HB
       have HO_0 := n0_
       have BK128 := n1_
       have HK := n2_
       have HB := n3_
       clear n0_ n1_ n2_ n3_
       have p131 : 0 ≤ (x5_1 : Int) := q_d
       have q131 : x5_1 < (l0.length : Int) := q_d
       obtain ⟨ad131, e131, hx131_0, hx131_1, hx131_2, hx131_3⟩ := at_T49 (Kd.R_reads' HO_0.out).2.2 x5_1 p131 q131
       obtain rfl : ad129 = ad131 := (by injection e131)
       replace p131 := eq_true p131
       replace q131 := eq_true q131
       refine start_ (n := 13) (S := fun w' => w'.cell? ⟨gb128, 0, none⟩ = some (.string a1_0) ∧ w'.cell? ⟨gb128, 1, none⟩ = some (.int .i64 a1_1) ∧ w'.cell? ⟨gb128, 2, none⟩ = some (.string a1_2) ∧ w'.cell? ⟨gb128, 3, none⟩ = some (.bool a1_3) ∧ w'.cell? (ad129.add ((x5_1).toNat * 4)) = some (.string ((rd_T49 l0 x5_1).f0)) ∧ w'.cell? ⟨(ad129.add ((x5_1).toNat * 4)).block, (ad129.add ((x5_1).toNat * 4)).off + 1, none⟩ = some (.int .i64 ((rd_T49 l0 x5_1).f1)) ∧ w'.cell? ⟨(ad129.add ((x5_1).toNat * 4)).block, (ad129.add ((x5_1).toNat * 4)).off + 2, none⟩ = some (.string ((rd_T49 l0 x5_1).f2)) ∧ w'.cell? ⟨(ad129.add ((x5_1).toNat * 4)).block, (ad129.add ((x5_1).toNat * 4)).off + 3, none⟩ = some (.bool ((rd_T49 l0 x5_1).f3))) (ds := []) #[false, false, false, false, false, false, false, false, false, false, false, false, false] (by kernel_rfl) rfl rfl ⟨q_z BK128.out 0, q_z BK128.out 1, q_z BK128.out 2, q_z BK128.out 3, hx131_0, hx131_1, hx131_2, hx131_3⟩ (fun hHeld => ?_); refine with_tabW spec_l5Put.tab4 spec_l5Put.bits4 (fun HT_ HW_ => ?_)
       generalize w39.drew = w40 at HO_0 BK128 HK HB hx131_0 hx131_1 hx131_2 hx131_3 hHeld ⊢
       refine q_p 0 (some 20) #[true, false, false, false, false, false, false, false, false, false, false, false, false] HT_.out ?_
       refine q_p 1 (some 21) #[true, true, false, false, false, false, false, false, false, false, false, false, false] HT_.out ?_
       refine q_p 2 (some 22) #[true, true, true, false, false, false, false, false, false, false, false, false, false] HT_.out ?_
       refine q_p 3 (some 23) #[true, true, true, true, false, false, false, false, false, false, false, false, false] HT_.out ?_
       refine q_p 4 (some 24) #[true, true, true, true, true, false, false, false, false, false, false, false, false] HT_.out ?_
       refine q_p 6 (some 26) #[true, true, true, true, true, false, true, false, false, false, false, false, false] HT_.out ?_
       refine q_p 7 (some 27) #[true, true, true, true, true, false, true, true, false, false, false, false, false] HT_.out ?_
       refine q_p 8 (some 28) #[true, true, true, true, true, false, true, true, true, false, false, false, false] HT_.out ?_
       refine q_t 5 (some 25) #[true, true, true, true, true, true, true, true, true, false, false, false, false] HT_.out HW_.out hHeld ?_
       refine q_t 9 (some 29) #[true, true, true, true, true, true, true, true, true, true, false, false, false] HT_.out HW_.out hHeld ?_
       refine one_ (i := 10) (N := some 30) #[true, true, true, true, true, true, true, true, true, true, true, false, false] rfl rfl (one_of HT_.out (by kernel_rfl)) (by decide) (fun K hK => ?_)
       refine goes_ Try.func64 (by kernel_rfl) rfl #[.agg #[.string a1_0, .int .i64 a1_1, .string a1_2, .bool a1_3], .agg #[.string ((rd_T49 l0 x5_1).f0), .int .i64 ((rd_T49 l0 x5_1).f1), .string ((rd_T49 l0 x5_1).f2), .bool ((rd_T49 l0 x5_1).f3)]] (by rfl) rfl rfl (by (try simp only [List.map_toArray, List.map_cons, List.map_nil]); first | done | rfl | (simp only [List.length_drop, List.length_take]; rfl)) ?_
       with_reducible refine (spec_l5Ahead.calls a1_0 a1_1 a1_2 a1_3 ((rd_T49 l0 x5_1).f0) ((rd_T49 l0 x5_1).f1) ((rd_T49 l0 x5_1).f2) ((rd_T49 l0 x5_1).f3) false _ A11.out).mono ?_
       rintro e w41 ⟨rfl, hb⟩
       have HS4_ := (hb.cell (wb (hHeld.2.2.2.2.1))).trans (hHeld.2.2.2.2.1)
       have HS5_ := (hb.cell (wb (hHeld.2.2.2.2.2.1))).trans (hHeld.2.2.2.2.2.1)
       have HS6_ := (hb.cell (wb (hHeld.2.2.2.2.2.2.1))).trans (hHeld.2.2.2.2.2.2.1)
       have HS7_ := (hb.cell (wb (hHeld.2.2.2.2.2.2.2))).trans (hHeld.2.2.2.2.2.2.2)
       refine ⟨_, rfl, ?_⟩
       have n0_ := am (Kd.R_below (q_r (HO_0.out)) hb)
       have n1_ := am (blk_below (q_b BK128.out) hb)
       have n2_ := am (Kept.below (S := (fun k_ => P0_ k_)) (by repeat (first | (with_reducible first | exact HK.out | apply Kept.alloc | apply Kept.drewN | apply Kept.drew | refine Kept.setCell ?_ (.inr GW128.out) _) | exact HK.out)) hb)
       have n3_ := am (below_step bq hb)
       clear HO_0
       clear BK128
       clear HK
       clear HB
       have HO_0 := n0_
       have BK128 := n1_
       have HK := n2_
       have HB := n3_
       clear n0_ n1_ n2_ n3_
       (try clear hb)
       (try clear hb2)
       (try clear hk)
       (try clear hi)
       refine hK.out _ _ ⟨q_z BK128.out 0, q_z BK128.out 1, q_z BK128.out 2, q_z BK128.out 3, HS4_, HS5_, HS6_, HS7_⟩ (fun hHeld => ?_)
       clear hK K
       refine norm_ (a' := ?_) ?_ ?_
       rotate_left
       ·show Act.put _ (some 30) _ = _
        simp only [Act.put, List.setIfInBounds_toArray, List.set_cons_zero, List.set_cons_succ, i64_w, i32_w]
        rfl
       refine q_p 11 (some 31) #[true, true, true, true, true, true, true, true, true, true, true, true, false] HT_.out ?_
       refine q_p 12 (some 32) #[true, true, true, true, true, true, true, true, true, true, true, true, true] HT_.out ?_
       refine done_ (done_of HT_.out (by kernel_rfl)) ?_
       try go_wp2
       go_ret
       exact ⟨_, q_e, q_r (Kd.R_mono HO_0.out (fun _ hk => hk.1)), bq, by repeat (first | (with_reducible first | exact HK.out | apply Kept.alloc | apply Kept.drewN | apply Kept.drew | refine Kept.setCell ?_ (.inr GW128.out) _) | exact HK.out)⟩
    ·rw [if_neg c5] at H
     exact absurd H (by simp)
   ·rw [if_neg c4] at H
    have c4b0 := decide_eq_false c4
    clear c4
    obtain ⟨y156, hy156⟩ : ∃ y_ : List (S49), y_ = (([] : List (S49))) := ⟨_, rfl⟩
    replace H : (if 0 ≤ x5_1 then (if x5_1 ≤ (l0.length : Int) then ((some (l0.take (x5_1 : Int).toNat : List (S49))).bind fun y159 => (if y156.length + y159.length < 2932031007402 then ((some (y156 ++ y159 : List (S49))).bind fun y163 => ((some (([(⟨a1_0, a1_1, a1_2, a1_3⟩ : S49)] : List (S49)) : List (S49))).bind fun y166 => (if y163.length + y166.length < 2932031007402 then ((some (y163 ++ y166 : List (S49))).bind fun y169 => ((some (l0.drop (x5_1 : Int).toNat : List (S49))).bind fun y172 => (if y169.length + y172.length < 2932031007402 then (some (y169 ++ y172)) else (none)))) else (none)))) else (none))) else (none)) else (none)) = some r := q_h hy156 H
    have Ny156 := am hy156
    clear hy156
    by_cases c42 : 0 ≤ x5_1
    ·rw [if_pos c42] at H
     have c42b0 := eq_true c42
     have c42b1 := decide_eq_true c42
     clear c42
     by_cases c43 : x5_1 ≤ (l0.length : Int)
     ·rw [if_pos c43] at H
      have c43b0 := eq_true c43
      have c43b1 := decide_eq_true c43
      clear c43
      obtain ⟨y159, hy159⟩ : ∃ y_ : List (S49), y_ = (l0.take (x5_1 : Int).toNat) := ⟨_, rfl⟩
      replace H : (if y156.length + y159.length < 2932031007402 then ((some (y156 ++ y159 : List (S49))).bind fun y163 => ((some (([(⟨a1_0, a1_1, a1_2, a1_3⟩ : S49)] : List (S49)) : List (S49))).bind fun y166 => (if y163.length + y166.length < 2932031007402 then ((some (y163 ++ y166 : List (S49))).bind fun y169 => ((some (l0.drop (x5_1 : Int).toNat : List (S49))).bind fun y172 => (if y169.length + y172.length < 2932031007402 then (some (y169 ++ y172)) else (none)))) else (none)))) else (none)) = some r := q_h hy159 H
      have Ny159 := am hy159
      clear hy159
      by_cases c44 : y156.length + y159.length < 2932031007402
      ·rw [if_pos c44] at H
       have LMc44 := am c44
       clear c44
       obtain ⟨y163, hy163⟩ : ∃ y_ : List (S49), y_ = (y156 ++ y159) := ⟨_, rfl⟩
       replace H : ((some (([(⟨a1_0, a1_1, a1_2, a1_3⟩ : S49)] : List (S49)) : List (S49))).bind fun y166 => (if y163.length + y166.length < 2932031007402 then ((some (y163 ++ y166 : List (S49))).bind fun y169 => ((some (l0.drop (x5_1 : Int).toNat : List (S49))).bind fun y172 => (if y169.length + y172.length < 2932031007402 then (some (y169 ++ y172)) else (none)))) else (none))) = some r := q_h hy163 H
       have Ny163 := am hy163
       clear hy163
       obtain ⟨y166, hy166⟩ : ∃ y_ : List (S49), y_ = (([(⟨a1_0, a1_1, a1_2, a1_3⟩ : S49)] : List (S49))) := ⟨_, rfl⟩
       replace H : (if y163.length + y166.length < 2932031007402 then ((some (y163 ++ y166 : List (S49))).bind fun y169 => ((some (l0.drop (x5_1 : Int).toNat : List (S49))).bind fun y172 => (if y169.length + y172.length < 2932031007402 then (some (y169 ++ y172)) else (none)))) else (none)) = some r := q_h hy166 H
       have Ny166 := am hy166
       clear hy166
       by_cases c45 : y163.length + y166.length < 2932031007402
       ·rw [if_pos c45] at H
        have LMc45 := am c45
        clear c45
        obtain ⟨y169, hy169⟩ : ∃ y_ : List (S49), y_ = (y163 ++ y166) := ⟨_, rfl⟩
        replace H : ((some (l0.drop (x5_1 : Int).toNat : List (S49))).bind fun y172 => (if y169.length + y172.length < 2932031007402 then (some (y169 ++ y172)) else (none))) = some r := q_h hy169 H
        have Ny169 := am hy169
        clear hy169
        have c46b0 := eq_true (q_d : 0 ≤ x5_1)
        have c47b0 := eq_true (q_d : x5_1 ≤ (l0.length : Int))
        obtain ⟨y172, hy172⟩ : ∃ y_ : List (S49), y_ = (l0.drop (x5_1 : Int).toNat) := ⟨_, rfl⟩
        replace H : (if y169.length + y172.length < 2932031007402 then (some (y169 ++ y172)) else (none)) = some r := q_h hy172 H
        have Ny172 := am hy172
        clear hy172
        by_cases c48 : y169.length + y172.length < 2932031007402
        ·rw [if_pos c48] at H
         have LMc48 := am c48
         clear c48
         obtain ⟨y176, hy176⟩ : ∃ y_ : List (S49), y_ = (y169 ++ y172) := ⟨_, rfl⟩
         replace H : (some y176) = some r := q_h hy176 H
         have Ny176 := am hy176
         clear hy176
         obtain rfl := Option.some.inj H
         try go_wp2
         have n0_ := am (Kd.R_drew HO_0.out)
         have n1_ := am (blk_drew BK128.out)
         have n2_ := am (Kept.drew HK.out)
         have n3_ := am (below_drew1 HB.out)
         clear HO_0
         clear BK128
         clear HK
         clear HB
         have HO_0 := n0_
         have BK128 := n1_
         have HK := n2_
         have HB := n3_
         clear n0_ n1_ n2_ n3_
         obtain ⟨Ao50, co50, eo50⟩ := Kd.R_slice HO_0.out
         (first | subst eo50 | (injection eo50 with f1_ f2_ f3_; have f4_ := f1_.symm; have f5_ := f3_.symm; clear f1_ f2_ f3_; subst f4_; subst f5_))
         refine start_ (n := 12) (S := fun w' => True) (ds := []) #[false, false, false, false, false, false, false, false, false, false, false, false] (by kernel_rfl) rfl rfl trivial (fun hHeld => ?_); refine with_tabW spec_l5Put.tab2 spec_l5Put.bits2 (fun HT_ HW_ => ?_)
         generalize wr.drew = w49 at HO_0 BK128 HK HB hHeld ⊢
         refine q_p 0 (some 6) #[true, false, false, false, false, false, false, false, false, false, false, false] HT_.out ?_
         refine q_p 1 (some 7) #[true, true, false, false, false, false, false, false, false, false, false, false] HT_.out ?_
         refine q_p 2 (some 8) #[true, true, true, false, false, false, false, false, false, false, false, false] HT_.out ?_
         refine q_p 3 (some 9) #[true, true, true, true, false, false, false, false, false, false, false, false] HT_.out ?_
         refine q_p 4 (some 10) #[true, true, true, true, true, false, false, false, false, false, false, false] HT_.out ?_
         refine pure_ (i := 5) (N := some 11) (v := undef) (a' := ?_) #[true, true, true, true, true, true, false, false, false, false, false, false] rfl rfl (any_of HT_.out (by kernel_rfl)) (fun _ _ _ h => h) (Or.inr ⟨by rfl, rfl⟩) ?_ ?_
         rotate_left
         ·simp only [Act.put, List.setIfInBounds_toArray, List.set_cons_zero, List.set_cons_succ, i64_w, i32_w]
          rfl
         refine pure_ (i := 6) (N := some 12) (v := undef) (a' := ?_) #[true, true, true, true, true, true, true, false, false, false, false, false] rfl rfl (any_of HT_.out (by kernel_rfl)) (fun _ _ _ h => h) (Or.inr ⟨by rfl, rfl⟩) ?_ ?_
         rotate_left
         ·simp only [Act.put, List.setIfInBounds_toArray, List.set_cons_zero, List.set_cons_succ, i64_w, i32_w]
          rfl
         refine pure_ (i := 7) (N := some 13) (v := undef) (a' := ?_) #[true, true, true, true, true, true, true, true, false, false, false, false] rfl rfl (any_of HT_.out (by kernel_rfl)) (fun _ _ _ h => h) (Or.inr ⟨by rfl, rfl⟩) ?_ ?_
         rotate_left
         ·simp only [Act.put, List.setIfInBounds_toArray, List.set_cons_zero, List.set_cons_succ, i64_w, i32_w]
          rfl
         refine pure_ (i := 8) (N := some 14) (v := undef) (a' := ?_) #[true, true, true, true, true, true, true, true, true, false, false, false] rfl rfl (any_of HT_.out (by kernel_rfl)) (fun _ _ _ h => h) (Or.inr ⟨by rfl, rfl⟩) ?_ ?_
         rotate_left
         ·simp only [Act.put, List.setIfInBounds_toArray, List.set_cons_zero, List.set_cons_succ, i64_w, i32_w]
          rfl
         refine pure_ (i := 9) (N := some 15) (v := undef) (a' := ?_) #[true, true, true, true, true, true, true, true, true, true, false, false] rfl rfl (any_of HT_.out (by kernel_rfl)) (fun _ _ _ h => h) (Or.inr ⟨by rfl, rfl⟩) ?_ ?_
         rotate_left
         ·simp only [Act.put, List.setIfInBounds_toArray, List.set_cons_zero, List.set_cons_succ, i64_w, i32_w]
          rfl
         refine pure_ (i := 10) (N := some 16) (v := undef) (a' := ?_) #[true, true, true, true, true, true, true, true, true, true, true, false] rfl rfl (any_of HT_.out (by kernel_rfl)) (fun _ _ _ h => h) (Or.inr ⟨by rfl, rfl⟩) ?_ ?_
         rotate_left
         ·simp only [Act.put, List.setIfInBounds_toArray, List.set_cons_zero, List.set_cons_succ, i64_w, i32_w]
          rfl
         refine q_p 11 (some 17) #[true, true, true, true, true, true, true, true, true, true, true, true] HT_.out ?_
         refine done_ (done_of HT_.out (by kernel_rfl)) ?_
         try go_wp2
         have n0_ := am (Kd.R_drew HO_0.out)
         have n1_ := am (blk_drew BK128.out)
         have n2_ := am (Kept.drew HK.out)
         have n3_ := am (below_drew1 HB.out)
         clear HO_0
         clear BK128
         clear HK
         clear HB
         have HO_0 := n0_
         have BK128 := n1_
         have HK := n2_
         have HB := n3_
         clear n0_ n1_ n2_ n3_
         refine start_ (n := 13) (S := fun w' => True) (ds := []) #[false, false, false, false, false, false, false, false, false, false, false, false, false] (by kernel_rfl) rfl rfl trivial (fun hHeld => ?_); refine with_tabW spec_l5Put.tab4 spec_l5Put.bits4 (fun HT_ HW_ => ?_)
         generalize w49.drew = w51 at HO_0 BK128 HK HB hHeld ⊢
         refine q_p 0 (some 20) #[true, false, false, false, false, false, false, false, false, false, false, false, false] HT_.out ?_
         refine q_p 1 (some 21) #[true, true, false, false, false, false, false, false, false, false, false, false, false] HT_.out ?_
         refine q_p 2 (some 22) #[true, true, true, false, false, false, false, false, false, false, false, false, false] HT_.out ?_
         refine q_p 3 (some 23) #[true, true, true, true, false, false, false, false, false, false, false, false, false] HT_.out ?_
         refine q_p 4 (some 24) #[true, true, true, true, true, false, false, false, false, false, false, false, false] HT_.out ?_
         refine pure_ (i := 5) (N := some 25) (v := undef) (a' := ?_) #[true, true, true, true, true, true, false, false, false, false, false, false, false] rfl rfl (any_of HT_.out (by kernel_rfl)) (fun _ _ _ h => h) (Or.inr ⟨by rfl, rfl⟩) ?_ ?_
         rotate_left
         ·simp only [Act.put, List.setIfInBounds_toArray, List.set_cons_zero, List.set_cons_succ, i64_w, i32_w]
          rfl
         refine pure_ (i := 6) (N := some 26) (v := undef) (a' := ?_) #[true, true, true, true, true, true, true, false, false, false, false, false, false] rfl rfl (any_of HT_.out (by kernel_rfl)) (fun _ _ _ h => h) (Or.inr ⟨by rfl, rfl⟩) ?_ ?_
         rotate_left
         ·simp only [Act.put, List.setIfInBounds_toArray, List.set_cons_zero, List.set_cons_succ, i64_w, i32_w]
          rfl
         refine pure_ (i := 7) (N := some 27) (v := undef) (a' := ?_) #[true, true, true, true, true, true, true, true, false, false, false, false, false] rfl rfl (any_of HT_.out (by kernel_rfl)) (fun _ _ _ h => h) (Or.inr ⟨by rfl, rfl⟩) ?_ ?_
         rotate_left
         ·simp only [Act.put, List.setIfInBounds_toArray, List.set_cons_zero, List.set_cons_succ, i64_w, i32_w]
          rfl
         refine pure_ (i := 8) (N := some 28) (v := undef) (a' := ?_) #[true, true, true, true, true, true, true, true, true, false, false, false, false] rfl rfl (any_of HT_.out (by kernel_rfl)) (fun _ _ _ h => h) (Or.inr ⟨by rfl, rfl⟩) ?_ ?_
         rotate_left
         ·simp only [Act.put, List.setIfInBounds_toArray, List.set_cons_zero, List.set_cons_succ, i64_w, i32_w]
          rfl
         refine pure_ (i := 9) (N := some 29) (v := undef) (a' := ?_) #[true, true, true, true, true, true, true, true, true, true, false, false, false] rfl rfl (any_of HT_.out (by kernel_rfl)) (fun _ _ _ h => h) (Or.inr ⟨by rfl, rfl⟩) ?_ ?_
         rotate_left
         ·simp only [Act.put, List.setIfInBounds_toArray, List.set_cons_zero, List.set_cons_succ, i64_w, i32_w]
          rfl
         refine pure_ (i := 10) (N := some 30) (v := undef) (a' := ?_) #[true, true, true, true, true, true, true, true, true, true, true, false, false] rfl rfl (any_of HT_.out (by kernel_rfl)) (fun _ _ _ h => h) (Or.inr ⟨by rfl, rfl⟩) ?_ ?_
         rotate_left
         ·simp only [Act.put, List.setIfInBounds_toArray, List.set_cons_zero, List.set_cons_succ, i64_w, i32_w]
          rfl
         refine pure_ (i := 11) (N := some 31) (v := undef) (a' := ?_) #[true, true, true, true, true, true, true, true, true, true, true, true, false] rfl rfl (any_of HT_.out (by kernel_rfl)) (fun _ _ _ h => h) (Or.inr ⟨by rfl, rfl⟩) ?_ ?_
         rotate_left
         ·simp only [Act.put, List.setIfInBounds_toArray, List.set_cons_zero, List.set_cons_succ, i64_w, i32_w]
          rfl
         refine q_p 12 (some 32) #[true, true, true, true, true, true, true, true, true, true, true, true, true] HT_.out ?_
         refine done_ (done_of HT_.out (by kernel_rfl)) ?_
         try go_wp2
         have n0_ := am (Kd.R_drew HO_0.out)
         have n1_ := am (blk_drew BK128.out)
         have n2_ := am (Kept.drew HK.out)
         have n3_ := am (below_drew1 HB.out)
         clear HO_0
         clear BK128
         clear HK
         clear HB
         have HO_0 := n0_
         have BK128 := n1_
         have HK := n2_
         have HB := n3_
         clear n0_ n1_ n2_ n3_
         have q53 : (x5_1 : Int) ≤ ((l0.length : Int) : Int) := q_d
         obtain ⟨i053, hi053, _, hsz53, _⟩ := info_parts info49
         have hroom53 : l0.length ≤ co50 := (Kd.R_reads' HO_0.out).2.1
         have hC53 : Kd.C k49 _ Ao50 l0.length l0 := (Kd.R_reads' HO_0.out).2.2
         have hcut53 := cut_to (P := Try.prog) 25 49 .i64 Try.underlying25 hi053 Ao50 l0.length co50 x5_1 q_d q53 hroom53
         have hr53 := Kd.C_take (m := (x5_1 : Int).toNat) hC53 (by omega)
         have hy53 : y159.length = (x5_1 : Int).toNat := (by rw [Ny159.out, List.length_take]; omega)
         rw [← Ny159.out] at hr53
         rw [← hy53] at hcut53
         have HR162 := am hr53
         have HC162 := am (show y159.length ≤ co50 from by omega)
         clear hr53 hC53 hroom53 hi053 hsz53
         have KY53 := am hy53
         clear hy53
         have KL53 := am (show (x5_1 : Int).toNat ≤ l0.length from by omega)
         replace q53 := eq_true q53
         have q54 : (x5_1 : Int) ≤ ((l0.length : Int) : Int) := q_d
         obtain ⟨i054, hi054, _, hsz54, _⟩ := info_parts info49
         have hroom54 : l0.length ≤ co50 := (Kd.R_reads' HO_0.out).2.1
         have hC54 : Kd.C k49 _ Ao50 l0.length l0 := (Kd.R_reads' HO_0.out).2.2
         have q054 : (0 : Int) ≤ (x5_1 : Int) := q_d
         have hcut54 := cut_from (P := Try.prog) 25 49 .i64 Try.underlying25 hi054 4 hsz54 Ao50 l0.length co50 x5_1 q054 q54
         have hr54 := Kd.C_drop (m := (x5_1 : Int).toNat) (c := co50) hC54 (by omega) hroom54
         obtain ⟨A54, hA54⟩ : ∃ A1, A1 = (if co50 = (x5_1 : Int).toNat then Ao50 else (Ao50 : Option Addr).map (·.add ((x5_1 : Int).toNat * 4))) := ⟨_, rfl⟩
         obtain ⟨c54, hc54⟩ : ∃ c1, c1 = co50 - (x5_1 : Int).toNat := ⟨_, rfl⟩
         have hy54 : y172.length = l0.length - (x5_1 : Int).toNat := (by rw [Ny172.out, List.length_drop] <;> omega)
         rw [show (l0).drop (x5_1 : Int).toNat = y172 from Ny172.out.symm] at hr54
         replace hr54 : Kd.C k49 _ A54 y172.length y172 := (by rw [hA54]; exact hr54)
         rw [← hy54, ← hA54, ← hc54] at hcut54
         have HR175 := am hr54
         have HC175 := am (show y172.length ≤ c54 from by rw [hy54, hc54]; exact Nat.sub_le_sub_right hroom54 _)
         clear hr54 hC54 hroom54 hi054 hsz54 hc54
         have KY54 := am hy54
         have KA54 := am hA54
         clear hy54 hA54
         have KL54 := am (show (x5_1 : Int).toNat ≤ l0.length from by omega)
         replace q54 := eq_true q54
         refine start_ (n := 13) (S := fun w' => w'.cell? ⟨gb128, 0, none⟩ = some (.string a1_0) ∧ w'.cell? ⟨gb128, 1, none⟩ = some (.int .i64 a1_1) ∧ w'.cell? ⟨gb128, 2, none⟩ = some (.string a1_2) ∧ w'.cell? ⟨gb128, 3, none⟩ = some (.bool a1_3)) (ds := []) #[false, false, false, false, false, false, false, false, false, false, false, false, false] (by kernel_rfl) rfl rfl ⟨q_z BK128.out 0, q_z BK128.out 1, q_z BK128.out 2, q_z BK128.out 3⟩ (fun hHeld => ?_); refine with_tabW spec_l5Put.tab6 spec_l5Put.bits6 (fun HT_ HW_ => ?_)
         generalize w51.drew = w52 at HO_0 BK128 HK HB HR162 HR175 hHeld ⊢
         refine q_p 1 (some 35) #[false, true, false, false, false, false, false, false, false, false, false, false, false] HT_.out ?_
         refine q_p 2 (some 36) #[false, true, true, false, false, false, false, false, false, false, false, false, false] HT_.out ?_
         refine q_p 3 (some 37) #[false, true, true, true, false, false, false, false, false, false, false, false, false] HT_.out ?_
         refine q_p 8 (some 42) #[false, true, true, true, false, false, false, false, true, false, false, false, false] HT_.out ?_
         refine q_p 9 (some 43) #[false, true, true, true, false, false, false, false, true, true, false, false, false] HT_.out ?_
         refine q_p 10 (some 44) #[false, true, true, true, false, false, false, false, true, true, true, false, false] HT_.out ?_
         refine q_t 5 (some 39) #[false, true, true, true, false, true, false, false, true, true, true, false, false] HT_.out HW_.out hHeld ?_
         refine join_ (σ := Value × Value × Value) 3 #[true, true, true, true, true, true, true, false, true, true, true, false, false] (fun s_ => [(34, s_.1), (38, s_.2.1), (40, s_.2.2)]) (fun s_ w' => (w'.cell? ⟨gb128, 0, none⟩ = some (.string a1_0) ∧ w'.cell? ⟨gb128, 1, none⟩ = some (.int .i64 a1_1) ∧ w'.cell? ⟨gb128, 2, none⟩ = some (.string a1_2) ∧ w'.cell? ⟨gb128, 3, none⟩ = some (.bool a1_3)) ∧ (Kd.R k49 49 w' w0.heap.size (fun k_ => (P0_ k_ ∨ w.heap.size ≤ k_) ∧ some k_ ≠ (s_.2.2 : Value).ownBlock ∧ some k_ ≠ (.slice Ao50 l0.length co50 : Value).ownBlock ∧ k_ ≠ gb128) s_.2.1 y163) ∧ (Kd.R k49 49 w' w0.heap.size (fun k_ => (P0_ k_ ∨ w.heap.size ≤ k_) ∧ some k_ ≠ (s_.2.1 : Value).ownBlock ∧ some k_ ≠ (.slice Ao50 l0.length co50 : Value).ownBlock ∧ k_ ≠ gb128) s_.2.2 y166) ∧ (Kd.R k49 49 w' w0.heap.size (fun k_ => (P0_ k_ ∨ w.heap.size ≤ k_) ∧ some k_ ≠ (s_.2.1 : Value).ownBlock ∧ some k_ ≠ (s_.2.2 : Value).ownBlock ∧ k_ ≠ gb128) (.slice Ao50 l0.length co50) l0) ∧ (w'.heap[gb128]? = some (.cells #[.string a1_0, .int .i64 a1_1, .string a1_2, .bool a1_3] 49 (0, 0))) ∧ (Kept w w' (fun k_ => P0_ k_)) ∧ (Below w0.heap.size w0 w')) ?_ ?_
         rotate_left
         ·intro hCont
          refine two_ (i := 0) (j := 6) (Ni := some 34) (Nj := some 40) #[true, true, true, true, false, true, false, false, true, true, true, false, false] #[false, true, true, true, false, true, true, false, true, true, true, false, false] rfl rfl rfl rfl (two_of HT_.out (by kernel_rfl)) (by decide) (by decide) (fun K hK => ?_) (fun K hK => ?_)
          ·skip
           refine Kd.R_lit_step k49 _ 49 ?hg (N := 34) ?hd (xs := ([] : List (S49))) (inner := []) (ok := fun _ => True) (okp := fun _ => True) ?hr ?hp (fun _ hk => hk) trivial (Below.refl _ _) (Nat.le_refl _) (by simp) ?_; (case hd => rfl); (case hg => rfl); (case hr => first | (go_simp; done) | (go_simp; rfl)); (case hp => exact (Reps.none _ _))
           intro v157 w55 ho56 hb hg_ hnew_
           clear hg_ hnew_
           (first | rw [← Ny156.out] at ho56 | (simp only [Int.reduceToNat] at ho56; rw [← Ny156.out] at ho56))
           have n0_ := am (Kd.R_elder' (q_r (HO_0.out)) (Kd.R_base ho56) hb)
           have n1_ := am (Kd.R_lower (Kd.R_newB (Kd.R_new' (Kd.R_newM (M := fun k_ => (P0_ k_ ∨ w.heap.size ≤ k_)) ho56 (by first | exact HK.out.1 | exact (show Kept w _ (fun k_ => P0_ k_) from by repeat (first | (with_reducible first | exact HK.out | apply Kept.alloc | apply Kept.drewN | apply Kept.drew | refine Kept.setCell ?_ (.inr GW128.out) _) | exact HK.out)).1) (fun k_ h_ => .inr h_)) (Kd.R_lt (q_r (HO_0.out)))) (q_b BK128.out)) (below_size bq))
           have n2_ := am (blk_below (q_b BK128.out) hb)
           have n3_ := am (Kd.C_below (by repeat (first | (with_reducible exact HR162.out) | (with_reducible refine Kd.C_alloc ?_ _) | (with_reducible refine Kd.C_drewN ?_ _) | (with_reducible refine Kd.C_drew ?_) | exact HR162.out)) hb)
           have n4_ := am (Kd.C_below (by repeat (first | (with_reducible exact HR175.out) | (with_reducible refine Kd.C_alloc ?_ _) | (with_reducible refine Kd.C_drewN ?_ _) | (with_reducible refine Kd.C_drew ?_) | exact HR175.out)) hb)
           have n5_ := am (Kept.below (S := (fun k_ => P0_ k_)) (by repeat (first | (with_reducible first | exact HK.out | apply Kept.alloc | apply Kept.drewN | apply Kept.drew | refine Kept.setCell ?_ (.inr GW128.out) _) | exact HK.out)) hb)
           have n6_ := am (below_step bq hb)
           clear HO_0
           clear BK128
           clear HR162
           clear HR175
           clear HK
           clear HB
           have HO_0 := n0_
           have HO158 := n1_
           have BK128 := n2_
           have HR162 := n3_
           have HR175 := n4_
           have HK := n5_
           have HB := n6_
           clear n0_ n1_ n2_ n3_ n4_ n5_ n6_
           clear hb ho56
           refine hK.out _ _ ⟨q_z BK128.out 0, q_z BK128.out 1, q_z BK128.out 2, q_z BK128.out 3⟩ (fun hHeld => ?_)
           clear hK K
           refine norm_ (a' := ?_) ?_ ?_
           rotate_left
           ·show Act.put _ (some 34) _ = _
            simp only [Act.put, List.setIfInBounds_toArray, List.set_cons_zero, List.set_cons_succ, i64_w, i32_w]
            rfl
           refine two_ (i := 4) (j := 6) (Ni := some 38) (Nj := some 40) #[true, true, true, true, true, true, false, false, true, true, true, false, false] #[true, true, true, true, false, true, true, false, true, true, true, false, false] rfl rfl rfl rfl (two_of HT_.out (by kernel_rfl)) (by decide) (by decide) (fun K hK => ?_) (fun K hK => ?_)
           ·skip
            refine Kd.R_append_rows_step k49 (w0 := w0) w0.heap.size (by rfl) (.tmp 34) (.tmp 37) 25 49 (.agg #[(.string ⟨#[]⟩), (.int .i64 0), (.string ⟨#[]⟩), (.bool false)]) 48 rfl Try.underlying25 info49 rfl (by decide) (by omega) v157 y156 y159 _ _ _ (fun k_ => (P0_ k_ ∨ w.heap.size ≤ k_) ∧ some k_ ≠ (.slice Ao50 l0.length co50 : Value).ownBlock ∧ k_ ≠ gb128) (fun _ => False) rfl rfl ?aO ?aR (fun _ _ h => h) (fun _ h => h.elim) ?aF ?aB ?aS ?aL ?_
            (case aR => repeat (first | exact (by repeat (first | (with_reducible exact HR162.out) | (with_reducible refine Kd.C_alloc ?_ _) | (with_reducible refine Kd.C_drewN ?_ _) | (with_reducible refine Kd.C_drew ?_) | exact HR162.out)) | (with_reducible refine Kd.C_alloc ?_ _) | (with_reducible refine Kd.C_drewN ?_ _) | (with_reducible refine Kd.C_drew ?_)))
            (case aB => exact bq)
            (case aF => exact (fun k_ hk => ⟨(.inr (Nat.le_trans (by first | exact HK.out.1 | exact (show Kept w _ (fun k_ => P0_ k_) from by repeat (first | (with_reducible first | exact HK.out | apply Kept.alloc | apply Kept.drewN | apply Kept.drew | refine Kept.setCell ?_ (.inr GW128.out) _) | exact HK.out)).1) hk)), Kd.fresh' (Kd.R_lt (q_r (HO_0.out))) k_ hk, Kd.freshB (q_b BK128.out) k_ hk⟩))
            (case aO => exact (by (with_reducible repeat (first | apply Kd.R_alloc | apply Kd.R_drewN | apply Kd.R_drew)); exact Kd.R_mono HO158.out (fun _ hk => ⟨hk.1.1.1, ⟨hk.1.2, hk.2⟩⟩)))
            (case aS => exact (below_size bq))
            (case aL => have := LMc44.out; omega)
            intro v164 w57 ho hb hg hat
            rw [← Ny163.out] at ho
            have n0_ := am (Kd.R_after (ok := (fun k_ => (P0_ k_ ∨ w.heap.size ≤ k_) ∧ k_ ≠ gb128)) (q_r (HO_0.out)) hg hat)
            have n1_ := am (blk_grown (q_b BK128.out) hg (Kd.R_away HO158.out (fun _ hk => hk.2)))
            have n2_ := am (hb)
            have n3_ := am (Kept.of_grown (S := (fun k_ => P0_ k_)) hg (by repeat (first | (with_reducible first | exact HK.out | apply Kept.alloc | apply Kept.drewN | apply Kept.drew | refine Kept.setCell ?_ (.inr GW128.out) _) | exact HK.out)) (fun k_ e_ => (HO158.out.1 k_ e_).1.1.1))
            have n4_ := am ((show Kd.C k49 w57 Ao50 y159.length y159 from by rw [Ny159.out]; exact Kd.C_take (m := (x5_1 : Int).toNat) ((Kd.R_reads' (Kd.R_after (ok := (fun k_ => (P0_ k_ ∨ w.heap.size ≤ k_) ∧ k_ ≠ gb128)) (q_r (HO_0.out)) hg hat)).2.2) KL53.out))
            have n5_ := am ((show Kd.C k49 w57 A54 y172.length y172 from by rw [Ny172.out, KA54.out]; exact Kd.C_drop (m := (x5_1 : Int).toNat) (c := co50) ((Kd.R_reads' (Kd.R_after (ok := (fun k_ => (P0_ k_ ∨ w.heap.size ≤ k_) ∧ k_ ≠ gb128)) (q_r (HO_0.out)) hg hat)).2.2) KL54.out ((Kd.R_reads' (Kd.R_after (ok := (fun k_ => (P0_ k_ ∨ w.heap.size ≤ k_) ∧ k_ ≠ gb128)) (q_r (HO_0.out)) hg hat)).2.1)))
            have n6_ := am (ho)
            clear HO_0
            clear BK128
            clear HB
            clear HK
            clear HR162
            clear HR175
            clear HO158
            have HO_0 := n0_
            have BK128 := n1_
            have HB := n2_
            have HK := n3_
            have HR162 := n4_
            have HR175 := n5_
            have HO165 := n6_
            clear n0_ n1_ n2_ n3_ n4_ n5_ n6_
            clear ho hb hg hat
            refine hK.out _ _ ⟨q_z BK128.out 0, q_z BK128.out 1, q_z BK128.out 2, q_z BK128.out 3⟩ (fun hHeld => ?_)
            clear hK K
            refine norm_ (a' := ?_) ?_ ?_
            rotate_left
            ·show Act.put _ (some 38) _ = _
             simp only [Act.put, List.setIfInBounds_toArray, List.set_cons_zero, List.set_cons_succ, i64_w, i32_w]
             rfl
            refine one_ (i := 6) (N := some 40) #[true, true, true, true, true, true, true, false, true, true, true, false, false] rfl rfl (one_of HT_.out (by kernel_rfl)) (by decide) (fun K hK => ?_)
            refine Kd.R_lit_step k49 _ 49 ?hg (N := 40) ?hd (xs := ([(⟨a1_0, a1_1, a1_2, a1_3⟩ : S49)] : List (S49))) (inner := [.string a1_0, .int .i64 a1_1, .string a1_2, .bool a1_3]) (ok := fun _ => True) (okp := fun _ => True) ?hr ?hp (fun _ hk => hk) trivial (Below.refl _ _) (Nat.le_refl _) (by simp) ?_; (case hd => rfl); (case hg => rfl); (case hr => first | (go_simp; done) | (go_simp; rfl)); (case hp => exact (Reps.c4 (show Kd.M k49 _ _ _ (⟨a1_0, a1_1, a1_2, a1_3⟩ : S49) [.string a1_0, .int .i64 a1_1, .string a1_2, .bool a1_3] from (k49_mkM _ _ _ (⟨a1_0, a1_1, a1_2, a1_3⟩ : S49) )) (Reps.none _ _)))
            intro v167 w58 ho59 hb hg_ hnew_
            clear hg_ hnew_
            (first | rw [← Ny166.out] at ho59 | (simp only [Int.reduceToNat] at ho59; rw [← Ny166.out] at ho59))
            have n0_ := am (Kd.R_elder' (q_r (HO_0.out)) (Kd.R_base ho59) hb)
            have n1_ := am (Kd.R_elder' (q_r (HO165.out)) (Kd.R_base ho59) hb)
            have n2_ := am (Kd.R_lower (Kd.R_newB (Kd.R_new' (Kd.R_new' (Kd.R_newM (M := fun k_ => (P0_ k_ ∨ w.heap.size ≤ k_)) ho59 (by first | exact HK.out.1 | exact (show Kept w _ (fun k_ => P0_ k_) from by repeat (first | (with_reducible first | exact HK.out | apply Kept.alloc | apply Kept.drewN | apply Kept.drew | refine Kept.setCell ?_ (.inr GW128.out) _) | exact HK.out)).1) (fun k_ h_ => .inr h_)) (Kd.R_lt (q_r (HO_0.out)))) (Kd.R_lt (q_r (HO165.out)))) (q_b BK128.out)) (below_size bq))
            have n3_ := am (blk_below (q_b BK128.out) hb)
            have n4_ := am (Kd.C_below (by repeat (first | (with_reducible exact HR162.out) | (with_reducible refine Kd.C_alloc ?_ _) | (with_reducible refine Kd.C_drewN ?_ _) | (with_reducible refine Kd.C_drew ?_) | exact HR162.out)) hb)
            have n5_ := am (Kd.C_below (by repeat (first | (with_reducible exact HR175.out) | (with_reducible refine Kd.C_alloc ?_ _) | (with_reducible refine Kd.C_drewN ?_ _) | (with_reducible refine Kd.C_drew ?_) | exact HR175.out)) hb)
            have n6_ := am (Kept.below (S := (fun k_ => P0_ k_)) (by repeat (first | (with_reducible first | exact HK.out | apply Kept.alloc | apply Kept.drewN | apply Kept.drew | refine Kept.setCell ?_ (.inr GW128.out) _) | exact HK.out)) hb)
            have n7_ := am (below_step bq hb)
            clear HO_0
            clear HO165
            clear BK128
            clear HR162
            clear HR175
            clear HK
            clear HB
            have HO_0 := n0_
            have HO165 := n1_
            have HO168 := n2_
            have BK128 := n3_
            have HR162 := n4_
            have HR175 := n5_
            have HK := n6_
            have HB := n7_
            clear n0_ n1_ n2_ n3_ n4_ n5_ n6_ n7_
            clear hb ho59
            refine hK.out _ _ ⟨q_z BK128.out 0, q_z BK128.out 1, q_z BK128.out 2, q_z BK128.out 3⟩ (fun hHeld => ?_)
            clear hK K
            refine norm_ (a' := ?_) ?_ ?_
            rotate_left
            ·show Act.put _ (some 40) _ = _
             simp only [Act.put, List.setIfInBounds_toArray, List.set_cons_zero, List.set_cons_succ, i64_w, i32_w]
             rfl
            exact norm_ (by simp only [putAll, Act.put, List.setIfInBounds_toArray, List.set_cons_zero, List.set_cons_succ]) (hCont (v157, v164, v167) _ ⟨hHeld, (by (with_reducible repeat (first | apply Kd.R_alloc | apply Kd.R_drewN | apply Kd.R_drew)); exact Kd.R_mono HO165.out (fun _ hk => ⟨hk.1.1, ⟨hk.2, ⟨hk.1.2.1, hk.1.2.2⟩⟩⟩)), (by (with_reducible repeat (first | apply Kd.R_alloc | apply Kd.R_drewN | apply Kd.R_drew)); exact Kd.R_mono HO168.out (fun _ hk => ⟨hk.1.1.1.1, ⟨hk.1.2, ⟨hk.1.1.2, hk.2⟩⟩⟩)), (by (with_reducible repeat (first | apply Kd.R_alloc | apply Kd.R_drewN | apply Kd.R_drew)); exact Kd.R_mono HO_0.out (fun _ hk => ⟨hk.1.1.1, ⟨hk.1.2, ⟨hk.2, hk.1.1.2⟩⟩⟩)), kq, (by repeat (first | (with_reducible first | exact HK.out | apply Kept.alloc | apply Kept.drewN | apply Kept.drew | refine Kept.setCell ?_ (.inr GW128.out) _) | exact HK.out)), bq⟩)
           ·skip
            refine Kd.R_lit_step k49 _ 49 ?hg (N := 40) ?hd (xs := ([(⟨a1_0, a1_1, a1_2, a1_3⟩ : S49)] : List (S49))) (inner := [.string a1_0, .int .i64 a1_1, .string a1_2, .bool a1_3]) (ok := fun _ => True) (okp := fun _ => True) ?hr ?hp (fun _ hk => hk) trivial (Below.refl _ _) (Nat.le_refl _) (by simp) ?_; (case hd => rfl); (case hg => rfl); (case hr => first | (go_simp; done) | (go_simp; rfl)); (case hp => exact (Reps.c4 (show Kd.M k49 _ _ _ (⟨a1_0, a1_1, a1_2, a1_3⟩ : S49) [.string a1_0, .int .i64 a1_1, .string a1_2, .bool a1_3] from (k49_mkM _ _ _ (⟨a1_0, a1_1, a1_2, a1_3⟩ : S49) )) (Reps.none _ _)))
            intro v167 w57 ho58 hb hg_ hnew_
            clear hg_ hnew_
            (first | rw [← Ny166.out] at ho58 | (simp only [Int.reduceToNat] at ho58; rw [← Ny166.out] at ho58))
            have n0_ := am (Kd.R_elder' (q_r (HO_0.out)) (Kd.R_base ho58) hb)
            have n1_ := am (Kd.R_elder' (q_r (HO158.out)) (Kd.R_base ho58) hb)
            have n2_ := am (Kd.R_lower (Kd.R_newB (Kd.R_new' (Kd.R_new' (Kd.R_newM (M := fun k_ => (P0_ k_ ∨ w.heap.size ≤ k_)) ho58 (by first | exact HK.out.1 | exact (show Kept w _ (fun k_ => P0_ k_) from by repeat (first | (with_reducible first | exact HK.out | apply Kept.alloc | apply Kept.drewN | apply Kept.drew | refine Kept.setCell ?_ (.inr GW128.out) _) | exact HK.out)).1) (fun k_ h_ => .inr h_)) (Kd.R_lt (q_r (HO_0.out)))) (Kd.R_lt (q_r (HO158.out)))) (q_b BK128.out)) (below_size bq))
            have n3_ := am (blk_below (q_b BK128.out) hb)
            have n4_ := am (Kd.C_below (by repeat (first | (with_reducible exact HR162.out) | (with_reducible refine Kd.C_alloc ?_ _) | (with_reducible refine Kd.C_drewN ?_ _) | (with_reducible refine Kd.C_drew ?_) | exact HR162.out)) hb)
            have n5_ := am (Kd.C_below (by repeat (first | (with_reducible exact HR175.out) | (with_reducible refine Kd.C_alloc ?_ _) | (with_reducible refine Kd.C_drewN ?_ _) | (with_reducible refine Kd.C_drew ?_) | exact HR175.out)) hb)
            have n6_ := am (Kept.below (S := (fun k_ => P0_ k_)) (by repeat (first | (with_reducible first | exact HK.out | apply Kept.alloc | apply Kept.drewN | apply Kept.drew | refine Kept.setCell ?_ (.inr GW128.out) _) | exact HK.out)) hb)
            have n7_ := am (below_step bq hb)
            clear HO_0
            clear HO158
            clear BK128
            clear HR162
            clear HR175
            clear HK
            clear HB
            have HO_0 := n0_
            have HO158 := n1_
            have HO168 := n2_
            have BK128 := n3_
            have HR162 := n4_
            have HR175 := n5_
            have HK := n6_
            have HB := n7_
            clear n0_ n1_ n2_ n3_ n4_ n5_ n6_ n7_
            clear hb ho58
            refine hK.out _ _ ⟨q_z BK128.out 0, q_z BK128.out 1, q_z BK128.out 2, q_z BK128.out 3⟩ (fun hHeld => ?_)
            clear hK K
            refine norm_ (a' := ?_) ?_ ?_
            rotate_left
            ·show Act.put _ (some 40) _ = _
             simp only [Act.put, List.setIfInBounds_toArray, List.set_cons_zero, List.set_cons_succ, i64_w, i32_w]
             rfl
            refine one_ (i := 4) (N := some 38) #[true, true, true, true, true, true, true, false, true, true, true, false, false] rfl rfl (one_of HT_.out (by kernel_rfl)) (by decide) (fun K hK => ?_)
            refine Kd.R_append_rows_step k49 (w0 := w0) w0.heap.size (by rfl) (.tmp 34) (.tmp 37) 25 49 (.agg #[(.string ⟨#[]⟩), (.int .i64 0), (.string ⟨#[]⟩), (.bool false)]) 48 rfl Try.underlying25 info49 rfl (by decide) (by omega) v157 y156 y159 _ _ _ (fun k_ => (P0_ k_ ∨ w.heap.size ≤ k_) ∧ some k_ ≠ (.slice Ao50 l0.length co50 : Value).ownBlock ∧ some k_ ≠ (v167 : Value).ownBlock ∧ k_ ≠ gb128) (fun _ => False) rfl rfl ?aO ?aR (fun _ _ h => h) (fun _ h => h.elim) ?aF ?aB ?aS ?aL ?_
            (case aR => repeat (first | exact (by repeat (first | (with_reducible exact HR162.out) | (with_reducible refine Kd.C_alloc ?_ _) | (with_reducible refine Kd.C_drewN ?_ _) | (with_reducible refine Kd.C_drew ?_) | exact HR162.out)) | (with_reducible refine Kd.C_alloc ?_ _) | (with_reducible refine Kd.C_drewN ?_ _) | (with_reducible refine Kd.C_drew ?_)))
            (case aB => exact bq)
            (case aF => exact (fun k_ hk => ⟨(.inr (Nat.le_trans (by first | exact HK.out.1 | exact (show Kept w _ (fun k_ => P0_ k_) from by repeat (first | (with_reducible first | exact HK.out | apply Kept.alloc | apply Kept.drewN | apply Kept.drew | refine Kept.setCell ?_ (.inr GW128.out) _) | exact HK.out)).1) hk)), Kd.fresh' (Kd.R_lt (q_r (HO_0.out))) k_ hk, Kd.fresh' (Kd.R_lt (q_r (HO168.out))) k_ hk, Kd.freshB (q_b BK128.out) k_ hk⟩))
            (case aO => exact (by (with_reducible repeat (first | apply Kd.R_alloc | apply Kd.R_drewN | apply Kd.R_drew)); exact Kd.R_mono HO158.out (fun _ hk => ⟨hk.1.1.1.1, ⟨hk.1.1.2, ⟨hk.2, hk.1.2⟩⟩⟩)))
            (case aS => exact (below_size bq))
            (case aL => have := LMc44.out; omega)
            intro v164 w59 ho hb hg hat
            rw [← Ny163.out] at ho
            have n0_ := am (Kd.R_after (ok := (fun k_ => (P0_ k_ ∨ w.heap.size ≤ k_) ∧ some k_ ≠ (v167 : Value).ownBlock ∧ k_ ≠ gb128)) (by (with_reducible repeat (first | apply Kd.R_alloc | apply Kd.R_drewN | apply Kd.R_drew)); exact Kd.R_mono HO_0.out (fun _ hk => ⟨⟨hk.1.1.1, ⟨hk.2, hk.1.1.2⟩⟩, hk.1.2⟩)) hg hat)
            have n1_ := am (blk_grown (q_b BK128.out) hg (Kd.R_away HO158.out (fun _ hk => hk.1.2)))
            have n2_ := am (Kd.R_after (ok := (fun k_ => (P0_ k_ ∨ w.heap.size ≤ k_) ∧ some k_ ≠ (.slice Ao50 l0.length co50 : Value).ownBlock ∧ k_ ≠ gb128)) (by (with_reducible repeat (first | apply Kd.R_alloc | apply Kd.R_drewN | apply Kd.R_drew)); exact Kd.R_mono HO168.out (fun _ hk => ⟨⟨hk.1.1.1.1, ⟨hk.1.1.2, hk.2⟩⟩, hk.1.2⟩)) hg hat)
            have n3_ := am (hb)
            have n4_ := am (Kept.of_grown (S := (fun k_ => P0_ k_)) hg (by repeat (first | (with_reducible first | exact HK.out | apply Kept.alloc | apply Kept.drewN | apply Kept.drew | refine Kept.setCell ?_ (.inr GW128.out) _) | exact HK.out)) (fun k_ e_ => (HO158.out.1 k_ e_).1.1.1.1))
            have n5_ := am ((show Kd.C k49 w59 Ao50 y159.length y159 from by rw [Ny159.out]; exact Kd.C_take (m := (x5_1 : Int).toNat) ((Kd.R_reads' (Kd.R_after (ok := (fun k_ => (P0_ k_ ∨ w.heap.size ≤ k_) ∧ some k_ ≠ (v167 : Value).ownBlock ∧ k_ ≠ gb128)) (by (with_reducible repeat (first | apply Kd.R_alloc | apply Kd.R_drewN | apply Kd.R_drew)); exact Kd.R_mono HO_0.out (fun _ hk => ⟨⟨hk.1.1.1, ⟨hk.2, hk.1.1.2⟩⟩, hk.1.2⟩)) hg hat)).2.2) KL53.out))
            have n6_ := am ((show Kd.C k49 w59 A54 y172.length y172 from by rw [Ny172.out, KA54.out]; exact Kd.C_drop (m := (x5_1 : Int).toNat) (c := co50) ((Kd.R_reads' (Kd.R_after (ok := (fun k_ => (P0_ k_ ∨ w.heap.size ≤ k_) ∧ some k_ ≠ (v167 : Value).ownBlock ∧ k_ ≠ gb128)) (by (with_reducible repeat (first | apply Kd.R_alloc | apply Kd.R_drewN | apply Kd.R_drew)); exact Kd.R_mono HO_0.out (fun _ hk => ⟨⟨hk.1.1.1, ⟨hk.2, hk.1.1.2⟩⟩, hk.1.2⟩)) hg hat)).2.2) KL54.out ((Kd.R_reads' (Kd.R_after (ok := (fun k_ => (P0_ k_ ∨ w.heap.size ≤ k_) ∧ some k_ ≠ (v167 : Value).ownBlock ∧ k_ ≠ gb128)) (by (with_reducible repeat (first | apply Kd.R_alloc | apply Kd.R_drewN | apply Kd.R_drew)); exact Kd.R_mono HO_0.out (fun _ hk => ⟨⟨hk.1.1.1, ⟨hk.2, hk.1.1.2⟩⟩, hk.1.2⟩)) hg hat)).2.1)))
            have n7_ := am (ho)
            clear HO_0
            clear BK128
            clear HO168
            clear HB
            clear HK
            clear HR162
            clear HR175
            clear HO158
            have HO_0 := n0_
            have BK128 := n1_
            have HO168 := n2_
            have HB := n3_
            have HK := n4_
            have HR162 := n5_
            have HR175 := n6_
            have HO165 := n7_
            clear n0_ n1_ n2_ n3_ n4_ n5_ n6_ n7_
            clear ho hb hg hat
            refine hK.out _ _ ⟨q_z BK128.out 0, q_z BK128.out 1, q_z BK128.out 2, q_z BK128.out 3⟩ (fun hHeld => ?_)
            clear hK K
            refine norm_ (a' := ?_) ?_ ?_
            rotate_left
            ·show Act.put _ (some 38) _ = _
             simp only [Act.put, List.setIfInBounds_toArray, List.set_cons_zero, List.set_cons_succ, i64_w, i32_w]
             rfl
            exact norm_ (by simp only [putAll, Act.put, List.setIfInBounds_toArray, List.set_cons_zero, List.set_cons_succ]) (hCont (v157, v164, v167) _ ⟨hHeld, (by (with_reducible repeat (first | apply Kd.R_alloc | apply Kd.R_drewN | apply Kd.R_drew)); exact Kd.R_mono HO165.out (fun _ hk => ⟨hk.1, ⟨hk.2.2.1, ⟨hk.2.1, hk.2.2.2⟩⟩⟩)), (by (with_reducible repeat (first | apply Kd.R_alloc | apply Kd.R_drewN | apply Kd.R_drew)); exact Kd.R_mono HO168.out (fun _ hk => ⟨hk.1.1, ⟨hk.2, ⟨hk.1.2.1, hk.1.2.2⟩⟩⟩)), (by (with_reducible repeat (first | apply Kd.R_alloc | apply Kd.R_drewN | apply Kd.R_drew)); exact Kd.R_mono HO_0.out (fun _ hk => ⟨hk.1.1, ⟨hk.2, ⟨hk.1.2.1, hk.1.2.2⟩⟩⟩)), kq, (by repeat (first | (with_reducible first | exact HK.out | apply Kept.alloc | apply Kept.drewN | apply Kept.drew | refine Kept.setCell ?_ (.inr GW128.out) _) | exact HK.out)), bq⟩)
          ·skip
           refine Kd.R_lit_step k49 _ 49 ?hg (N := 40) ?hd (xs := ([(⟨a1_0, a1_1, a1_2, a1_3⟩ : S49)] : List (S49))) (inner := [.string a1_0, .int .i64 a1_1, .string a1_2, .bool a1_3]) (ok := fun _ => True) (okp := fun _ => True) ?hr ?hp (fun _ hk => hk) trivial (Below.refl _ _) (Nat.le_refl _) (by simp) ?_; (case hd => rfl); (case hg => rfl); (case hr => first | (go_simp; done) | (go_simp; rfl)); (case hp => exact (Reps.c4 (show Kd.M k49 _ _ _ (⟨a1_0, a1_1, a1_2, a1_3⟩ : S49) [.string a1_0, .int .i64 a1_1, .string a1_2, .bool a1_3] from (k49_mkM _ _ _ (⟨a1_0, a1_1, a1_2, a1_3⟩ : S49) )) (Reps.none _ _)))
           intro v167 w55 ho56 hb hg_ hnew_
           clear hg_ hnew_
           (first | rw [← Ny166.out] at ho56 | (simp only [Int.reduceToNat] at ho56; rw [← Ny166.out] at ho56))
           have n0_ := am (Kd.R_elder' (q_r (HO_0.out)) (Kd.R_base ho56) hb)
           have n1_ := am (Kd.R_lower (Kd.R_newB (Kd.R_new' (Kd.R_newM (M := fun k_ => (P0_ k_ ∨ w.heap.size ≤ k_)) ho56 (by first | exact HK.out.1 | exact (show Kept w _ (fun k_ => P0_ k_) from by repeat (first | (with_reducible first | exact HK.out | apply Kept.alloc | apply Kept.drewN | apply Kept.drew | refine Kept.setCell ?_ (.inr GW128.out) _) | exact HK.out)).1) (fun k_ h_ => .inr h_)) (Kd.R_lt (q_r (HO_0.out)))) (q_b BK128.out)) (below_size bq))
           have n2_ := am (blk_below (q_b BK128.out) hb)
           have n3_ := am (Kd.C_below (by repeat (first | (with_reducible exact HR162.out) | (with_reducible refine Kd.C_alloc ?_ _) | (with_reducible refine Kd.C_drewN ?_ _) | (with_reducible refine Kd.C_drew ?_) | exact HR162.out)) hb)
           have n4_ := am (Kd.C_below (by repeat (first | (with_reducible exact HR175.out) | (with_reducible refine Kd.C_alloc ?_ _) | (with_reducible refine Kd.C_drewN ?_ _) | (with_reducible refine Kd.C_drew ?_) | exact HR175.out)) hb)
           have n5_ := am (Kept.below (S := (fun k_ => P0_ k_)) (by repeat (first | (with_reducible first | exact HK.out | apply Kept.alloc | apply Kept.drewN | apply Kept.drew | refine Kept.setCell ?_ (.inr GW128.out) _) | exact HK.out)) hb)
           have n6_ := am (below_step bq hb)
           clear HO_0
           clear BK128
           clear HR162
           clear HR175
           clear HK
           clear HB
           have HO_0 := n0_
           have HO168 := n1_
           have BK128 := n2_
           have HR162 := n3_
           have HR175 := n4_
           have HK := n5_
           have HB := n6_
           clear n0_ n1_ n2_ n3_ n4_ n5_ n6_
           clear hb ho56
           refine hK.out _ _ ⟨q_z BK128.out 0, q_z BK128.out 1, q_z BK128.out 2, q_z BK128.out 3⟩ (fun hHeld => ?_)
           clear hK K
           refine norm_ (a' := ?_) ?_ ?_
           rotate_left
           ·show Act.put _ (some 40) _ = _
            simp only [Act.put, List.setIfInBounds_toArray, List.set_cons_zero, List.set_cons_succ, i64_w, i32_w]
            rfl
           refine one_ (i := 0) (N := some 34) #[true, true, true, true, false, true, true, false, true, true, true, false, false] rfl rfl (one_of HT_.out (by kernel_rfl)) (by decide) (fun K hK => ?_)
           refine Kd.R_lit_step k49 _ 49 ?hg (N := 34) ?hd (xs := ([] : List (S49))) (inner := []) (ok := fun _ => True) (okp := fun _ => True) ?hr ?hp (fun _ hk => hk) trivial (Below.refl _ _) (Nat.le_refl _) (by simp) ?_; (case hd => rfl); (case hg => rfl); (case hr => first | (go_simp; done) | (go_simp; rfl)); (case hp => exact (Reps.none _ _))
           intro v157 w57 ho58 hb hg_ hnew_
           clear hg_ hnew_
           (first | rw [← Ny156.out] at ho58 | (simp only [Int.reduceToNat] at ho58; rw [← Ny156.out] at ho58))
           have n0_ := am (Kd.R_elder' (q_r (HO_0.out)) (Kd.R_base ho58) hb)
           have n1_ := am (Kd.R_elder' (q_r (HO168.out)) (Kd.R_base ho58) hb)
           have n2_ := am (Kd.R_lower (Kd.R_newB (Kd.R_new' (Kd.R_new' (Kd.R_newM (M := fun k_ => (P0_ k_ ∨ w.heap.size ≤ k_)) ho58 (by first | exact HK.out.1 | exact (show Kept w _ (fun k_ => P0_ k_) from by repeat (first | (with_reducible first | exact HK.out | apply Kept.alloc | apply Kept.drewN | apply Kept.drew | refine Kept.setCell ?_ (.inr GW128.out) _) | exact HK.out)).1) (fun k_ h_ => .inr h_)) (Kd.R_lt (q_r (HO_0.out)))) (Kd.R_lt (q_r (HO168.out)))) (q_b BK128.out)) (below_size bq))
           have n3_ := am (blk_below (q_b BK128.out) hb)
           have n4_ := am (Kd.C_below (by repeat (first | (with_reducible exact HR162.out) | (with_reducible refine Kd.C_alloc ?_ _) | (with_reducible refine Kd.C_drewN ?_ _) | (with_reducible refine Kd.C_drew ?_) | exact HR162.out)) hb)
           have n5_ := am (Kd.C_below (by repeat (first | (with_reducible exact HR175.out) | (with_reducible refine Kd.C_alloc ?_ _) | (with_reducible refine Kd.C_drewN ?_ _) | (with_reducible refine Kd.C_drew ?_) | exact HR175.out)) hb)
           have n6_ := am (Kept.below (S := (fun k_ => P0_ k_)) (by repeat (first | (with_reducible first | exact HK.out | apply Kept.alloc | apply Kept.drewN | apply Kept.drew | refine Kept.setCell ?_ (.inr GW128.out) _) | exact HK.out)) hb)
           have n7_ := am (below_step bq hb)
           clear HO_0
           clear HO168
           clear BK128
           clear HR162
           clear HR175
           clear HK
           clear HB
           have HO_0 := n0_
           have HO168 := n1_
           have HO158 := n2_
           have BK128 := n3_
           have HR162 := n4_
           have HR175 := n5_
           have HK := n6_
           have HB := n7_
           clear n0_ n1_ n2_ n3_ n4_ n5_ n6_ n7_
           clear hb ho58
           refine hK.out _ _ ⟨q_z BK128.out 0, q_z BK128.out 1, q_z BK128.out 2, q_z BK128.out 3⟩ (fun hHeld => ?_)
           clear hK K
           refine norm_ (a' := ?_) ?_ ?_
           rotate_left
           ·show Act.put _ (some 34) _ = _
            simp only [Act.put, List.setIfInBounds_toArray, List.set_cons_zero, List.set_cons_succ, i64_w, i32_w]
            rfl
           refine one_ (i := 4) (N := some 38) #[true, true, true, true, true, true, true, false, true, true, true, false, false] rfl rfl (one_of HT_.out (by kernel_rfl)) (by decide) (fun K hK => ?_)
           refine Kd.R_append_rows_step k49 (w0 := w0) w0.heap.size (by rfl) (.tmp 34) (.tmp 37) 25 49 (.agg #[(.string ⟨#[]⟩), (.int .i64 0), (.string ⟨#[]⟩), (.bool false)]) 48 rfl Try.underlying25 info49 rfl (by decide) (by omega) v157 y156 y159 _ _ _ (fun k_ => (P0_ k_ ∨ w.heap.size ≤ k_) ∧ some k_ ≠ (.slice Ao50 l0.length co50 : Value).ownBlock ∧ some k_ ≠ (v167 : Value).ownBlock ∧ k_ ≠ gb128) (fun _ => False) rfl rfl ?aO ?aR (fun _ _ h => h) (fun _ h => h.elim) ?aF ?aB ?aS ?aL ?_
           (case aR => repeat (first | exact (by repeat (first | (with_reducible exact HR162.out) | (with_reducible refine Kd.C_alloc ?_ _) | (with_reducible refine Kd.C_drewN ?_ _) | (with_reducible refine Kd.C_drew ?_) | exact HR162.out)) | (with_reducible refine Kd.C_alloc ?_ _) | (with_reducible refine Kd.C_drewN ?_ _) | (with_reducible refine Kd.C_drew ?_)))
           (case aB => exact bq)
           (case aF => exact (fun k_ hk => ⟨(.inr (Nat.le_trans (by first | exact HK.out.1 | exact (show Kept w _ (fun k_ => P0_ k_) from by repeat (first | (with_reducible first | exact HK.out | apply Kept.alloc | apply Kept.drewN | apply Kept.drew | refine Kept.setCell ?_ (.inr GW128.out) _) | exact HK.out)).1) hk)), Kd.fresh' (Kd.R_lt (q_r (HO_0.out))) k_ hk, Kd.fresh' (Kd.R_lt (q_r (HO168.out))) k_ hk, Kd.freshB (q_b BK128.out) k_ hk⟩))
           (case aO => exact (by (with_reducible repeat (first | apply Kd.R_alloc | apply Kd.R_drewN | apply Kd.R_drew)); exact Kd.R_mono HO158.out (fun _ hk => ⟨hk.1.1.1.1, ⟨hk.1.1.2, ⟨hk.1.2, hk.2⟩⟩⟩)))
           (case aS => exact (below_size bq))
           (case aL => have := LMc44.out; omega)
           intro v164 w59 ho hb hg hat
           rw [← Ny163.out] at ho
           have n0_ := am (Kd.R_after (ok := (fun k_ => (P0_ k_ ∨ w.heap.size ≤ k_) ∧ some k_ ≠ (v167 : Value).ownBlock ∧ k_ ≠ gb128)) (by (with_reducible repeat (first | apply Kd.R_alloc | apply Kd.R_drewN | apply Kd.R_drew)); exact Kd.R_mono HO_0.out (fun _ hk => ⟨⟨hk.1.1.1, ⟨hk.1.2, hk.1.1.2⟩⟩, hk.2⟩)) hg hat)
           have n1_ := am (blk_grown (q_b BK128.out) hg (Kd.R_away HO158.out (fun _ hk => hk.2)))
           have n2_ := am (Kd.R_after (ok := (fun k_ => (P0_ k_ ∨ w.heap.size ≤ k_) ∧ some k_ ≠ (.slice Ao50 l0.length co50 : Value).ownBlock ∧ k_ ≠ gb128)) (by (with_reducible repeat (first | apply Kd.R_alloc | apply Kd.R_drewN | apply Kd.R_drew)); exact Kd.R_mono HO168.out (fun _ hk => ⟨⟨hk.1.1.1.1, ⟨hk.1.1.2, hk.1.2⟩⟩, hk.2⟩)) hg hat)
           have n3_ := am (hb)
           have n4_ := am (Kept.of_grown (S := (fun k_ => P0_ k_)) hg (by repeat (first | (with_reducible first | exact HK.out | apply Kept.alloc | apply Kept.drewN | apply Kept.drew | refine Kept.setCell ?_ (.inr GW128.out) _) | exact HK.out)) (fun k_ e_ => (HO158.out.1 k_ e_).1.1.1.1))
           have n5_ := am ((show Kd.C k49 w59 Ao50 y159.length y159 from by rw [Ny159.out]; exact Kd.C_take (m := (x5_1 : Int).toNat) ((Kd.R_reads' (Kd.R_after (ok := (fun k_ => (P0_ k_ ∨ w.heap.size ≤ k_) ∧ some k_ ≠ (v167 : Value).ownBlock ∧ k_ ≠ gb128)) (by (with_reducible repeat (first | apply Kd.R_alloc | apply Kd.R_drewN | apply Kd.R_drew)); exact Kd.R_mono HO_0.out (fun _ hk => ⟨⟨hk.1.1.1, ⟨hk.1.2, hk.1.1.2⟩⟩, hk.2⟩)) hg hat)).2.2) KL53.out))
           have n6_ := am ((show Kd.C k49 w59 A54 y172.length y172 from by rw [Ny172.out, KA54.out]; exact Kd.C_drop (m := (x5_1 : Int).toNat) (c := co50) ((Kd.R_reads' (Kd.R_after (ok := (fun k_ => (P0_ k_ ∨ w.heap.size ≤ k_) ∧ some k_ ≠ (v167 : Value).ownBlock ∧ k_ ≠ gb128)) (by (with_reducible repeat (first | apply Kd.R_alloc | apply Kd.R_drewN | apply Kd.R_drew)); exact Kd.R_mono HO_0.out (fun _ hk => ⟨⟨hk.1.1.1, ⟨hk.1.2, hk.1.1.2⟩⟩, hk.2⟩)) hg hat)).2.2) KL54.out ((Kd.R_reads' (Kd.R_after (ok := (fun k_ => (P0_ k_ ∨ w.heap.size ≤ k_) ∧ some k_ ≠ (v167 : Value).ownBlock ∧ k_ ≠ gb128)) (by (with_reducible repeat (first | apply Kd.R_alloc | apply Kd.R_drewN | apply Kd.R_drew)); exact Kd.R_mono HO_0.out (fun _ hk => ⟨⟨hk.1.1.1, ⟨hk.1.2, hk.1.1.2⟩⟩, hk.2⟩)) hg hat)).2.1)))
           have n7_ := am (ho)
           clear HO_0
           clear BK128
           clear HO168
           clear HB
           clear HK
           clear HR162
           clear HR175
           clear HO158
           have HO_0 := n0_
           have BK128 := n1_
           have HO168 := n2_
           have HB := n3_
           have HK := n4_
           have HR162 := n5_
           have HR175 := n6_
           have HO165 := n7_
           clear n0_ n1_ n2_ n3_ n4_ n5_ n6_ n7_
           clear ho hb hg hat
           refine hK.out _ _ ⟨q_z BK128.out 0, q_z BK128.out 1, q_z BK128.out 2, q_z BK128.out 3⟩ (fun hHeld => ?_)
           clear hK K
           refine norm_ (a' := ?_) ?_ ?_
           rotate_left
           ·show Act.put _ (some 38) _ = _
            simp only [Act.put, List.setIfInBounds_toArray, List.set_cons_zero, List.set_cons_succ, i64_w, i32_w]
            rfl
           exact norm_ (by simp only [putAll, Act.put, List.setIfInBounds_toArray, List.set_cons_zero, List.set_cons_succ]) (hCont (v157, v164, v167) _ ⟨hHeld, (by (with_reducible repeat (first | apply Kd.R_alloc | apply Kd.R_drewN | apply Kd.R_drew)); exact Kd.R_mono HO165.out (fun _ hk => ⟨hk.1, ⟨hk.2.2.1, ⟨hk.2.1, hk.2.2.2⟩⟩⟩)), (by (with_reducible repeat (first | apply Kd.R_alloc | apply Kd.R_drewN | apply Kd.R_drew)); exact Kd.R_mono HO168.out (fun _ hk => ⟨hk.1.1, ⟨hk.2, ⟨hk.1.2.1, hk.1.2.2⟩⟩⟩)), (by (with_reducible repeat (first | apply Kd.R_alloc | apply Kd.R_drewN | apply Kd.R_drew)); exact Kd.R_mono HO_0.out (fun _ hk => ⟨hk.1.1, ⟨hk.2, ⟨hk.1.2.1, hk.1.2.2⟩⟩⟩)), kq, (by repeat (first | (with_reducible first | exact HK.out | apply Kept.alloc | apply Kept.drewN | apply Kept.drew | refine Kept.setCell ?_ (.inr GW128.out) _) | exact HK.out)), bq⟩)
         rintro ⟨v157, v164, v167⟩ w60 ⟨hS_, h0_, h1_, h2_, h3_, h4_, h5_⟩
         have n0_ : Aside0 (Kd.R k49 49 w60 w0.heap.size (fun k_ => (P0_ k_ ∨ w.heap.size ≤ k_) ∧ some k_ ≠ (v167 : Value).ownBlock ∧ some k_ ≠ (.slice Ao50 l0.length co50 : Value).ownBlock ∧ k_ ≠ gb128) v164 y163) := ⟨h0_⟩
         have n1_ : Aside0 (Kd.R k49 49 w60 w0.heap.size (fun k_ => (P0_ k_ ∨ w.heap.size ≤ k_) ∧ some k_ ≠ (v164 : Value).ownBlock ∧ some k_ ≠ (.slice Ao50 l0.length co50 : Value).ownBlock ∧ k_ ≠ gb128) v167 y166) := ⟨h1_⟩
         have n2_ : Aside0 (Kd.R k49 49 w60 w0.heap.size (fun k_ => (P0_ k_ ∨ w.heap.size ≤ k_) ∧ some k_ ≠ (v164 : Value).ownBlock ∧ some k_ ≠ (v167 : Value).ownBlock ∧ k_ ≠ gb128) (.slice Ao50 l0.length co50) l0) := ⟨h2_⟩
         have n3_ : Aside0 (w60.heap[gb128]? = some (.cells #[.string a1_0, .int .i64 a1_1, .string a1_2, .bool a1_3] 49 (0, 0))) := ⟨h3_⟩
         have n4_ : Aside0 (Kept w w60 (fun k_ => P0_ k_)) := ⟨h4_⟩
         have n5_ : Aside0 (Below w0.heap.size w0 w60) := ⟨h5_⟩
         clear HO_0
         clear BK128
         clear HK
         clear HB
         clear h0_ h1_ h2_ h3_ h4_ h5_
         have HO165 := n0_
         have HO168 := n1_
         have HO_0 := n2_
         have BK128 := n3_
         have HK := n4_
         have HB := n5_
         clear n0_ n1_ n2_ n3_ n4_ n5_
         have hHeld : w60.cell? ⟨gb128, 0, none⟩ = some (.string a1_0) ∧ w60.cell? ⟨gb128, 1, none⟩ = some (.int .i64 a1_1) ∧ w60.cell? ⟨gb128, 2, none⟩ = some (.string a1_2) ∧ w60.cell? ⟨gb128, 3, none⟩ = some (.bool a1_3) := hS_
         obtain ⟨Ao62, co62, eo62⟩ := Kd.R_slice HO168.out
         (first | subst eo62 | (injection eo62 with f1_ f2_ f3_; have f4_ := f1_.symm; have f5_ := f3_.symm; clear f1_ f2_ f3_; subst f4_; subst f5_))
         refine norm_ (a' := ?_) ?_ ?_
         rotate_left
         ·simp only [putAll, Act.put, List.setIfInBounds_toArray, List.set_cons_zero, List.set_cons_succ]
          rfl
         refine one_ (i := 7) (N := some 41) #[true, true, true, true, true, true, true, true, true, true, true, false, false] rfl rfl (one_of HT_.out (by kernel_rfl)) (by decide) (fun K hK => ?_)
         refine Kd.R_append_rows_step k49 (w0 := w0) w0.heap.size (by rfl) (.tmp 38) (.tmp 40) 25 49 (.agg #[(.string ⟨#[]⟩), (.int .i64 0), (.string ⟨#[]⟩), (.bool false)]) 48 rfl Try.underlying25 info49 rfl (by decide) (by omega) v164 y163 y166 _ _ _ (fun k_ => (P0_ k_ ∨ w.heap.size ≤ k_) ∧ some k_ ≠ (.slice Ao50 l0.length co50 : Value).ownBlock ∧ some k_ ≠ (.slice Ao62 y166.length co62 : Value).ownBlock ∧ k_ ≠ gb128) (fun _ => False) rfl rfl ?aO ?aR (fun _ _ h => h) (fun _ h => h.elim) ?aF ?aB ?aS ?aL ?_
         (case aR => repeat (first | exact (Kd.R_reads' HO168.out).2.2 | (with_reducible refine Kd.C_alloc ?_ _) | (with_reducible refine Kd.C_drewN ?_ _) | (with_reducible refine Kd.C_drew ?_)))
         (case aB => exact bq)
         (case aF => exact (fun k_ hk => ⟨(.inr (Nat.le_trans (by first | exact HK.out.1 | exact (show Kept w _ (fun k_ => P0_ k_) from by repeat (first | (with_reducible first | exact HK.out | apply Kept.alloc | apply Kept.drewN | apply Kept.drew | refine Kept.setCell ?_ (.inr GW128.out) _) | exact HK.out)).1) hk)), Kd.fresh' (Kd.R_lt (q_r (HO_0.out))) k_ hk, Kd.fresh' (Kd.R_lt (q_r (HO168.out))) k_ hk, Kd.freshB (q_b BK128.out) k_ hk⟩))
         (case aO => exact (by (with_reducible repeat (first | apply Kd.R_alloc | apply Kd.R_drewN | apply Kd.R_drew)); exact Kd.R_mono HO165.out (fun _ hk => ⟨hk.1, ⟨hk.2.2.1, ⟨hk.2.1, hk.2.2.2⟩⟩⟩)))
         (case aS => exact (below_size bq))
         (case aL => have := LMc45.out; omega)
         intro v170 w61 ho hb hg hat
         rw [← Ny169.out] at ho
         have n0_ := am (Kd.R_after (ok := (fun k_ => (P0_ k_ ∨ w.heap.size ≤ k_) ∧ some k_ ≠ (.slice Ao62 y166.length co62 : Value).ownBlock ∧ k_ ≠ gb128)) (by (with_reducible repeat (first | apply Kd.R_alloc | apply Kd.R_drewN | apply Kd.R_drew)); exact Kd.R_mono HO_0.out (fun _ hk => ⟨⟨hk.1, ⟨hk.2.2.1, hk.2.2.2⟩⟩, hk.2.1⟩)) hg hat)
         have n1_ := am (blk_grown (q_b BK128.out) hg (Kd.R_away HO165.out (fun _ hk => hk.2.2.2)))
         have n2_ := am (Kd.R_after (ok := (fun k_ => (P0_ k_ ∨ w.heap.size ≤ k_) ∧ some k_ ≠ (.slice Ao50 l0.length co50 : Value).ownBlock ∧ k_ ≠ gb128)) (by (with_reducible repeat (first | apply Kd.R_alloc | apply Kd.R_drewN | apply Kd.R_drew)); exact Kd.R_mono HO168.out (fun _ hk => ⟨⟨hk.1, ⟨hk.2.2.1, hk.2.2.2⟩⟩, hk.2.1⟩)) hg hat)
         have n3_ := am (hb)
         have n4_ := am (Kept.of_grown (S := (fun k_ => P0_ k_)) hg (by repeat (first | (with_reducible first | exact HK.out | apply Kept.alloc | apply Kept.drewN | apply Kept.drew | refine Kept.setCell ?_ (.inr GW128.out) _) | exact HK.out)) (fun k_ e_ => (HO165.out.1 k_ e_).1))
         have n5_ := am (ho)
         clear HO_0
         clear BK128
         clear HO168
         clear HB
         clear HK
         clear HO165
         have HO_0 := n0_
         have BK128 := n1_
         have HO168 := n2_
         have HB := n3_
         have HK := n4_
         have HO171 := n5_
         clear n0_ n1_ n2_ n3_ n4_ n5_
         clear ho hb hg hat
         refine hK.out _ _ ⟨q_z BK128.out 0, q_z BK128.out 1, q_z BK128.out 2, q_z BK128.out 3⟩ (fun hHeld => ?_)
         clear hK K
         refine norm_ (a' := ?_) ?_ ?_
         rotate_left
         ·show Act.put _ (some 41) _ = _
          simp only [Act.put, List.setIfInBounds_toArray, List.set_cons_zero, List.set_cons_succ, i64_w, i32_w]
          rfl
         refine one_ (i := 11) (N := some 45) #[true, true, true, true, true, true, true, true, true, true, true, true, false] rfl rfl (one_of HT_.out (by kernel_rfl)) (by decide) (fun K hK => ?_)
         refine Kd.R_append_rows_step k49 (w0 := w0) w0.heap.size (by rfl) (.tmp 41) (.tmp 44) 25 49 (.agg #[(.string ⟨#[]⟩), (.int .i64 0), (.string ⟨#[]⟩), (.bool false)]) 48 rfl Try.underlying25 info49 rfl (by decide) (by omega) v170 y169 y172 _ _ _ (fun k_ => (P0_ k_ ∨ w.heap.size ≤ k_) ∧ some k_ ≠ (.slice Ao50 l0.length co50 : Value).ownBlock ∧ some k_ ≠ (.slice Ao62 y166.length co62 : Value).ownBlock ∧ k_ ≠ gb128) (fun _ => False) rfl rfl ?aO ?aR (fun _ _ h => h) (fun _ h => h.elim) ?aF ?aB ?aS ?aL ?_
         (case aR => repeat (first | exact (by have hr_ := Kd.C_drop (m := (x5_1 : Int).toNat) (c := co50) (Kd.R_reads' HO_0.out).2.2 KL54.out (Kd.R_reads' HO_0.out).2.1; rw [show (l0).drop (x5_1 : Int).toNat = y172 from Ny172.out.symm] at hr_; rw [KA54.out]; exact hr_) | (with_reducible refine Kd.C_alloc ?_ _) | (with_reducible refine Kd.C_drewN ?_ _) | (with_reducible refine Kd.C_drew ?_)))
         (case aB => exact bq)
         (case aF => exact (fun k_ hk => ⟨(.inr (Nat.le_trans (by first | exact HK.out.1 | exact (show Kept w _ (fun k_ => P0_ k_) from by repeat (first | (with_reducible first | exact HK.out | apply Kept.alloc | apply Kept.drewN | apply Kept.drew | refine Kept.setCell ?_ (.inr GW128.out) _) | exact HK.out)).1) hk)), Kd.fresh' (Kd.R_lt (q_r (HO_0.out))) k_ hk, Kd.fresh' (Kd.R_lt (q_r (HO168.out))) k_ hk, Kd.freshB (q_b BK128.out) k_ hk⟩))
         (case aO => exact (q_r (HO171.out)))
         (case aS => exact (below_size bq))
         (case aL => have := LMc48.out; omega)
         intro v177 w63 ho hb hg hat
         rw [← Ny176.out] at ho
         have n0_ := am (Kd.R_after (ok := (fun k_ => (P0_ k_ ∨ w.heap.size ≤ k_) ∧ some k_ ≠ (.slice Ao62 y166.length co62 : Value).ownBlock ∧ k_ ≠ gb128)) (q_r (HO_0.out)) hg hat)
         have n1_ := am (blk_grown (q_b BK128.out) hg (Kd.R_away HO171.out (fun _ hk => hk.2.2.2)))
         have n2_ := am (Kd.R_after (ok := (fun k_ => (P0_ k_ ∨ w.heap.size ≤ k_) ∧ some k_ ≠ (.slice Ao50 l0.length co50 : Value).ownBlock ∧ k_ ≠ gb128)) (q_r (HO168.out)) hg hat)
         have n3_ := am (hb)
         have n4_ := am (Kept.of_grown (S := (fun k_ => P0_ k_)) hg (by repeat (first | (with_reducible first | exact HK.out | apply Kept.alloc | apply Kept.drewN | apply Kept.drew | refine Kept.setCell ?_ (.inr GW128.out) _) | exact HK.out)) (fun k_ e_ => (HO171.out.1 k_ e_).1))
         have n5_ := am (ho)
         clear HO_0
         clear BK128
         clear HO168
         clear HB
         clear HK
         clear HO171
         have HO_0 := n0_
         have BK128 := n1_
         have HO168 := n2_
         have HB := n3_
         have HK := n4_
         have HO178 := n5_
         clear n0_ n1_ n2_ n3_ n4_ n5_
         clear ho hb hg hat
         refine hK.out _ _ ⟨q_z BK128.out 0, q_z BK128.out 1, q_z BK128.out 2, q_z BK128.out 3⟩ (fun hHeld => ?_)
         clear hK K
         refine norm_ (a' := ?_) ?_ ?_
         rotate_left
         ·show Act.put _ (some 45) _ = _
          simp only [Act.put, List.setIfInBounds_toArray, List.set_cons_zero, List.set_cons_succ, i64_w, i32_w]
          rfl
         refine q_p 12 (some 4) #[true, true, true, true, true, true, true, true, true, true, true, true, true] HT_.out ?_
         refine done_ (done_of HT_.out (by kernel_rfl)) ?_
         try go_wp2
         go_ret
         exact ⟨_, q_e, q_r (Kd.R_mono HO178.out (fun _ hk => hk.1)), bq, by repeat (first | (with_reducible first | exact HK.out | apply Kept.alloc | apply Kept.drewN | apply Kept.drew | refine Kept.setCell ?_ (.inr GW128.out) _) | exact HK.out)⟩
        ·rw [if_neg c48] at H
         exact absurd H (by simp)
       ·rw [if_neg c45] at H
        exact absurd H (by simp)
      ·rw [if_neg c44] at H
       exact absurd H (by simp)
     ·rw [if_neg c43] at H
      exact absurd H (by simp)
    ·rw [if_neg c42] at H
     exact absurd H (by simp)

end Go.Proofs.Ytdhlcnlcpjlliaa.PFnTables
