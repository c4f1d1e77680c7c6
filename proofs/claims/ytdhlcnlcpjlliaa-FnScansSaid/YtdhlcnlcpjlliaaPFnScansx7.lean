/- The functions that a law reaches, each as a plain Lean function with the proof that the machine comes to its answer: written by program (the kit's print, turned by wip/gen). No conditions. -/
import Derived.Test.YtdhlcnlcpjlliaaPFnScansx0
import Derived.Test.YtdhlcnlcpjlliaaPFnScansx3
namespace Go.Proofs.Ytdhlcnlcpjlliaa.PFnScans
open Go.RowKit Go.Proofs.YtdhlcnlcpjlliaaW.PrintWords Go.Proofs.YtdhlcnlcpjlliaaW.PrintLast Go.Proofs.YtdhlcnlcpjlliaaW.PrintMore
attribute [local go_sem] max2_int min2_int max_two min_two max_three min_three max_four min_four   -- for this text's walks alone
set_option linter.unusedVariables false
set_option linter.unusedSimpArgs false

/-! ### spec_l5Put: function 115 -/
def spec_l5Put.l0 : Nat → List (S49) → Int → ByteArray → Int → ByteArray → Bool → Option ((List (S49)))
  | 0, _, _, _, _, _, _ => none
  | k + 1, x0, x5, x200000, x200001, x200002, x200003 => if x5 < (x0.length : Int) then (if 0 ≤ x5 then ((spec_l5Ahead.f ((rd_T49 x0 x5).f0) ((rd_T49 x0 x5).f1) ((rd_T49 x0 x5).f2) ((rd_T49 x0 x5).f3) x200000 x200001 x200002 x200003).bind fun t201 => (if t201 = true then (spec_l5Put.l0 k x0 (wrap64 (x5 + 1)) x200000 x200001 x200002 x200003) else ((spec_l5Ahead.f x200000 x200001 x200002 x200003 ((rd_T49 x0 x5).f0) ((rd_T49 x0 x5).f1) ((rd_T49 x0 x5).f2) ((rd_T49 x0 x5).f3)).bind fun t203 => (if t203 = true then ((some (([] : List (S49)) : List (S49))).bind fun y204 => (if x5 ≤ (x0.length : Int) then ((some (x0.take (x5 : Int).toNat : List (S49))).bind fun y207 => (if y204.length + y207.length < 2932031007402 then ((some (y204 ++ y207 : List (S49))).bind fun y211 => ((some (([(⟨x200000, x200001, x200002, x200003⟩ : S49)] : List (S49)) : List (S49))).bind fun y214 => (if y211.length + y214.length < 2932031007402 then ((some (y211 ++ y214 : List (S49))).bind fun y217 => ((some (x0.drop (x5 : Int).toNat : List (S49))).bind fun y220 => (if y217.length + y220.length < 2932031007402 then (some (y217 ++ y220)) else (none)))) else (none)))) else (none))) else (none))) else (some x0))))) else (none)) else ((some (([] : List (S49)) : List (S49))).bind fun y227 => (if 0 ≤ x5 then (if x5 ≤ (x0.length : Int) then ((some (x0.take (x5 : Int).toNat : List (S49))).bind fun y230 => (if y227.length + y230.length < 2932031007402 then ((some (y227 ++ y230 : List (S49))).bind fun y234 => ((some (([(⟨x200000, x200001, x200002, x200003⟩ : S49)] : List (S49)) : List (S49))).bind fun y237 => (if y234.length + y237.length < 2932031007402 then ((some (y234 ++ y237 : List (S49))).bind fun y240 => ((some (x0.drop (x5 : Int).toNat : List (S49))).bind fun y243 => (if y240.length + y243.length < 2932031007402 then (some (y240 ++ y243)) else (none)))) else (none)))) else (none))) else (none)) else (none)))
def spec_l5Put.f (k : Nat) (l0 : List (S49)) (a1_0 : ByteArray) (a1_1 : Int) (a1_2 : ByteArray) (a1_3 : Bool) : Option ((List (S49))) := spec_l5Put.l0 k l0 0 a1_0 a1_1 a1_2 a1_3
def spec_l5Put.T2 : Bool × List (List Nat × List Nat) := (true, [([], []), ([], []), ([1], [1]), ([0, 2], [0, 2]), ([3], [3]), ([4], [4]), ([4], [4]), ([5, 6, 4], [4, 5, 6]), ([7, 4], [4, 7]), ([4], [4]), ([8, 9, 4, 4], [4, 8, 9]), ([4, 10], [4, 10])])
def spec_l5Put.B2 : List Nat := [0, 0, 2, 7, 15, 31, 31, 127, 255, 31, 1023, 2047]
theorem spec_l5Put.tab2 : rtab .any (opsOf Try.f115 2) = spec_l5Put.T2 := by kernel_rfl
theorem spec_l5Put.bits2 : waitsOk spec_l5Put.T2.2 spec_l5Put.B2 = true := by kernel_rfl
def spec_l5Put.T4 : Bool × List (List Nat × List Nat) := (true, [([], []), ([], []), ([1], [1]), ([0, 2], [0, 2]), ([3], [3]), ([4], [4]), ([4], [4]), ([4], [4]), ([6, 7, 4], [4, 6, 7]), ([8, 4], [4, 8]), ([5, 9, 4, 4], [4, 5, 9]), ([10, 4], [4, 10]), ([4, 11], [4, 11])])
def spec_l5Put.B4 : List Nat := [0, 0, 2, 7, 15, 31, 31, 31, 223, 479, 1023, 2047, 4095]
theorem spec_l5Put.tab4 : rtab .any (opsOf Try.f115 4) = spec_l5Put.T4 := by kernel_rfl
theorem spec_l5Put.bits4 : waitsOk spec_l5Put.T4.2 spec_l5Put.B4 = true := by kernel_rfl
def spec_l5Put.T6 : Bool × List (List Nat × List Nat) := (true, [([], []), ([], []), ([], []), ([1, 2], [1, 2]), ([0, 3], [0, 3]), ([], []), ([5], [5]), ([4, 6, 4], [4, 6]), ([], []), ([], []), ([8, 9], [8, 9]), ([7, 10, 7], [7, 10]), ([11, 11, 0, 1, 2, 3, 4, 5, 6, 7, 8, 9, 10, 11], [11])])
def spec_l5Put.B6 : List Nat := [0, 0, 0, 6, 15, 0, 32, 127, 0, 0, 768, 2047, 4095]
theorem spec_l5Put.tab6 : rtab .any (opsOf Try.f115 6) = spec_l5Put.T6 := by kernel_rfl
theorem spec_l5Put.bits6 : waitsOk spec_l5Put.T6.2 spec_l5Put.B6 = true := by kernel_rfl
set_option maxHeartbeats 8000000 in
set_option maxRecDepth 100000 in
theorem spec_l5Put.calls (k : Nat) (P0_ : Nat → Prop) (u9000_ : Value) (l0 : List (S49)) (a1_0 : ByteArray) (a1_1 : Int) (a1_2 : ByteArray) (a1_3 : Bool) (r : List (S49)) (w0 w : World) (hB : Below w0.heap.size w0 w) (ho0 : Kd.R k49 49 w w0.heap.size P0_ u9000_ l0) (h : spec_l5Put.f k l0 a1_0 a1_1 a1_2 a1_3 = some r) :
  Calls Try.prog 115 #[u9000_, .agg #[.string a1_0, .int .i64 a1_1, .string a1_2, .bool a1_3]] w fun e w' => ∃ v0_ : Value, e = .returned (v0_) ∧ Kd.R k49 49 w' w0.heap.size (fun k_ => (P0_ k_ ∨ w.heap.size ≤ k_)) v0_ r ∧ Below w0.heap.size w0 w' ∧ Kept w w' (fun k_ => P0_ k_) := by
 have hu49 := Try.underlying49
 have HO0 := Aside0.mk (show Kd.R k49 49 w w0.heap.size (fun k_ => (P0_ k_ ∨ w.heap.size ≤ k_)) u9000_ l0 from Kd.R_mono ho0 (fun k_ hk => (.inl hk)))
 have HK := Aside0.mk (Kept.refl w (fun k_ => P0_ k_))
 have HW0 := Aside0.mk hB.size
 have HB := Aside0.mk hB
 clear hB
 have H : (spec_l5Put.l0 k l0 0 a1_0 a1_1 a1_2 a1_3) = some r := h
 clear h
 have H' := Aside0.mk H
 clear H
 go_enter Try.func115, Try.ntmps115
 go_wp2_with (first | ((with_reducible refine gate_dst (N := 3) rfl ?_); refine q_box (N := 3) (cs := #[.string a1_0, .int .i64 a1_1, .string a1_2, .bool a1_3]) (t := 49) ?_; intro gb199 hg w3 hbox hb; have n0_ := Aside0.mk (Kd.R_below (Kd.R_elderB (q_r (HO0.out)) gb199 (Nat.le_of_eq hg.symm)) hb); have n1_ := Aside0.mk (Kept.below (S := (fun k_ => P0_ k_)) q_k hb); have n2_ := Aside0.mk (below_step bq hb); have n3_ := Aside0.mk (hbox); have n4_ := Aside0.mk ((by rw [hg]; exact (by first | exact HK.out.1 | exact (show Kept w _ (fun k_ => P0_ k_) from q_k).1) : w.heap.size ≤ gb199)); have n5_ := Aside0.mk ((q_g hg bq : w0.heap.size ≤ gb199)); revert n0_ n1_ n2_ n3_ n4_ n5_; clear HO0 HK HB; intro HO0 HK HB BK199 GW199 GE199; clear hb hbox hg))
 go_loopg [5] k (fun kq v5 w' => ∃ (x5_1 : Int), v5 = .int .i64 x5_1 ∧ Aside0 (spec_l5Put.l0 kq l0 x5_1 a1_0 a1_1 a1_2 a1_3 = some r) ∧ Aside0 (kq ≤ k) ∧ Aside0 (Kd.R k49 49 w' w0.heap.size (fun k_ => (P0_ k_ ∨ w.heap.size ≤ k_) ∧ k_ ≠ gb199) u9000_ l0) ∧ Aside0 (w'.heap[gb199]? = some (.cells #[.string a1_0, .int .i64 a1_1, .string a1_2, .bool a1_3] 49 (0, 0))) ∧ Aside0 (Kept w w' (fun k_ => P0_ k_)) ∧ Aside0 (Below w0.heap.size w0 w'))
 case atStart => exact ⟨(0), q_i, H', ⟨Nat.le_refl _⟩, ⟨q_r (HO0.out)⟩, ⟨q_b BK199.out⟩, ⟨by repeat (first | (with_reducible first | exact HK.out | apply Kept.alloc | apply Kept.drewN | apply Kept.drew | refine Kept.setCell ?_ (.inr GW199.out) _) | exact HK.out)⟩, ⟨bq⟩⟩
 case round =>
  clear H'
  (try clear c1); (try clear p2)
  obtain ⟨x5_1, rfl, HA, HK1, HO_0, BK199, HK, HB⟩ := hrel
  cases gk with
  | zero => exact absurd HA.out (by simp [spec_l5Put.l0])
  | succ k1 =>
   have H := HA.out
   clear HA
   simp only [spec_l5Put.l0] at H
   by_cases c4 : x5_1 < (l0.length : Int)
   ·rw [if_pos c4] at H
    have c4b0 := decide_eq_true c4
    clear c4
    by_cases c5 : 0 ≤ x5_1
    ·rw [if_pos c5] at H
     have c5b0 := decide_eq_true c5
     clear c5
     replace H := Option.bind_eq_some_iff.mp H
     obtain ⟨t201, A60, H⟩ := H
     replace H : (if t201 = true then (spec_l5Put.l0 k1 l0 (wrap64 (x5_1 + 1)) a1_0 a1_1 a1_2 a1_3) else ((spec_l5Ahead.f a1_0 a1_1 a1_2 a1_3 ((rd_T49 l0 x5_1).f0) ((rd_T49 l0 x5_1).f1) ((rd_T49 l0 x5_1).f2) ((rd_T49 l0 x5_1).f3)).bind fun t203 => (if t203 = true then ((some (([] : List (S49)) : List (S49))).bind fun y204 => (if x5_1 ≤ (l0.length : Int) then ((some (l0.take (x5_1 : Int).toNat : List (S49))).bind fun y207 => (if y204.length + y207.length < 2932031007402 then ((some (y204 ++ y207 : List (S49))).bind fun y211 => ((some (([(⟨a1_0, a1_1, a1_2, a1_3⟩ : S49)] : List (S49)) : List (S49))).bind fun y214 => (if y211.length + y214.length < 2932031007402 then ((some (y211 ++ y214 : List (S49))).bind fun y217 => ((some (l0.drop (x5_1 : Int).toNat : List (S49))).bind fun y220 => (if y217.length + y220.length < 2932031007402 then (some (y217 ++ y220)) else (none)))) else (none)))) else (none))) else (none))) else (some l0)))) = some r := H
     have A6 := Aside0.mk A60
     clear A60
     by_cases c7 : t201 = true
     ·subst c7
      have H1 : (spec_l5Put.l0 k1 l0 (wrap64 (x5_1 + 1)) a1_0 a1_1 a1_2 a1_3) = some r := by rw [if_pos rfl] at H; exact H
      clear H
      have H := H1
      clear H1
      have H' := Aside0.mk H
      clear H
      try go_wp2
      have n0_ := Aside0.mk (Kd.R_drew HO_0.out)
      have n1_ := Aside0.mk (blk_drew BK199.out)
      have n2_ := Aside0.mk (Kept.drew HK.out)
      have n3_ := Aside0.mk (below_drew1 HB.out)
      clear HO_0
      clear BK199
      clear HK
      clear HB
      have HO_0 := n0_
      have BK199 := n1_
      have HK := n2_
      have HB := n3_
      clear n0_ n1_ n2_ n3_
      obtain ⟨Ao9, co9, eo9⟩ := Kd.R_slice HO_0.out
      (first | subst eo9 | (injection eo9 with f1_ f2_ f3_; have f4_ := f1_.symm; have f5_ := f3_.symm; clear f1_ f2_ f3_; subst f4_; subst f5_))
      have p200 : 0 ≤ (x5_1 : Int) := q_d
      have q200 : x5_1 < (l0.length : Int) := q_d
      obtain ⟨ad200, e200, hx200_0, hx200_1, hx200_2, hx200_3⟩ := at_T49 (Kd.R_reads' HO_0.out).2.2 x5_1 p200 q200
      cases e200
      replace p200 := eq_true p200
      replace q200 := eq_true q200
      refine start_ (n := 12) (S := fun w' => w'.cell? ⟨gb199, 0, none⟩ = some (.string a1_0) ∧ w'.cell? ⟨gb199, 1, none⟩ = some (.int .i64 a1_1) ∧ w'.cell? ⟨gb199, 2, none⟩ = some (.string a1_2) ∧ w'.cell? ⟨gb199, 3, none⟩ = some (.bool a1_3) ∧ w'.cell? (ad200.add ((x5_1).toNat * 4)) = some (.string ((rd_T49 l0 x5_1).f0)) ∧ w'.cell? ⟨(ad200.add ((x5_1).toNat * 4)).block, (ad200.add ((x5_1).toNat * 4)).off + 1, none⟩ = some (.int .i64 ((rd_T49 l0 x5_1).f1)) ∧ w'.cell? ⟨(ad200.add ((x5_1).toNat * 4)).block, (ad200.add ((x5_1).toNat * 4)).off + 2, none⟩ = some (.string ((rd_T49 l0 x5_1).f2)) ∧ w'.cell? ⟨(ad200.add ((x5_1).toNat * 4)).block, (ad200.add ((x5_1).toNat * 4)).off + 3, none⟩ = some (.bool ((rd_T49 l0 x5_1).f3))) (ds := []) #[false, false, false, false, false, false, false, false, false, false, false, false] (by kernel_rfl) rfl rfl ⟨q_z BK199.out 0, q_z BK199.out 1, q_z BK199.out 2, q_z BK199.out 3, hx200_0, hx200_1, hx200_2, hx200_3⟩ (fun hHeld => ?_); refine with_tabW spec_l5Put.tab2 spec_l5Put.bits2 (fun HT_ HW_ => ?_)
      generalize wr.drew = w8 at HO_0 BK199 HK HB hx200_0 hx200_1 hx200_2 hx200_3 hHeld ⊢
      refine q_p 0 (some 6) #[true, false, false, false, false, false, false, false, false, false, false, false] HT_.out ?_
      refine q_p 1 (some 7) #[true, true, false, false, false, false, false, false, false, false, false, false] HT_.out ?_
      refine q_p 2 (some 8) #[true, true, true, false, false, false, false, false, false, false, false, false] HT_.out ?_
      refine q_p 3 (some 9) #[true, true, true, true, false, false, false, false, false, false, false, false] HT_.out ?_
      refine q_p 4 (some 10) #[true, true, true, true, true, false, false, false, false, false, false, false] HT_.out ?_
      refine q_p 5 (some 11) #[true, true, true, true, true, true, false, false, false, false, false, false] HT_.out ?_
      refine q_p 6 (some 12) #[true, true, true, true, true, true, true, false, false, false, false, false] HT_.out ?_
      refine q_p 7 (some 13) #[true, true, true, true, true, true, true, true, false, false, false, false] HT_.out ?_
      refine q_t 8 (some 14) #[true, true, true, true, true, true, true, true, true, false, false, false] HT_.out HW_.out hHeld ?_
      refine q_t 9 (some 15) #[true, true, true, true, true, true, true, true, true, true, false, false] HT_.out HW_.out hHeld ?_
      refine one_ (i := 10) (N := some 16) #[true, true, true, true, true, true, true, true, true, true, true, false] rfl rfl (one_of HT_.out (by kernel_rfl)) (by decide) (fun K hK => ?_)
      refine goes_ Try.func64 (by kernel_rfl) rfl #[.agg #[.string ((rd_T49 l0 x5_1).f0), .int .i64 ((rd_T49 l0 x5_1).f1), .string ((rd_T49 l0 x5_1).f2), .bool ((rd_T49 l0 x5_1).f3)], .agg #[.string a1_0, .int .i64 a1_1, .string a1_2, .bool a1_3]] (by rfl) rfl rfl (by (try simp only [List.map_toArray, List.map_cons, List.map_nil]); first | done | rfl | (simp only [List.length_drop, List.length_take]; rfl)) ?_
      with_reducible refine (spec_l5Ahead.calls ((rd_T49 l0 x5_1).f0) ((rd_T49 l0 x5_1).f1) ((rd_T49 l0 x5_1).f2) ((rd_T49 l0 x5_1).f3) a1_0 a1_1 a1_2 a1_3 true _ A6.out).mono ?_
      rintro e w10 ⟨rfl, hb⟩
      have HS4_ := (hb.cell (World.block_lt_of_cell? _ _ (hHeld.2.2.2.2.1))).trans (hHeld.2.2.2.2.1)
      have HS5_ := (hb.cell (World.block_lt_of_cell? _ _ (hHeld.2.2.2.2.2.1))).trans (hHeld.2.2.2.2.2.1)
      have HS6_ := (hb.cell (World.block_lt_of_cell? _ _ (hHeld.2.2.2.2.2.2.1))).trans (hHeld.2.2.2.2.2.2.1)
      have HS7_ := (hb.cell (World.block_lt_of_cell? _ _ (hHeld.2.2.2.2.2.2.2))).trans (hHeld.2.2.2.2.2.2.2)
      refine ⟨_, rfl, ?_⟩
      have n0_ := Aside0.mk (Kd.R_below (q_r (HO_0.out)) hb)
      have n1_ := Aside0.mk (blk_below (q_b BK199.out) hb)
      have n2_ := Aside0.mk (Kept.below (S := (fun k_ => P0_ k_)) (by repeat (first | (with_reducible first | exact HK.out | apply Kept.alloc | apply Kept.drewN | apply Kept.drew | refine Kept.setCell ?_ (.inr GW199.out) _) | exact HK.out)) hb)
      have n3_ := Aside0.mk (below_step bq hb)
      clear HO_0
      clear BK199
      clear HK
      clear HB
      have HO_0 := n0_
      have BK199 := n1_
      have HK := n2_
      have HB := n3_
      clear n0_ n1_ n2_ n3_
      (try clear hb)
      (try clear hb2)
      (try clear hk)
      (try clear hi)
      refine hK.out _ _ ⟨q_z BK199.out 0, q_z BK199.out 1, q_z BK199.out 2, q_z BK199.out 3, HS4_, HS5_, HS6_, HS7_⟩ (fun hHeld => ?_)
      clear hK K
      refine norm_ (a' := ?_) ?_ ?_
      rotate_left
      ·show Act.put _ (some 16) _ = _
       simp only [Act.put, List.setIfInBounds_toArray, List.set_cons_zero, List.set_cons_succ, i64_w, i32_w]
       rfl
      refine q_p 11 (some 17) #[true, true, true, true, true, true, true, true, true, true, true, true] HT_.out ?_
      refine done_ (done_of HT_.out (by kernel_rfl)) ?_
      try go_wp2
      go_roundg k1
      case measure => have := HK1.out; omega
      case rel => exact ⟨(wrap64 (x5_1 + 1)), q_i, H', ⟨by have := HK1.out; omega⟩, ⟨q_r (HO_0.out)⟩, ⟨q_b BK199.out⟩, ⟨by repeat (first | (with_reducible first | exact HK.out | apply Kept.alloc | apply Kept.drewN | apply Kept.drew | refine Kept.setCell ?_ (.inr GW199.out) _) | exact HK.out)⟩, ⟨bq⟩⟩
     ·replace c7 := Bool.eq_false_iff.mpr c7
      subst c7
      have H1 : ((spec_l5Ahead.f a1_0 a1_1 a1_2 a1_3 ((rd_T49 l0 x5_1).f0) ((rd_T49 l0 x5_1).f1) ((rd_T49 l0 x5_1).f2) ((rd_T49 l0 x5_1).f3)).bind fun t203 => (if t203 = true then ((some (([] : List (S49)) : List (S49))).bind fun y204 => (if x5_1 ≤ (l0.length : Int) then ((some (l0.take (x5_1 : Int).toNat : List (S49))).bind fun y207 => (if y204.length + y207.length < 2932031007402 then ((some (y204 ++ y207 : List (S49))).bind fun y211 => ((some (([(⟨a1_0, a1_1, a1_2, a1_3⟩ : S49)] : List (S49)) : List (S49))).bind fun y214 => (if y211.length + y214.length < 2932031007402 then ((some (y211 ++ y214 : List (S49))).bind fun y217 => ((some (l0.drop (x5_1 : Int).toNat : List (S49))).bind fun y220 => (if y217.length + y220.length < 2932031007402 then (some (y217 ++ y220)) else (none)))) else (none)))) else (none))) else (none))) else (some l0))) = some r := by rw [if_neg (show ¬ (false = true) by decide)] at H; exact H
      clear H
      have H := H1
      clear H1
      replace H := Option.bind_eq_some_iff.mp H
      obtain ⟨t203, A110, H⟩ := H
      replace H : (if t203 = true then ((some (([] : List (S49)) : List (S49))).bind fun y204 => (if x5_1 ≤ (l0.length : Int) then ((some (l0.take (x5_1 : Int).toNat : List (S49))).bind fun y207 => (if y204.length + y207.length < 2932031007402 then ((some (y204 ++ y207 : List (S49))).bind fun y211 => ((some (([(⟨a1_0, a1_1, a1_2, a1_3⟩ : S49)] : List (S49)) : List (S49))).bind fun y214 => (if y211.length + y214.length < 2932031007402 then ((some (y211 ++ y214 : List (S49))).bind fun y217 => ((some (l0.drop (x5_1 : Int).toNat : List (S49))).bind fun y220 => (if y217.length + y220.length < 2932031007402 then (some (y217 ++ y220)) else (none)))) else (none)))) else (none))) else (none))) else (some l0)) = some r := H
      have A11 := Aside0.mk A110
      clear A110
      by_cases c12 : t203 = true
      ·subst c12
       have H1 : ((some (([] : List (S49)) : List (S49))).bind fun y204 => (if x5_1 ≤ (l0.length : Int) then ((some (l0.take (x5_1 : Int).toNat : List (S49))).bind fun y207 => (if y204.length + y207.length < 2932031007402 then ((some (y204 ++ y207 : List (S49))).bind fun y211 => ((some (([(⟨a1_0, a1_1, a1_2, a1_3⟩ : S49)] : List (S49)) : List (S49))).bind fun y214 => (if y211.length + y214.length < 2932031007402 then ((some (y211 ++ y214 : List (S49))).bind fun y217 => ((some (l0.drop (x5_1 : Int).toNat : List (S49))).bind fun y220 => (if y217.length + y220.length < 2932031007402 then (some (y217 ++ y220)) else (none)))) else (none)))) else (none))) else (none))) = some r := by rw [if_pos rfl] at H; exact H
       clear H
       have H := H1
       clear H1
       obtain ⟨y204, hy204⟩ : ∃ y_ : List (S49), y_ = (([] : List (S49))) := ⟨_, rfl⟩
       replace H : (if x5_1 ≤ (l0.length : Int) then ((some (l0.take (x5_1 : Int).toNat : List (S49))).bind fun y207 => (if y204.length + y207.length < 2932031007402 then ((some (y204 ++ y207 : List (S49))).bind fun y211 => ((some (([(⟨a1_0, a1_1, a1_2, a1_3⟩ : S49)] : List (S49)) : List (S49))).bind fun y214 => (if y211.length + y214.length < 2932031007402 then ((some (y211 ++ y214 : List (S49))).bind fun y217 => ((some (l0.drop (x5_1 : Int).toNat : List (S49))).bind fun y220 => (if y217.length + y220.length < 2932031007402 then (some (y217 ++ y220)) else (none)))) else (none)))) else (none))) else (none)) = some r := q_h hy204 H
       have Ny204 := Aside0.mk hy204
       clear hy204
       have c13b0 := eq_true (q_d : 0 ≤ x5_1)
       by_cases c14 : x5_1 ≤ (l0.length : Int)
       ·rw [if_pos c14] at H
        have c14b0 := eq_true c14
        have c14b1 := decide_eq_true c14
        clear c14
        obtain ⟨y207, hy207⟩ : ∃ y_ : List (S49), y_ = (l0.take (x5_1 : Int).toNat) := ⟨_, rfl⟩
        replace H : (if y204.length + y207.length < 2932031007402 then ((some (y204 ++ y207 : List (S49))).bind fun y211 => ((some (([(⟨a1_0, a1_1, a1_2, a1_3⟩ : S49)] : List (S49)) : List (S49))).bind fun y214 => (if y211.length + y214.length < 2932031007402 then ((some (y211 ++ y214 : List (S49))).bind fun y217 => ((some (l0.drop (x5_1 : Int).toNat : List (S49))).bind fun y220 => (if y217.length + y220.length < 2932031007402 then (some (y217 ++ y220)) else (none)))) else (none)))) else (none)) = some r := q_h hy207 H
        have Ny207 := Aside0.mk hy207
        clear hy207
        by_cases c15 : y204.length + y207.length < 2932031007402
        ·rw [if_pos c15] at H
         have LMc15 := Aside0.mk c15
         clear c15
         obtain ⟨y211, hy211⟩ : ∃ y_ : List (S49), y_ = (y204 ++ y207) := ⟨_, rfl⟩
         replace H : ((some (([(⟨a1_0, a1_1, a1_2, a1_3⟩ : S49)] : List (S49)) : List (S49))).bind fun y214 => (if y211.length + y214.length < 2932031007402 then ((some (y211 ++ y214 : List (S49))).bind fun y217 => ((some (l0.drop (x5_1 : Int).toNat : List (S49))).bind fun y220 => (if y217.length + y220.length < 2932031007402 then (some (y217 ++ y220)) else (none)))) else (none))) = some r := q_h hy211 H
         have Ny211 := Aside0.mk hy211
         clear hy211
         obtain ⟨y214, hy214⟩ : ∃ y_ : List (S49), y_ = (([(⟨a1_0, a1_1, a1_2, a1_3⟩ : S49)] : List (S49))) := ⟨_, rfl⟩
         replace H : (if y211.length + y214.length < 2932031007402 then ((some (y211 ++ y214 : List (S49))).bind fun y217 => ((some (l0.drop (x5_1 : Int).toNat : List (S49))).bind fun y220 => (if y217.length + y220.length < 2932031007402 then (some (y217 ++ y220)) else (none)))) else (none)) = some r := q_h hy214 H
         have Ny214 := Aside0.mk hy214
         clear hy214
         by_cases c16 : y211.length + y214.length < 2932031007402
         ·rw [if_pos c16] at H
          have LMc16 := Aside0.mk c16
          clear c16
          obtain ⟨y217, hy217⟩ : ∃ y_ : List (S49), y_ = (y211 ++ y214) := ⟨_, rfl⟩
          replace H : ((some (l0.drop (x5_1 : Int).toNat : List (S49))).bind fun y220 => (if y217.length + y220.length < 2932031007402 then (some (y217 ++ y220)) else (none))) = some r := q_h hy217 H
          have Ny217 := Aside0.mk hy217
          clear hy217
          have c17b0 := eq_true (q_d : 0 ≤ x5_1)
          have c18b0 := eq_true (q_d : x5_1 ≤ (l0.length : Int))
          obtain ⟨y220, hy220⟩ : ∃ y_ : List (S49), y_ = (l0.drop (x5_1 : Int).toNat) := ⟨_, rfl⟩
          replace H : (if y217.length + y220.length < 2932031007402 then (some (y217 ++ y220)) else (none)) = some r := q_h hy220 H
          have Ny220 := Aside0.mk hy220
          clear hy220
          by_cases c19 : y217.length + y220.length < 2932031007402
          ·rw [if_pos c19] at H
           have LMc19 := Aside0.mk c19
           clear c19
           obtain ⟨y224, hy224⟩ : ∃ y_ : List (S49), y_ = (y217 ++ y220) := ⟨_, rfl⟩
           replace H : (some y224) = some r := q_h hy224 H
           have Ny224 := Aside0.mk hy224
           clear hy224
           obtain rfl := Option.some.inj H
           try go_wp2
           have n0_ := Aside0.mk (Kd.R_drew HO_0.out)
           have n1_ := Aside0.mk (blk_drew BK199.out)
           have n2_ := Aside0.mk (Kept.drew HK.out)
           have n3_ := Aside0.mk (below_drew1 HB.out)
           clear HO_0
           clear BK199
           clear HK
           clear HB
           have HO_0 := n0_
           have BK199 := n1_
           have HK := n2_
           have HB := n3_
           clear n0_ n1_ n2_ n3_
           obtain ⟨Ao21, co21, eo21⟩ := Kd.R_slice HO_0.out
           (first | subst eo21 | (injection eo21 with f1_ f2_ f3_; have f4_ := f1_.symm; have f5_ := f3_.symm; clear f1_ f2_ f3_; subst f4_; subst f5_))
           have p200 : 0 ≤ (x5_1 : Int) := q_d
           have q200 : x5_1 < (l0.length : Int) := q_d
           obtain ⟨ad200, e200, hx200_0, hx200_1, hx200_2, hx200_3⟩ := at_T49 (Kd.R_reads' HO_0.out).2.2 x5_1 p200 q200
           cases e200
           replace p200 := eq_true p200
           replace q200 := eq_true q200
           refine start_ (n := 12) (S := fun w' => w'.cell? ⟨gb199, 0, none⟩ = some (.string a1_0) ∧ w'.cell? ⟨gb199, 1, none⟩ = some (.int .i64 a1_1) ∧ w'.cell? ⟨gb199, 2, none⟩ = some (.string a1_2) ∧ w'.cell? ⟨gb199, 3, none⟩ = some (.bool a1_3) ∧ w'.cell? (ad200.add ((x5_1).toNat * 4)) = some (.string ((rd_T49 l0 x5_1).f0)) ∧ w'.cell? ⟨(ad200.add ((x5_1).toNat * 4)).block, (ad200.add ((x5_1).toNat * 4)).off + 1, none⟩ = some (.int .i64 ((rd_T49 l0 x5_1).f1)) ∧ w'.cell? ⟨(ad200.add ((x5_1).toNat * 4)).block, (ad200.add ((x5_1).toNat * 4)).off + 2, none⟩ = some (.string ((rd_T49 l0 x5_1).f2)) ∧ w'.cell? ⟨(ad200.add ((x5_1).toNat * 4)).block, (ad200.add ((x5_1).toNat * 4)).off + 3, none⟩ = some (.bool ((rd_T49 l0 x5_1).f3))) (ds := []) #[false, false, false, false, false, false, false, false, false, false, false, false] (by kernel_rfl) rfl rfl ⟨q_z BK199.out 0, q_z BK199.out 1, q_z BK199.out 2, q_z BK199.out 3, hx200_0, hx200_1, hx200_2, hx200_3⟩ (fun hHeld => ?_); refine with_tabW spec_l5Put.tab2 spec_l5Put.bits2 (fun HT_ HW_ => ?_)
           generalize wr.drew = w20 at HO_0 BK199 HK HB hx200_0 hx200_1 hx200_2 hx200_3 hHeld ⊢
           refine q_p 0 (some 6) #[true, false, false, false, false, false, false, false, false, false, false, false] HT_.out ?_
           refine q_p 1 (some 7) #[true, true, false, false, false, false, false, false, false, false, false, false] HT_.out ?_
           refine q_p 2 (some 8) #[true, true, true, false, false, false, false, false, false, false, false, false] HT_.out ?_
           refine q_p 3 (some 9) #[true, true, true, true, false, false, false, false, false, false, false, false] HT_.out ?_
           refine q_p 4 (some 10) #[true, true, true, true, true, false, false, false, false, false, false, false] HT_.out ?_
           refine q_p 5 (some 11) #[true, true, true, true, true, true, false, false, false, false, false, false] HT_.out ?_
           refine q_p 6 (some 12) #[true, true, true, true, true, true, true, false, false, false, false, false] HT_.out ?_
           refine q_p 7 (some 13) #[true, true, true, true, true, true, true, true, false, false, false, false] HT_.out ?_
           refine q_t 8 (some 14) #[true, true, true, true, true, true, true, true, true, false, false, false] HT_.out HW_.out hHeld ?_
           refine q_t 9 (some 15) #[true, true, true, true, true, true, true, true, true, true, false, false] HT_.out HW_.out hHeld ?_
           refine one_ (i := 10) (N := some 16) #[true, true, true, true, true, true, true, true, true, true, true, false] rfl rfl (one_of HT_.out (by kernel_rfl)) (by decide) (fun K hK => ?_)
           refine goes_ Try.func64 (by kernel_rfl) rfl #[.agg #[.string ((rd_T49 l0 x5_1).f0), .int .i64 ((rd_T49 l0 x5_1).f1), .string ((rd_T49 l0 x5_1).f2), .bool ((rd_T49 l0 x5_1).f3)], .agg #[.string a1_0, .int .i64 a1_1, .string a1_2, .bool a1_3]] (by rfl) rfl rfl (by (try simp only [List.map_toArray, List.map_cons, List.map_nil]); first | done | rfl | (simp only [List.length_drop, List.length_take]; rfl)) ?_
           with_reducible refine (spec_l5Ahead.calls ((rd_T49 l0 x5_1).f0) ((rd_T49 l0 x5_1).f1) ((rd_T49 l0 x5_1).f2) ((rd_T49 l0 x5_1).f3) a1_0 a1_1 a1_2 a1_3 false _ A6.out).mono ?_
           rintro e w22 ⟨rfl, hb⟩
           have HS4_ := (hb.cell (World.block_lt_of_cell? _ _ (hHeld.2.2.2.2.1))).trans (hHeld.2.2.2.2.1)
           have HS5_ := (hb.cell (World.block_lt_of_cell? _ _ (hHeld.2.2.2.2.2.1))).trans (hHeld.2.2.2.2.2.1)
           have HS6_ := (hb.cell (World.block_lt_of_cell? _ _ (hHeld.2.2.2.2.2.2.1))).trans (hHeld.2.2.2.2.2.2.1)
           have HS7_ := (hb.cell (World.block_lt_of_cell? _ _ (hHeld.2.2.2.2.2.2.2))).trans (hHeld.2.2.2.2.2.2.2)
           refine ⟨_, rfl, ?_⟩
           have n0_ := Aside0.mk (Kd.R_below (q_r (HO_0.out)) hb)
           have n1_ := Aside0.mk (blk_below (q_b BK199.out) hb)
           have n2_ := Aside0.mk (Kept.below (S := (fun k_ => P0_ k_)) (by repeat (first | (with_reducible first | exact HK.out | apply Kept.alloc | apply Kept.drewN | apply Kept.drew | refine Kept.setCell ?_ (.inr GW199.out) _) | exact HK.out)) hb)
           have n3_ := Aside0.mk (below_step bq hb)
           clear HO_0
           clear BK199
           clear HK
           clear HB
           have HO_0 := n0_
           have BK199 := n1_
           have HK := n2_
           have HB := n3_
           clear n0_ n1_ n2_ n3_
           (try clear hb)
           (try clear hb2)
           (try clear hk)
           (try clear hi)
           refine hK.out _ _ ⟨q_z BK199.out 0, q_z BK199.out 1, q_z BK199.out 2, q_z BK199.out 3, HS4_, HS5_, HS6_, HS7_⟩ (fun hHeld => ?_)
           clear hK K
           refine norm_ (a' := ?_) ?_ ?_
           rotate_left
           ·show Act.put _ (some 16) _ = _
            simp only [Act.put, List.setIfInBounds_toArray, List.set_cons_zero, List.set_cons_succ, i64_w, i32_w]
            rfl
           refine q_p 11 (some 17) #[true, true, true, true, true, true, true, true, true, true, true, true] HT_.out ?_
           refine done_ (done_of HT_.out (by kernel_rfl)) ?_
           try go_wp2
           have n0_ := Aside0.mk (Kd.R_drew HO_0.out)
           have n1_ := Aside0.mk (blk_drew BK199.out)
           have n2_ := Aside0.mk (Kept.drew HK.out)
           have n3_ := Aside0.mk (below_drew1 HB.out)
           clear HO_0
           clear BK199
           clear HK
           clear HB
           have HO_0 := n0_
           have BK199 := n1_
           have HK := n2_
           have HB := n3_
           clear n0_ n1_ n2_ n3_
           have p202 : 0 ≤ (x5_1 : Int) := q_d
           have q202 : x5_1 < (l0.length : Int) := q_d
           obtain ⟨ad202, e202, hx202_0, hx202_1, hx202_2, hx202_3⟩ := at_T49 (Kd.R_reads' HO_0.out).2.2 x5_1 p202 q202
           obtain rfl : ad200 = ad202 := (by injection e202)
           replace p202 := eq_true p202
           replace q202 := eq_true q202
           refine start_ (n := 13) (S := fun w' => w'.cell? ⟨gb199, 0, none⟩ = some (.string a1_0) ∧ w'.cell? ⟨gb199, 1, none⟩ = some (.int .i64 a1_1) ∧ w'.cell? ⟨gb199, 2, none⟩ = some (.string a1_2) ∧ w'.cell? ⟨gb199, 3, none⟩ = some (.bool a1_3) ∧ w'.cell? (ad200.add ((x5_1).toNat * 4)) = some (.string ((rd_T49 l0 x5_1).f0)) ∧ w'.cell? ⟨(ad200.add ((x5_1).toNat * 4)).block, (ad200.add ((x5_1).toNat * 4)).off + 1, none⟩ = some (.int .i64 ((rd_T49 l0 x5_1).f1)) ∧ w'.cell? ⟨(ad200.add ((x5_1).toNat * 4)).block, (ad200.add ((x5_1).toNat * 4)).off + 2, none⟩ = some (.string ((rd_T49 l0 x5_1).f2)) ∧ w'.cell? ⟨(ad200.add ((x5_1).toNat * 4)).block, (ad200.add ((x5_1).toNat * 4)).off + 3, none⟩ = some (.bool ((rd_T49 l0 x5_1).f3))) (ds := []) #[false, false, false, false, false, false, false, false, false, false, false, false, false] (by kernel_rfl) rfl rfl ⟨q_z BK199.out 0, q_z BK199.out 1, q_z BK199.out 2, q_z BK199.out 3, hx202_0, hx202_1, hx202_2, hx202_3⟩ (fun hHeld => ?_); refine with_tabW spec_l5Put.tab4 spec_l5Put.bits4 (fun HT_ HW_ => ?_)
           generalize w22.drew = w23 at HO_0 BK199 HK HB hx202_0 hx202_1 hx202_2 hx202_3 hHeld ⊢
           refine q_p 0 (some 20) #[true, false, false, false, false, false, false, false, false, false, false, false, false] HT_.out ?_
           refine q_p 1 (some 21) #[true, true, false, false, false, false, false, false, false, false, false, false, false] HT_.out ?_
           refine q_p 2 (some 22) #[true, true, true, false, false, false, false, false, false, false, false, false, false] HT_.out ?_
           refine q_p 3 (some 23) #[true, true, true, true, false, false, false, false, false, false, false, false, false] HT_.out ?_
           refine q_p 4 (some 24) #[true, true, true, true, true, false, false, false, false, false, false, false, false] HT_.out ?_
           refine q_p 6 (some 26) #[true, true, true, true, true, false, true, false, false, false, false, false, false] HT_.out ?_
           refine q_p 7 (some 27) #[true, true, true, true, true, false, true, true, false, false, false, false, false] HT_.out ?_
           refine q_p 8 (some 28) #[true, true, true, true, true, false, true, true, true, false, false, false, false] HT_.out ?_
           refine q_t 5 (some 25) #[true, true, true, true, true, true, true, true, true, false, false, false, false] HT_.out HW_.out hHeld ?_
           refine q_t 9 (some 29) #[true, true, true, true, true, true, true, true, true, true, false, false, false] HT_.out HW_.out hHeld ?_
           refine one_ (i := 10) (N := some 30) #[true, true, true, true, true, true, true, true, true, true, true, false, false] rfl rfl (one_of HT_.out (by kernel_rfl)) (by decide) (fun K hK => ?_)
           refine goes_ Try.func64 (by kernel_rfl) rfl #[.agg #[.string a1_0, .int .i64 a1_1, .string a1_2, .bool a1_3], .agg #[.string ((rd_T49 l0 x5_1).f0), .int .i64 ((rd_T49 l0 x5_1).f1), .string ((rd_T49 l0 x5_1).f2), .bool ((rd_T49 l0 x5_1).f3)]] (by rfl) rfl rfl (by (try simp only [List.map_toArray, List.map_cons, List.map_nil]); first | done | rfl | (simp only [List.length_drop, List.length_take]; rfl)) ?_
           with_reducible refine (spec_l5Ahead.calls a1_0 a1_1 a1_2 a1_3 ((rd_T49 l0 x5_1).f0) ((rd_T49 l0 x5_1).f1) ((rd_T49 l0 x5_1).f2) ((rd_T49 l0 x5_1).f3) true _ A11.out).mono ?_
           rintro e w24 ⟨rfl, hb⟩
           have HS4_ := (hb.cell (World.block_lt_of_cell? _ _ (hHeld.2.2.2.2.1))).trans (hHeld.2.2.2.2.1)
           have HS5_ := (hb.cell (World.block_lt_of_cell? _ _ (hHeld.2.2.2.2.2.1))).trans (hHeld.2.2.2.2.2.1)
           have HS6_ := (hb.cell (World.block_lt_of_cell? _ _ (hHeld.2.2.2.2.2.2.1))).trans (hHeld.2.2.2.2.2.2.1)
           have HS7_ := (hb.cell (World.block_lt_of_cell? _ _ (hHeld.2.2.2.2.2.2.2))).trans (hHeld.2.2.2.2.2.2.2)
           refine ⟨_, rfl, ?_⟩
           have n0_ := Aside0.mk (Kd.R_below (q_r (HO_0.out)) hb)
           have n1_ := Aside0.mk (blk_below (q_b BK199.out) hb)
           have n2_ := Aside0.mk (Kept.below (S := (fun k_ => P0_ k_)) (by repeat (first | (with_reducible first | exact HK.out | apply Kept.alloc | apply Kept.drewN | apply Kept.drew | refine Kept.setCell ?_ (.inr GW199.out) _) | exact HK.out)) hb)
           have n3_ := Aside0.mk (below_step bq hb)
           clear HO_0
           clear BK199
           clear HK
           clear HB
           have HO_0 := n0_
           have BK199 := n1_
           have HK := n2_
           have HB := n3_
           clear n0_ n1_ n2_ n3_
           (try clear hb)
           (try clear hb2)
           (try clear hk)
           (try clear hi)
           refine hK.out _ _ ⟨q_z BK199.out 0, q_z BK199.out 1, q_z BK199.out 2, q_z BK199.out 3, HS4_, HS5_, HS6_, HS7_⟩ (fun hHeld => ?_)
           clear hK K
           refine norm_ (a' := ?_) ?_ ?_
           rotate_left
           ·show Act.put _ (some 30) _ = _
            simp only [Act.put, List.setIfInBounds_toArray, List.set_cons_zero, List.set_cons_succ, i64_w, i32_w]
            rfl
           refine q_p 11 (some 31) #[true, true, true, true, true, true, true, true, true, true, true, true, false] HT_.out ?_
           refine q_p 12 (some 32) #[true, true, true, true, true, true, true, true, true, true, true, true, true] HT_.out ?_
           refine done_ (done_of HT_.out (by kernel_rfl)) ?_
           try go_wp2
           have n0_ := Aside0.mk (Kd.R_drew HO_0.out)
           have n1_ := Aside0.mk (blk_drew BK199.out)
           have n2_ := Aside0.mk (Kept.drew HK.out)
           have n3_ := Aside0.mk (below_drew1 HB.out)
           clear HO_0
           clear BK199
           clear HK
           clear HB
           have HO_0 := n0_
           have BK199 := n1_
           have HK := n2_
           have HB := n3_
           clear n0_ n1_ n2_ n3_
           have q26 : (x5_1 : Int) ≤ ((l0.length : Int) : Int) := q_d
           obtain ⟨i026, hi026, _, hsz26, _⟩ := info_parts info49
           have hroom26 : l0.length ≤ co21 := (Kd.R_reads' HO_0.out).2.1
           have hC26 : Kd.C k49 _ (some ad200) l0.length l0 := (Kd.R_reads' HO_0.out).2.2
           have hcut26 := cut_to (P := Try.prog) 25 49 .i64 Try.underlying25 hi026 (some ad200) l0.length co21 x5_1 q_d q26 hroom26
           have hr26 := Kd.C_take (m := (x5_1 : Int).toNat) hC26 (by omega)
           have hy26 : y207.length = (x5_1 : Int).toNat := (by rw [Ny207.out, List.length_take]; omega)
           rw [← Ny207.out] at hr26
           rw [← hy26] at hcut26
           have HR210 := Aside0.mk hr26
           have HC210 := Aside0.mk (show y207.length ≤ co21 from by omega)
           clear hr26 hC26 hroom26 hi026 hsz26
           have KY26 := Aside0.mk hy26
           clear hy26
           have KL26 := Aside0.mk (show (x5_1 : Int).toNat ≤ l0.length from by omega)
           replace q26 := eq_true q26
           have q27 : (x5_1 : Int) ≤ ((l0.length : Int) : Int) := q_d
           obtain ⟨i027, hi027, _, hsz27, _⟩ := info_parts info49
           have hroom27 : l0.length ≤ co21 := (Kd.R_reads' HO_0.out).2.1
           have hC27 : Kd.C k49 _ (some ad200) l0.length l0 := (Kd.R_reads' HO_0.out).2.2
           have q027 : (0 : Int) ≤ (x5_1 : Int) := q_d
           have hcut27 := cut_from (P := Try.prog) 25 49 .i64 Try.underlying25 hi027 4 hsz27 (some ad200) l0.length co21 x5_1 q027 q27
           have hr27 := Kd.C_drop (m := (x5_1 : Int).toNat) (c := co21) hC27 (by omega) hroom27
           obtain ⟨A27, hA27⟩ : ∃ A1, A1 = (if co21 = (x5_1 : Int).toNat then (some ad200) else ((some ad200) : Option Addr).map (·.add ((x5_1 : Int).toNat * 4))) := ⟨_, rfl⟩
           obtain ⟨c27, hc27⟩ : ∃ c1, c1 = co21 - (x5_1 : Int).toNat := ⟨_, rfl⟩
           have hy27 : y220.length = l0.length - (x5_1 : Int).toNat := (by rw [Ny220.out, List.length_drop] <;> omega)
           rw [show (l0).drop (x5_1 : Int).toNat = y220 from Ny220.out.symm] at hr27
           replace hr27 : Kd.C k49 _ A27 y220.length y220 := (by rw [hA27]; exact hr27)
           rw [← hy27, ← hA27, ← hc27] at hcut27
           have HR223 := Aside0.mk hr27
           have HC223 := Aside0.mk (show y220.length ≤ c27 from by rw [hy27, hc27]; exact Nat.sub_le_sub_right hroom27 _)
           clear hr27 hC27 hroom27 hi027 hsz27 hc27
           have KY27 := Aside0.mk hy27
           have KA27 := Aside0.mk hA27
           clear hy27 hA27
           have KL27 := Aside0.mk (show (x5_1 : Int).toNat ≤ l0.length from by omega)
           replace q27 := eq_true q27
           refine start_ (n := 13) (S := fun w' => w'.cell? ⟨gb199, 0, none⟩ = some (.string a1_0) ∧ w'.cell? ⟨gb199, 1, none⟩ = some (.int .i64 a1_1) ∧ w'.cell? ⟨gb199, 2, none⟩ = some (.string a1_2) ∧ w'.cell? ⟨gb199, 3, none⟩ = some (.bool a1_3)) (ds := []) #[false, false, false, false, false, false, false, false, false, false, false, false, false] (by kernel_rfl) rfl rfl ⟨q_z BK199.out 0, q_z BK199.out 1, q_z BK199.out 2, q_z BK199.out 3⟩ (fun hHeld => ?_); refine with_tabW spec_l5Put.tab6 spec_l5Put.bits6 (fun HT_ HW_ => ?_)
           generalize w24.drew = w25 at HO_0 BK199 HK HB HR210 HR223 hHeld ⊢
           refine q_p 1 (some 35) #[false, true, false, false, false, false, false, false, false, false, false, false, false] HT_.out ?_
           refine q_p 2 (some 36) #[false, true, true, false, false, false, false, false, false, false, false, false, false] HT_.out ?_
           refine q_p 3 (some 37) #[false, true, true, true, false, false, false, false, false, false, false, false, false] HT_.out ?_
           refine q_p 8 (some 42) #[false, true, true, true, false, false, false, false, true, false, false, false, false] HT_.out ?_
           refine q_p 9 (some 43) #[false, true, true, true, false, false, false, false, true, true, false, false, false] HT_.out ?_
           refine q_p 10 (some 44) #[false, true, true, true, false, false, false, false, true, true, true, false, false] HT_.out ?_
           refine q_t 5 (some 39) #[false, true, true, true, false, true, false, false, true, true, true, false, false] HT_.out HW_.out hHeld ?_
           refine join_ (σ := Value × Value × Value) 3 #[true, true, true, true, true, true, true, false, true, true, true, false, false] (fun s_ => [(34, s_.1), (38, s_.2.1), (40, s_.2.2)]) (fun s_ w' => (w'.cell? ⟨gb199, 0, none⟩ = some (.string a1_0) ∧ w'.cell? ⟨gb199, 1, none⟩ = some (.int .i64 a1_1) ∧ w'.cell? ⟨gb199, 2, none⟩ = some (.string a1_2) ∧ w'.cell? ⟨gb199, 3, none⟩ = some (.bool a1_3)) ∧ (Kd.R k49 49 w' w0.heap.size (fun k_ => (P0_ k_ ∨ w.heap.size ≤ k_) ∧ some k_ ≠ (s_.2.2 : Value).ownBlock ∧ some k_ ≠ (.slice (some ad200) l0.length co21 : Value).ownBlock ∧ k_ ≠ gb199) s_.2.1 y211) ∧ (Kd.R k49 49 w' w0.heap.size (fun k_ => (P0_ k_ ∨ w.heap.size ≤ k_) ∧ some k_ ≠ (s_.2.1 : Value).ownBlock ∧ some k_ ≠ (.slice (some ad200) l0.length co21 : Value).ownBlock ∧ k_ ≠ gb199) s_.2.2 y214) ∧ (Kd.R k49 49 w' w0.heap.size (fun k_ => (P0_ k_ ∨ w.heap.size ≤ k_) ∧ some k_ ≠ (s_.2.1 : Value).ownBlock ∧ some k_ ≠ (s_.2.2 : Value).ownBlock ∧ k_ ≠ gb199) (.slice (some ad200) l0.length co21) l0) ∧ (w'.heap[gb199]? = some (.cells #[.string a1_0, .int .i64 a1_1, .string a1_2, .bool a1_3] 49 (0, 0))) ∧ (Kept w w' (fun k_ => P0_ k_)) ∧ (Below w0.heap.size w0 w')) ?_ ?_
           rotate_left
           ·intro hCont
            refine two_ (i := 0) (j := 6) (Ni := some 34) (Nj := some 40) #[true, true, true, true, false, true, false, false, true, true, true, false, false] #[false, true, true, true, false, true, true, false, true, true, true, false, false] rfl rfl rfl rfl (two_of HT_.out (by kernel_rfl)) (by decide) (by decide) (fun K hK => ?_) (fun K hK => ?_)
            ·skip
             refine Kd.R_lit_step k49 _ 49 ?hg (N := 34) ?hd (xs := ([] : List (S49))) (inner := []) (ok := fun _ => True) (okp := fun _ => True) ?hr ?hp (fun _ hk => hk) trivial (Below.refl _ _) (Nat.le_refl _) (by simp) ?_; (case hd => rfl); (case hg => rfl); (case hr => first | (go_simp; done) | (go_simp; rfl)); (case hp => exact (Reps.none _ _))
             intro v205 w28 ho29 hb hg_ hnew_
             clear hg_ hnew_
             (first | rw [← Ny204.out] at ho29 | (simp only [Int.reduceToNat] at ho29; rw [← Ny204.out] at ho29))
             have n0_ := Aside0.mk (Kd.R_elder' (q_r (HO_0.out)) (Kd.R_base ho29) hb)
             have n1_ := Aside0.mk (Kd.R_lower (Kd.R_newB (Kd.R_new' (Kd.R_newM (M := fun k_ => (P0_ k_ ∨ w.heap.size ≤ k_)) ho29 (by first | exact HK.out.1 | exact (show Kept w _ (fun k_ => P0_ k_) from by repeat (first | (with_reducible first | exact HK.out | apply Kept.alloc | apply Kept.drewN | apply Kept.drew | refine Kept.setCell ?_ (.inr GW199.out) _) | exact HK.out)).1) (fun k_ h_ => .inr h_)) (Kd.R_lt (q_r (HO_0.out)))) (q_b BK199.out)) (below_size bq))
             have n2_ := Aside0.mk (blk_below (q_b BK199.out) hb)
             have n3_ := Aside0.mk (Kd.C_below (by repeat (first | (with_reducible exact HR210.out) | (with_reducible refine Kd.C_alloc ?_ _) | (with_reducible refine Kd.C_drewN ?_ _) | (with_reducible refine Kd.C_drew ?_) | exact HR210.out)) hb)
             have n4_ := Aside0.mk (Kd.C_below (by repeat (first | (with_reducible exact HR223.out) | (with_reducible refine Kd.C_alloc ?_ _) | (with_reducible refine Kd.C_drewN ?_ _) | (with_reducible refine Kd.C_drew ?_) | exact HR223.out)) hb)
             have n5_ := Aside0.mk (Kept.below (S := (fun k_ => P0_ k_)) (by repeat (first | (with_reducible first | exact HK.out | apply Kept.alloc | apply Kept.drewN | apply Kept.drew | refine Kept.setCell ?_ (.inr GW199.out) _) | exact HK.out)) hb)
             have n6_ := Aside0.mk (below_step bq hb)
             clear HO_0
             clear BK199
             clear HR210
             clear HR223
             clear HK
             clear HB
             have HO_0 := n0_
             have HO206 := n1_
             have BK199 := n2_
             have HR210 := n3_
             have HR223 := n4_
             have HK := n5_
             have HB := n6_
             clear n0_ n1_ n2_ n3_ n4_ n5_ n6_
             clear hb ho29
             refine hK.out _ _ ⟨q_z BK199.out 0, q_z BK199.out 1, q_z BK199.out 2, q_z BK199.out 3⟩ (fun hHeld => ?_)
             clear hK K
             refine norm_ (a' := ?_) ?_ ?_
             rotate_left
             ·show Act.put _ (some 34) _ = _
              simp only [Act.put, List.setIfInBounds_toArray, List.set_cons_zero, List.set_cons_succ, i64_w, i32_w]
              rfl
             refine two_ (i := 4) (j := 6) (Ni := some 38) (Nj := some 40) #[true, true, true, true, true, true, false, false, true, true, true, false, false] #[true, true, true, true, false, true, true, false, true, true, true, false, false] rfl rfl rfl rfl (two_of HT_.out (by kernel_rfl)) (by decide) (by decide) (fun K hK => ?_) (fun K hK => ?_)
             ·skip
              refine Kd.R_append_rows_step k49 (w0 := w0) w0.heap.size (by rfl) (.tmp 34) (.tmp 37) 25 49 (.agg #[(.string ⟨#[]⟩), (.int .i64 0), (.string ⟨#[]⟩), (.bool false)]) 48 rfl Try.underlying25 info49 rfl (by decide) (by omega) v205 y204 y207 _ _ _ (fun k_ => (P0_ k_ ∨ w.heap.size ≤ k_) ∧ some k_ ≠ (.slice (some ad200) l0.length co21 : Value).ownBlock ∧ k_ ≠ gb199) (fun _ => False) rfl rfl ?aO ?aR (fun _ _ h => h) (fun _ h => h.elim) ?aF ?aB ?aS ?aL ?_
              (case aR => repeat (first | exact (by repeat (first | (with_reducible exact HR210.out) | (with_reducible refine Kd.C_alloc ?_ _) | (with_reducible refine Kd.C_drewN ?_ _) | (with_reducible refine Kd.C_drew ?_) | exact HR210.out)) | (with_reducible refine Kd.C_alloc ?_ _) | (with_reducible refine Kd.C_drewN ?_ _) | (with_reducible refine Kd.C_drew ?_)))
              (case aB => exact bq)
              (case aF => exact (fun k_ hk => ⟨(.inr (Nat.le_trans (by first | exact HK.out.1 | exact (show Kept w _ (fun k_ => P0_ k_) from by repeat (first | (with_reducible first | exact HK.out | apply Kept.alloc | apply Kept.drewN | apply Kept.drew | refine Kept.setCell ?_ (.inr GW199.out) _) | exact HK.out)).1) hk)), Kd.fresh' (Kd.R_lt (q_r (HO_0.out))) k_ hk, Kd.freshB (q_b BK199.out) k_ hk⟩))
              (case aO => exact (by (with_reducible repeat (first | apply Kd.R_alloc | apply Kd.R_drewN | apply Kd.R_drew)); exact Kd.R_mono HO206.out (fun _ hk => ⟨hk.1.1.1, ⟨hk.1.2, hk.2⟩⟩)))
              (case aS => exact (below_size bq))
              (case aL => have := LMc15.out; omega)
              intro v212 w30 ho hb hg hat
              rw [← Ny211.out] at ho
              have n0_ := Aside0.mk (Kd.R_after (ok := (fun k_ => (P0_ k_ ∨ w.heap.size ≤ k_) ∧ k_ ≠ gb199)) (q_r (HO_0.out)) hg hat)
              have n1_ := Aside0.mk (blk_grown (q_b BK199.out) hg (Kd.R_away HO206.out (fun _ hk => hk.2)))
              have n2_ := Aside0.mk (hb)
              have n3_ := Aside0.mk (Kept.of_grown (S := (fun k_ => P0_ k_)) hg (by repeat (first | (with_reducible first | exact HK.out | apply Kept.alloc | apply Kept.drewN | apply Kept.drew | refine Kept.setCell ?_ (.inr GW199.out) _) | exact HK.out)) (fun k_ e_ => (HO206.out.1 k_ e_).1.1.1))
              have n4_ := Aside0.mk ((show Kd.C k49 w30 (some ad200) y207.length y207 from by rw [Ny207.out]; exact Kd.C_take (m := (x5_1 : Int).toNat) ((Kd.R_reads' (Kd.R_after (ok := (fun k_ => (P0_ k_ ∨ w.heap.size ≤ k_) ∧ k_ ≠ gb199)) (q_r (HO_0.out)) hg hat)).2.2) KL26.out))
              have n5_ := Aside0.mk ((show Kd.C k49 w30 A27 y220.length y220 from by rw [Ny220.out, KA27.out]; exact Kd.C_drop (m := (x5_1 : Int).toNat) (c := co21) ((Kd.R_reads' (Kd.R_after (ok := (fun k_ => (P0_ k_ ∨ w.heap.size ≤ k_) ∧ k_ ≠ gb199)) (q_r (HO_0.out)) hg hat)).2.2) KL27.out ((Kd.R_reads' (Kd.R_after (ok := (fun k_ => (P0_ k_ ∨ w.heap.size ≤ k_) ∧ k_ ≠ gb199)) (q_r (HO_0.out)) hg hat)).2.1)))
              have n6_ := Aside0.mk (ho)
              clear HO_0
              clear BK199
              clear HB
              clear HK
              clear HR210
              clear HR223
              clear HO206
              have HO_0 := n0_
              have BK199 := n1_
              have HB := n2_
              have HK := n3_
              have HR210 := n4_
              have HR223 := n5_
              have HO213 := n6_
              clear n0_ n1_ n2_ n3_ n4_ n5_ n6_
              clear ho hb hg hat
              refine hK.out _ _ ⟨q_z BK199.out 0, q_z BK199.out 1, q_z BK199.out 2, q_z BK199.out 3⟩ (fun hHeld => ?_)
              clear hK K
              refine norm_ (a' := ?_) ?_ ?_
              rotate_left
              ·show Act.put _ (some 38) _ = _
               simp only [Act.put, List.setIfInBounds_toArray, List.set_cons_zero, List.set_cons_succ, i64_w, i32_w]
               rfl
              refine one_ (i := 6) (N := some 40) #[true, true, true, true, true, true, true, false, true, true, true, false, false] rfl rfl (one_of HT_.out (by kernel_rfl)) (by decide) (fun K hK => ?_)
              refine Kd.R_lit_step k49 _ 49 ?hg (N := 40) ?hd (xs := ([(⟨a1_0, a1_1, a1_2, a1_3⟩ : S49)] : List (S49))) (inner := [.string a1_0, .int .i64 a1_1, .string a1_2, .bool a1_3]) (ok := fun _ => True) (okp := fun _ => True) ?hr ?hp (fun _ hk => hk) trivial (Below.refl _ _) (Nat.le_refl _) (by simp) ?_; (case hd => rfl); (case hg => rfl); (case hr => first | (go_simp; done) | (go_simp; rfl)); (case hp => exact (Reps.c4 (show Kd.M k49 _ _ _ (⟨a1_0, a1_1, a1_2, a1_3⟩ : S49) [.string a1_0, .int .i64 a1_1, .string a1_2, .bool a1_3] from (k49_mkM _ _ _ (⟨a1_0, a1_1, a1_2, a1_3⟩ : S49) )) (Reps.none _ _)))
              intro v215 w31 ho32 hb hg_ hnew_
              clear hg_ hnew_
              (first | rw [← Ny214.out] at ho32 | (simp only [Int.reduceToNat] at ho32; rw [← Ny214.out] at ho32))
              have n0_ := Aside0.mk (Kd.R_elder' (q_r (HO_0.out)) (Kd.R_base ho32) hb)
              have n1_ := Aside0.mk (Kd.R_elder' (q_r (HO213.out)) (Kd.R_base ho32) hb)
              have n2_ := Aside0.mk (Kd.R_lower (Kd.R_newB (Kd.R_new' (Kd.R_new' (Kd.R_newM (M := fun k_ => (P0_ k_ ∨ w.heap.size ≤ k_)) ho32 (by first | exact HK.out.1 | exact (show Kept w _ (fun k_ => P0_ k_) from by repeat (first | (with_reducible first | exact HK.out | apply Kept.alloc | apply Kept.drewN | apply Kept.drew | refine Kept.setCell ?_ (.inr GW199.out) _) | exact HK.out)).1) (fun k_ h_ => .inr h_)) (Kd.R_lt (q_r (HO_0.out)))) (Kd.R_lt (q_r (HO213.out)))) (q_b BK199.out)) (below_size bq))
              have n3_ := Aside0.mk (blk_below (q_b BK199.out) hb)
              have n4_ := Aside0.mk (Kd.C_below (by repeat (first | (with_reducible exact HR210.out) | (with_reducible refine Kd.C_alloc ?_ _) | (with_reducible refine Kd.C_drewN ?_ _) | (with_reducible refine Kd.C_drew ?_) | exact HR210.out)) hb)
              have n5_ := Aside0.mk (Kd.C_below (by repeat (first | (with_reducible exact HR223.out) | (with_reducible refine Kd.C_alloc ?_ _) | (with_reducible refine Kd.C_drewN ?_ _) | (with_reducible refine Kd.C_drew ?_) | exact HR223.out)) hb)
              have n6_ := Aside0.mk (Kept.below (S := (fun k_ => P0_ k_)) (by repeat (first | (with_reducible first | exact HK.out | apply Kept.alloc | apply Kept.drewN | apply Kept.drew | refine Kept.setCell ?_ (.inr GW199.out) _) | exact HK.out)) hb)
              have n7_ := Aside0.mk (below_step bq hb)
              clear HO_0
              clear HO213
              clear BK199
              clear HR210
              clear HR223
              clear HK
              clear HB
              have HO_0 := n0_
              have HO213 := n1_
              have HO216 := n2_
              have BK199 := n3_
              have HR210 := n4_
              have HR223 := n5_
              have HK := n6_
              have HB := n7_
              clear n0_ n1_ n2_ n3_ n4_ n5_ n6_ n7_
              clear hb ho32
              refine hK.out _ _ ⟨q_z BK199.out 0, q_z BK199.out 1, q_z BK199.out 2, q_z BK199.out 3⟩ (fun hHeld => ?_)
              clear hK K
              refine norm_ (a' := ?_) ?_ ?_
              rotate_left
              ·show Act.put _ (some 40) _ = _
               simp only [Act.put, List.setIfInBounds_toArray, List.set_cons_zero, List.set_cons_succ, i64_w, i32_w]
               rfl
              exact norm_ (by simp only [putAll, Act.put, List.setIfInBounds_toArray, List.set_cons_zero, List.set_cons_succ]) (hCont (v205, v212, v215) _ ⟨hHeld, (by (with_reducible repeat (first | apply Kd.R_alloc | apply Kd.R_drewN | apply Kd.R_drew)); exact Kd.R_mono HO213.out (fun _ hk => ⟨hk.1.1, ⟨hk.2, ⟨hk.1.2.1, hk.1.2.2⟩⟩⟩)), (by (with_reducible repeat (first | apply Kd.R_alloc | apply Kd.R_drewN | apply Kd.R_drew)); exact Kd.R_mono HO216.out (fun _ hk => ⟨hk.1.1.1.1, ⟨hk.1.2, ⟨hk.1.1.2, hk.2⟩⟩⟩)), (by (with_reducible repeat (first | apply Kd.R_alloc | apply Kd.R_drewN | apply Kd.R_drew)); exact Kd.R_mono HO_0.out (fun _ hk => ⟨hk.1.1.1, ⟨hk.1.2, ⟨hk.2, hk.1.1.2⟩⟩⟩)), kq, (by repeat (first | (with_reducible first | exact HK.out | apply Kept.alloc | apply Kept.drewN | apply Kept.drew | refine Kept.setCell ?_ (.inr GW199.out) _) | exact HK.out)), bq⟩)
             ·skip
              refine Kd.R_lit_step k49 _ 49 ?hg (N := 40) ?hd (xs := ([(⟨a1_0, a1_1, a1_2, a1_3⟩ : S49)] : List (S49))) (inner := [.string a1_0, .int .i64 a1_1, .string a1_2, .bool a1_3]) (ok := fun _ => True) (okp := fun _ => True) ?hr ?hp (fun _ hk => hk) trivial (Below.refl _ _) (Nat.le_refl _) (by simp) ?_; (case hd => rfl); (case hg => rfl); (case hr => first | (go_simp; done) | (go_simp; rfl)); (case hp => exact (Reps.c4 (show Kd.M k49 _ _ _ (⟨a1_0, a1_1, a1_2, a1_3⟩ : S49) [.string a1_0, .int .i64 a1_1, .string a1_2, .bool a1_3] from (k49_mkM _ _ _ (⟨a1_0, a1_1, a1_2, a1_3⟩ : S49) )) (Reps.none _ _)))
              intro v215 w30 ho31 hb hg_ hnew_
              clear hg_ hnew_
              (first | rw [← Ny214.out] at ho31 | (simp only [Int.reduceToNat] at ho31; rw [← Ny214.out] at ho31))
              have n0_ := Aside0.mk (Kd.R_elder' (q_r (HO_0.out)) (Kd.R_base ho31) hb)
              have n1_ := Aside0.mk (Kd.R_elder' (q_r (HO206.out)) (Kd.R_base ho31) hb)
              have n2_ := Aside0.mk (Kd.R_lower (Kd.R_newB (Kd.R_new' (Kd.R_new' (Kd.R_newM (M := fun k_ => (P0_ k_ ∨ w.heap.size ≤ k_)) ho31 (by first | exact HK.out.1 | exact (show Kept w _ (fun k_ => P0_ k_) from by repeat (first | (with_reducible first | exact HK.out | apply Kept.alloc | apply Kept.drewN | apply Kept.drew | refine Kept.setCell ?_ (.inr GW199.out) _) | exact HK.out)).1) (fun k_ h_ => .inr h_)) (Kd.R_lt (q_r (HO_0.out)))) (Kd.R_lt (q_r (HO206.out)))) (q_b BK199.out)) (below_size bq))
              have n3_ := Aside0.mk (blk_below (q_b BK199.out) hb)
              have n4_ := Aside0.mk (Kd.C_below (by repeat (first | (with_reducible exact HR210.out) | (with_reducible refine Kd.C_alloc ?_ _) | (with_reducible refine Kd.C_drewN ?_ _) | (with_reducible refine Kd.C_drew ?_) | exact HR210.out)) hb)
              have n5_ := Aside0.mk (Kd.C_below (by repeat (first | (with_reducible exact HR223.out) | (with_reducible refine Kd.C_alloc ?_ _) | (with_reducible refine Kd.C_drewN ?_ _) | (with_reducible refine Kd.C_drew ?_) | exact HR223.out)) hb)
              have n6_ := Aside0.mk (Kept.below (S := (fun k_ => P0_ k_)) (by repeat (first | (with_reducible first | exact HK.out | apply Kept.alloc | apply Kept.drewN | apply Kept.drew | refine Kept.setCell ?_ (.inr GW199.out) _) | exact HK.out)) hb)
              have n7_ := Aside0.mk (below_step bq hb)
              clear HO_0
              clear HO206
              clear BK199
              clear HR210
              clear HR223
              clear HK
              clear HB
              have HO_0 := n0_
              have HO206 := n1_
              have HO216 := n2_
              have BK199 := n3_
              have HR210 := n4_
              have HR223 := n5_
              have HK := n6_
              have HB := n7_
              clear n0_ n1_ n2_ n3_ n4_ n5_ n6_ n7_
              clear hb ho31
              refine hK.out _ _ ⟨q_z BK199.out 0, q_z BK199.out 1, q_z BK199.out 2, q_z BK199.out 3⟩ (fun hHeld => ?_)
              clear hK K
              refine norm_ (a' := ?_) ?_ ?_
              rotate_left
              ·show Act.put _ (some 40) _ = _
               simp only [Act.put, List.setIfInBounds_toArray, List.set_cons_zero, List.set_cons_succ, i64_w, i32_w]
               rfl
              refine one_ (i := 4) (N := some 38) #[true, true, true, true, true, true, true, false, true, true, true, false, false] rfl rfl (one_of HT_.out (by kernel_rfl)) (by decide) (fun K hK => ?_)
              refine Kd.R_append_rows_step k49 (w0 := w0) w0.heap.size (by rfl) (.tmp 34) (.tmp 37) 25 49 (.agg #[(.string ⟨#[]⟩), (.int .i64 0), (.string ⟨#[]⟩), (.bool false)]) 48 rfl Try.underlying25 info49 rfl (by decide) (by omega) v205 y204 y207 _ _ _ (fun k_ => (P0_ k_ ∨ w.heap.size ≤ k_) ∧ some k_ ≠ (.slice (some ad200) l0.length co21 : Value).ownBlock ∧ some k_ ≠ (v215 : Value).ownBlock ∧ k_ ≠ gb199) (fun _ => False) rfl rfl ?aO ?aR (fun _ _ h => h) (fun _ h => h.elim) ?aF ?aB ?aS ?aL ?_
              (case aR => repeat (first | exact (by repeat (first | (with_reducible exact HR210.out) | (with_reducible refine Kd.C_alloc ?_ _) | (with_reducible refine Kd.C_drewN ?_ _) | (with_reducible refine Kd.C_drew ?_) | exact HR210.out)) | (with_reducible refine Kd.C_alloc ?_ _) | (with_reducible refine Kd.C_drewN ?_ _) | (with_reducible refine Kd.C_drew ?_)))
              (case aB => exact bq)
              (case aF => exact (fun k_ hk => ⟨(.inr (Nat.le_trans (by first | exact HK.out.1 | exact (show Kept w _ (fun k_ => P0_ k_) from by repeat (first | (with_reducible first | exact HK.out | apply Kept.alloc | apply Kept.drewN | apply Kept.drew | refine Kept.setCell ?_ (.inr GW199.out) _) | exact HK.out)).1) hk)), Kd.fresh' (Kd.R_lt (q_r (HO_0.out))) k_ hk, Kd.fresh' (Kd.R_lt (q_r (HO216.out))) k_ hk, Kd.freshB (q_b BK199.out) k_ hk⟩))
              (case aO => exact (by (with_reducible repeat (first | apply Kd.R_alloc | apply Kd.R_drewN | apply Kd.R_drew)); exact Kd.R_mono HO206.out (fun _ hk => ⟨hk.1.1.1.1, ⟨hk.1.1.2, ⟨hk.2, hk.1.2⟩⟩⟩)))
              (case aS => exact (below_size bq))
              (case aL => have := LMc15.out; omega)
              intro v212 w32 ho hb hg hat
              rw [← Ny211.out] at ho
              have n0_ := Aside0.mk (Kd.R_after (ok := (fun k_ => (P0_ k_ ∨ w.heap.size ≤ k_) ∧ some k_ ≠ (v215 : Value).ownBlock ∧ k_ ≠ gb199)) (by (with_reducible repeat (first | apply Kd.R_alloc | apply Kd.R_drewN | apply Kd.R_drew)); exact Kd.R_mono HO_0.out (fun _ hk => ⟨⟨hk.1.1.1, ⟨hk.2, hk.1.1.2⟩⟩, hk.1.2⟩)) hg hat)
              have n1_ := Aside0.mk (blk_grown (q_b BK199.out) hg (Kd.R_away HO206.out (fun _ hk => hk.1.2)))
              have n2_ := Aside0.mk (Kd.R_after (ok := (fun k_ => (P0_ k_ ∨ w.heap.size ≤ k_) ∧ some k_ ≠ (.slice (some ad200) l0.length co21 : Value).ownBlock ∧ k_ ≠ gb199)) (by (with_reducible repeat (first | apply Kd.R_alloc | apply Kd.R_drewN | apply Kd.R_drew)); exact Kd.R_mono HO216.out (fun _ hk => ⟨⟨hk.1.1.1.1, ⟨hk.1.1.2, hk.2⟩⟩, hk.1.2⟩)) hg hat)
              have n3_ := Aside0.mk (hb)
              have n4_ := Aside0.mk (Kept.of_grown (S := (fun k_ => P0_ k_)) hg (by repeat (first | (with_reducible first | exact HK.out | apply Kept.alloc | apply Kept.drewN | apply Kept.drew | refine Kept.setCell ?_ (.inr GW199.out) _) | exact HK.out)) (fun k_ e_ => (HO206.out.1 k_ e_).1.1.1.1))
              have n5_ := Aside0.mk ((show Kd.C k49 w32 (some ad200) y207.length y207 from by rw [Ny207.out]; exact Kd.C_take (m := (x5_1 : Int).toNat) ((Kd.R_reads' (Kd.R_after (ok := (fun k_ => (P0_ k_ ∨ w.heap.size ≤ k_) ∧ some k_ ≠ (v215 : Value).ownBlock ∧ k_ ≠ gb199)) (by (with_reducible repeat (first | apply Kd.R_alloc | apply Kd.R_drewN | apply Kd.R_drew)); exact Kd.R_mono HO_0.out (fun _ hk => ⟨⟨hk.1.1.1, ⟨hk.2, hk.1.1.2⟩⟩, hk.1.2⟩)) hg hat)).2.2) KL26.out))
              have n6_ := Aside0.mk ((show Kd.C k49 w32 A27 y220.length y220 from by rw [Ny220.out, KA27.out]; exact Kd.C_drop (m := (x5_1 : Int).toNat) (c := co21) ((Kd.R_reads' (Kd.R_after (ok := (fun k_ => (P0_ k_ ∨ w.heap.size ≤ k_) ∧ some k_ ≠ (v215 : Value).ownBlock ∧ k_ ≠ gb199)) (by (with_reducible repeat (first | apply Kd.R_alloc | apply Kd.R_drewN | apply Kd.R_drew)); exact Kd.R_mono HO_0.out (fun _ hk => ⟨⟨hk.1.1.1, ⟨hk.2, hk.1.1.2⟩⟩, hk.1.2⟩)) hg hat)).2.2) KL27.out ((Kd.R_reads' (Kd.R_after (ok := (fun k_ => (P0_ k_ ∨ w.heap.size ≤ k_) ∧ some k_ ≠ (v215 : Value).ownBlock ∧ k_ ≠ gb199)) (by (with_reducible repeat (first | apply Kd.R_alloc | apply Kd.R_drewN | apply Kd.R_drew)); exact Kd.R_mono HO_0.out (fun _ hk => ⟨⟨hk.1.1.1, ⟨hk.2, hk.1.1.2⟩⟩, hk.1.2⟩)) hg hat)).2.1)))
              have n7_ := Aside0.mk (ho)
              clear HO_0
              clear BK199
              clear HO216
              clear HB
              clear HK
              clear HR210
              clear HR223
              clear HO206
              have HO_0 := n0_
              have BK199 := n1_
              have HO216 := n2_
              have HB := n3_
              have HK := n4_
              have HR210 := n5_
              have HR223 := n6_
              have HO213 := n7_
              clear n0_ n1_ n2_ n3_ n4_ n5_ n6_ n7_
              clear ho hb hg hat
              refine hK.out _ _ ⟨q_z BK199.out 0, q_z BK199.out 1, q_z BK199.out 2, q_z BK199.out 3⟩ (fun hHeld => ?_)
              clear hK K
              refine norm_ (a' := ?_) ?_ ?_
              rotate_left
              ·show Act.put _ (some 38) _ = _
               simp only [Act.put, List.setIfInBounds_toArray, List.set_cons_zero, List.set_cons_succ, i64_w, i32_w]
               rfl
              exact norm_ (by simp only [putAll, Act.put, List.setIfInBounds_toArray, List.set_cons_zero, List.set_cons_succ]) (hCont (v205, v212, v215) _ ⟨hHeld, (by (with_reducible repeat (first | apply Kd.R_alloc | apply Kd.R_drewN | apply Kd.R_drew)); exact Kd.R_mono HO213.out (fun _ hk => ⟨hk.1, ⟨hk.2.2.1, ⟨hk.2.1, hk.2.2.2⟩⟩⟩)), (by (with_reducible repeat (first | apply Kd.R_alloc | apply Kd.R_drewN | apply Kd.R_drew)); exact Kd.R_mono HO216.out (fun _ hk => ⟨hk.1.1, ⟨hk.2, ⟨hk.1.2.1, hk.1.2.2⟩⟩⟩)), (by (with_reducible repeat (first | apply Kd.R_alloc | apply Kd.R_drewN | apply Kd.R_drew)); exact Kd.R_mono HO_0.out (fun _ hk => ⟨hk.1.1, ⟨hk.2, ⟨hk.1.2.1, hk.1.2.2⟩⟩⟩)), kq, (by repeat (first | (with_reducible first | exact HK.out | apply Kept.alloc | apply Kept.drewN | apply Kept.drew | refine Kept.setCell ?_ (.inr GW199.out) _) | exact HK.out)), bq⟩)
            ·skip
             refine Kd.R_lit_step k49 _ 49 ?hg (N := 40) ?hd (xs := ([(⟨a1_0, a1_1, a1_2, a1_3⟩ : S49)] : List (S49))) (inner := [.string a1_0, .int .i64 a1_1, .string a1_2, .bool a1_3]) (ok := fun _ => True) (okp := fun _ => True) ?hr ?hp (fun _ hk => hk) trivial (Below.refl _ _) (Nat.le_refl _) (by simp) ?_; (case hd => rfl); (case hg => rfl); (case hr => first | (go_simp; done) | (go_simp; rfl)); (case hp => exact (Reps.c4 (show Kd.M k49 _ _ _ (⟨a1_0, a1_1, a1_2, a1_3⟩ : S49) [.string a1_0, .int .i64 a1_1, .string a1_2, .bool a1_3] from (k49_mkM _ _ _ (⟨a1_0, a1_1, a1_2, a1_3⟩ : S49) )) (Reps.none _ _)))
             intro v215 w28 ho29 hb hg_ hnew_
             clear hg_ hnew_
             (first | rw [← Ny214.out] at ho29 | (simp only [Int.reduceToNat] at ho29; rw [← Ny214.out] at ho29))
             have n0_ := Aside0.mk (Kd.R_elder' (q_r (HO_0.out)) (Kd.R_base ho29) hb)
             have n1_ := Aside0.mk (Kd.R_lower (Kd.R_newB (Kd.R_new' (Kd.R_newM (M := fun k_ => (P0_ k_ ∨ w.heap.size ≤ k_)) ho29 (by first | exact HK.out.1 | exact (show Kept w _ (fun k_ => P0_ k_) from by repeat (first | (with_reducible first | exact HK.out | apply Kept.alloc | apply Kept.drewN | apply Kept.drew | refine Kept.setCell ?_ (.inr GW199.out) _) | exact HK.out)).1) (fun k_ h_ => .inr h_)) (Kd.R_lt (q_r (HO_0.out)))) (q_b BK199.out)) (below_size bq))
             have n2_ := Aside0.mk (blk_below (q_b BK199.out) hb)
             have n3_ := Aside0.mk (Kd.C_below (by repeat (first | (with_reducible exact HR210.out) | (with_reducible refine Kd.C_alloc ?_ _) | (with_reducible refine Kd.C_drewN ?_ _) | (with_reducible refine Kd.C_drew ?_) | exact HR210.out)) hb)
             have n4_ := Aside0.mk (Kd.C_below (by repeat (first | (with_reducible exact HR223.out) | (with_reducible refine Kd.C_alloc ?_ _) | (with_reducible refine Kd.C_drewN ?_ _) | (with_reducible refine Kd.C_drew ?_) | exact HR223.out)) hb)
             have n5_ := Aside0.mk (Kept.below (S := (fun k_ => P0_ k_)) (by repeat (first | (with_reducible first | exact HK.out | apply Kept.alloc | apply Kept.drewN | apply Kept.drew | refine Kept.setCell ?_ (.inr GW199.out) _) | exact HK.out)) hb)
             have n6_ := Aside0.mk (below_step bq hb)
             clear HO_0
             clear BK199
             clear HR210
             clear HR223
             clear HK
             clear HB
             have HO_0 := n0_
             have HO216 := n1_
             have BK199 := n2_
             have HR210 := n3_
             have HR223 := n4_
             have HK := n5_
             have HB := n6_
             clear n0_ n1_ n2_ n3_ n4_ n5_ n6_
             clear hb ho29
             refine hK.out _ _ ⟨q_z BK199.out 0, q_z BK199.out 1, q_z BK199.out 2, q_z BK199.out 3⟩ (fun hHeld => ?_)
             clear hK K
             refine norm_ (a' := ?_) ?_ ?_
             rotate_left
             ·show Act.put _ (some 40) _ = _
              simp only [Act.put, List.setIfInBounds_toArray, List.set_cons_zero, List.set_cons_succ, i64_w, i32_w]
              rfl
             refine one_ (i := 0) (N := some 34) #[true, true, true, true, false, true, true, false, true, true, true, false, false] rfl rfl (one_of HT_.out (by kernel_rfl)) (by decide) (fun K hK => ?_)
             refine Kd.R_lit_step k49 _ 49 ?hg (N := 34) ?hd (xs := ([] : List (S49))) (inner := []) (ok := fun _ => True) (okp := fun _ => True) ?hr ?hp (fun _ hk => hk) trivial (Below.refl _ _) (Nat.le_refl _) (by simp) ?_; (case hd => rfl); (case hg => rfl); (case hr => first | (go_simp; done) | (go_simp; rfl)); (case hp => exact (Reps.none _ _))
             intro v205 w30 ho31 hb hg_ hnew_
             clear hg_ hnew_
             (first | rw [← Ny204.out] at ho31 | (simp only [Int.reduceToNat] at ho31; rw [← Ny204.out] at ho31))
             have n0_ := Aside0.mk (Kd.R_elder' (q_r (HO_0.out)) (Kd.R_base ho31) hb)
             have n1_ := Aside0.mk (Kd.R_elder' (q_r (HO216.out)) (Kd.R_base ho31) hb)
             have n2_ := Aside0.mk (Kd.R_lower (Kd.R_newB (Kd.R_new' (Kd.R_new' (Kd.R_newM (M := fun k_ => (P0_ k_ ∨ w.heap.size ≤ k_)) ho31 (by first | exact HK.out.1 | exact (show Kept w _ (fun k_ => P0_ k_) from by repeat (first | (with_reducible first | exact HK.out | apply Kept.alloc | apply Kept.drewN | apply Kept.drew | refine Kept.setCell ?_ (.inr GW199.out) _) | exact HK.out)).1) (fun k_ h_ => .inr h_)) (Kd.R_lt (q_r (HO_0.out)))) (Kd.R_lt (q_r (HO216.out)))) (q_b BK199.out)) (below_size bq))
             have n3_ := Aside0.mk (blk_below (q_b BK199.out) hb)
             have n4_ := Aside0.mk (Kd.C_below (by repeat (first | (with_reducible exact HR210.out) | (with_reducible refine Kd.C_alloc ?_ _) | (with_reducible refine Kd.C_drewN ?_ _) | (with_reducible refine Kd.C_drew ?_) | exact HR210.out)) hb)
             have n5_ := Aside0.mk (Kd.C_below (by repeat (first | (with_reducible exact HR223.out) | (with_reducible refine Kd.C_alloc ?_ _) | (with_reducible refine Kd.C_drewN ?_ _) | (with_reducible refine Kd.C_drew ?_) | exact HR223.out)) hb)
             have n6_ := Aside0.mk (Kept.below (S := (fun k_ => P0_ k_)) (by repeat (first | (with_reducible first | exact HK.out | apply Kept.alloc | apply Kept.drewN | apply Kept.drew | refine Kept.setCell ?_ (.inr GW199.out) _) | exact HK.out)) hb)
             have n7_ := Aside0.mk (below_step bq hb)
             clear HO_0
             clear HO216
             clear BK199
             clear HR210
             clear HR223
             clear HK
             clear HB
             have HO_0 := n0_
             have HO216 := n1_
             have HO206 := n2_
             have BK199 := n3_
             have HR210 := n4_
             have HR223 := n5_
             have HK := n6_
             have HB := n7_
             clear n0_ n1_ n2_ n3_ n4_ n5_ n6_ n7_
             clear hb ho31
             refine hK.out _ _ ⟨q_z BK199.out 0, q_z BK199.out 1, q_z BK199.out 2, q_z BK199.out 3⟩ (fun hHeld => ?_)
             clear hK K
             refine norm_ (a' := ?_) ?_ ?_
             rotate_left
             ·show Act.put _ (some 34) _ = _
              simp only [Act.put, List.setIfInBounds_toArray, List.set_cons_zero, List.set_cons_succ, i64_w, i32_w]
              rfl
             refine one_ (i := 4) (N := some 38) #[true, true, true, true, true, true, true, false, true, true, true, false, false] rfl rfl (one_of HT_.out (by kernel_rfl)) (by decide) (fun K hK => ?_)
             refine Kd.R_append_rows_step k49 (w0 := w0) w0.heap.size (by rfl) (.tmp 34) (.tmp 37) 25 49 (.agg #[(.string ⟨#[]⟩), (.int .i64 0), (.string ⟨#[]⟩), (.bool false)]) 48 rfl Try.underlying25 info49 rfl (by decide) (by omega) v205 y204 y207 _ _ _ (fun k_ => (P0_ k_ ∨ w.heap.size ≤ k_) ∧ some k_ ≠ (.slice (some ad200) l0.length co21 : Value).ownBlock ∧ some k_ ≠ (v215 : Value).ownBlock ∧ k_ ≠ gb199) (fun _ => False) rfl rfl ?aO ?aR (fun _ _ h => h) (fun _ h => h.elim) ?aF ?aB ?aS ?aL ?_
             (case aR => repeat (first | exact (by repeat (first | (with_reducible exact HR210.out) | (with_reducible refine Kd.C_alloc ?_ _) | (with_reducible refine Kd.C_drewN ?_ _) | (with_reducible refine Kd.C_drew ?_) | exact HR210.out)) | (with_reducible refine Kd.C_alloc ?_ _) | (with_reducible refine Kd.C_drewN ?_ _) | (with_reducible refine Kd.C_drew ?_)))
             (case aB => exact bq)
             (case aF => exact (fun k_ hk => ⟨(.inr (Nat.le_trans (by first | exact HK.out.1 | exact (show Kept w _ (fun k_ => P0_ k_) from by repeat (first | (with_reducible first | exact HK.out | apply Kept.alloc | apply Kept.drewN | apply Kept.drew | refine Kept.setCell ?_ (.inr GW199.out) _) | exact HK.out)).1) hk)), Kd.fresh' (Kd.R_lt (q_r (HO_0.out))) k_ hk, Kd.fresh' (Kd.R_lt (q_r (HO216.out))) k_ hk, Kd.freshB (q_b BK199.out) k_ hk⟩))
             (case aO => exact (by (with_reducible repeat (first | apply Kd.R_alloc | apply Kd.R_drewN | apply Kd.R_drew)); exact Kd.R_mono HO206.out (fun _ hk => ⟨hk.1.1.1.1, ⟨hk.1.1.2, ⟨hk.1.2, hk.2⟩⟩⟩)))
             (case aS => exact (below_size bq))
             (case aL => have := LMc15.out; omega)
             intro v212 w32 ho hb hg hat
             rw [← Ny211.out] at ho
             have n0_ := Aside0.mk (Kd.R_after (ok := (fun k_ => (P0_ k_ ∨ w.heap.size ≤ k_) ∧ some k_ ≠ (v215 : Value).ownBlock ∧ k_ ≠ gb199)) (by (with_reducible repeat (first | apply Kd.R_alloc | apply Kd.R_drewN | apply Kd.R_drew)); exact Kd.R_mono HO_0.out (fun _ hk => ⟨⟨hk.1.1.1, ⟨hk.1.2, hk.1.1.2⟩⟩, hk.2⟩)) hg hat)
             have n1_ := Aside0.mk (blk_grown (q_b BK199.out) hg (Kd.R_away HO206.out (fun _ hk => hk.2)))
             have n2_ := Aside0.mk (Kd.R_after (ok := (fun k_ => (P0_ k_ ∨ w.heap.size ≤ k_) ∧ some k_ ≠ (.slice (some ad200) l0.length co21 : Value).ownBlock ∧ k_ ≠ gb199)) (by (with_reducible repeat (first | apply Kd.R_alloc | apply Kd.R_drewN | apply Kd.R_drew)); exact Kd.R_mono HO216.out (fun _ hk => ⟨⟨hk.1.1.1.1, ⟨hk.1.1.2, hk.1.2⟩⟩, hk.2⟩)) hg hat)
             have n3_ := Aside0.mk (hb)
             have n4_ := Aside0.mk (Kept.of_grown (S := (fun k_ => P0_ k_)) hg (by repeat (first | (with_reducible first | exact HK.out | apply Kept.alloc | apply Kept.drewN | apply Kept.drew | refine Kept.setCell ?_ (.inr GW199.out) _) | exact HK.out)) (fun k_ e_ => (HO206.out.1 k_ e_).1.1.1.1))
             have n5_ := Aside0.mk ((show Kd.C k49 w32 (some ad200) y207.length y207 from by rw [Ny207.out]; exact Kd.C_take (m := (x5_1 : Int).toNat) ((Kd.R_reads' (Kd.R_after (ok := (fun k_ => (P0_ k_ ∨ w.heap.size ≤ k_) ∧ some k_ ≠ (v215 : Value).ownBlock ∧ k_ ≠ gb199)) (by (with_reducible repeat (first | apply Kd.R_alloc | apply Kd.R_drewN | apply Kd.R_drew)); exact Kd.R_mono HO_0.out (fun _ hk => ⟨⟨hk.1.1.1, ⟨hk.1.2, hk.1.1.2⟩⟩, hk.2⟩)) hg hat)).2.2) KL26.out))
             have n6_ := Aside0.mk ((show Kd.C k49 w32 A27 y220.length y220 from by rw [Ny220.out, KA27.out]; exact Kd.C_drop (m := (x5_1 : Int).toNat) (c := co21) ((Kd.R_reads' (Kd.R_after (ok := (fun k_ => (P0_ k_ ∨ w.heap.size ≤ k_) ∧ some k_ ≠ (v215 : Value).ownBlock ∧ k_ ≠ gb199)) (by (with_reducible repeat (first | apply Kd.R_alloc | apply Kd.R_drewN | apply Kd.R_drew)); exact Kd.R_mono HO_0.out (fun _ hk => ⟨⟨hk.1.1.1, ⟨hk.1.2, hk.1.1.2⟩⟩, hk.2⟩)) hg hat)).2.2) KL27.out ((Kd.R_reads' (Kd.R_after (ok := (fun k_ => (P0_ k_ ∨ w.heap.size ≤ k_) ∧ some k_ ≠ (v215 : Value).ownBlock ∧ k_ ≠ gb199)) (by (with_reducible repeat (first | apply Kd.R_alloc | apply Kd.R_drewN | apply Kd.R_drew)); exact Kd.R_mono HO_0.out (fun _ hk => ⟨⟨hk.1.1.1, ⟨hk.1.2, hk.1.1.2⟩⟩, hk.2⟩)) hg hat)).2.1)))
             have n7_ := Aside0.mk (ho)
             clear HO_0
             clear BK199
             clear HO216
             clear HB
             clear HK
             clear HR210
             clear HR223
             clear HO206
             have HO_0 := n0_
             have BK199 := n1_
             have HO216 := n2_
             have HB := n3_
             have HK := n4_
             have HR210 := n5_
             have HR223 := n6_
             have HO213 := n7_
             clear n0_ n1_ n2_ n3_ n4_ n5_ n6_ n7_
             clear ho hb hg hat
             refine hK.out _ _ ⟨q_z BK199.out 0, q_z BK199.out 1, q_z BK199.out 2, q_z BK199.out 3⟩ (fun hHeld => ?_)
             clear hK K
             refine norm_ (a' := ?_) ?_ ?_
             rotate_left
             ·show Act.put _ (some 38) _ = _
              simp only [Act.put, List.setIfInBounds_toArray, List.set_cons_zero, List.set_cons_succ, i64_w, i32_w]
              rfl
             exact norm_ (by simp only [putAll, Act.put, List.setIfInBounds_toArray, List.set_cons_zero, List.set_cons_succ]) (hCont (v205, v212, v215) _ ⟨hHeld, (by (with_reducible repeat (first | apply Kd.R_alloc | apply Kd.R_drewN | apply Kd.R_drew)); exact Kd.R_mono HO213.out (fun _ hk => ⟨hk.1, ⟨hk.2.2.1, ⟨hk.2.1, hk.2.2.2⟩⟩⟩)), (by (with_reducible repeat (first | apply Kd.R_alloc | apply Kd.R_drewN | apply Kd.R_drew)); exact Kd.R_mono HO216.out (fun _ hk => ⟨hk.1.1, ⟨hk.2, ⟨hk.1.2.1, hk.1.2.2⟩⟩⟩)), (by (with_reducible repeat (first | apply Kd.R_alloc | apply Kd.R_drewN | apply Kd.R_drew)); exact Kd.R_mono HO_0.out (fun _ hk => ⟨hk.1.1, ⟨hk.2, ⟨hk.1.2.1, hk.1.2.2⟩⟩⟩)), kq, (by repeat (first | (with_reducible first | exact HK.out | apply Kept.alloc | apply Kept.drewN | apply Kept.drew | refine Kept.setCell ?_ (.inr GW199.out) _) | exact HK.out)), bq⟩)
           rintro ⟨v205, v212, v215⟩ w33 ⟨hS_, h0_, h1_, h2_, h3_, h4_, h5_⟩
           have n0_ : Aside0 (Kd.R k49 49 w33 w0.heap.size (fun k_ => (P0_ k_ ∨ w.heap.size ≤ k_) ∧ some k_ ≠ (v215 : Value).ownBlock ∧ some k_ ≠ (.slice (some ad200) l0.length co21 : Value).ownBlock ∧ k_ ≠ gb199) v212 y211) := ⟨h0_⟩
           have n1_ : Aside0 (Kd.R k49 49 w33 w0.heap.size (fun k_ => (P0_ k_ ∨ w.heap.size ≤ k_) ∧ some k_ ≠ (v212 : Value).ownBlock ∧ some k_ ≠ (.slice (some ad200) l0.length co21 : Value).ownBlock ∧ k_ ≠ gb199) v215 y214) := ⟨h1_⟩
           have n2_ : Aside0 (Kd.R k49 49 w33 w0.heap.size (fun k_ => (P0_ k_ ∨ w.heap.size ≤ k_) ∧ some k_ ≠ (v212 : Value).ownBlock ∧ some k_ ≠ (v215 : Value).ownBlock ∧ k_ ≠ gb199) (.slice (some ad200) l0.length co21) l0) := ⟨h2_⟩
           have n3_ : Aside0 (w33.heap[gb199]? = some (.cells #[.string a1_0, .int .i64 a1_1, .string a1_2, .bool a1_3] 49 (0, 0))) := ⟨h3_⟩
           have n4_ : Aside0 (Kept w w33 (fun k_ => P0_ k_)) := ⟨h4_⟩
           have n5_ : Aside0 (Below w0.heap.size w0 w33) := ⟨h5_⟩
           clear HO_0
           clear BK199
           clear HK
           clear HB
           clear h0_ h1_ h2_ h3_ h4_ h5_
           have HO213 := n0_
           have HO216 := n1_
           have HO_0 := n2_
           have BK199 := n3_
           have HK := n4_
           have HB := n5_
           clear n0_ n1_ n2_ n3_ n4_ n5_
           have hHeld : w33.cell? ⟨gb199, 0, none⟩ = some (.string a1_0) ∧ w33.cell? ⟨gb199, 1, none⟩ = some (.int .i64 a1_1) ∧ w33.cell? ⟨gb199, 2, none⟩ = some (.string a1_2) ∧ w33.cell? ⟨gb199, 3, none⟩ = some (.bool a1_3) := hS_
           obtain ⟨Ao35, co35, eo35⟩ := Kd.R_slice HO216.out
           (first | subst eo35 | (injection eo35 with f1_ f2_ f3_; have f4_ := f1_.symm; have f5_ := f3_.symm; clear f1_ f2_ f3_; subst f4_; subst f5_))
           refine norm_ (a' := ?_) ?_ ?_
           rotate_left
           ·simp only [putAll, Act.put, List.setIfInBounds_toArray, List.set_cons_zero, List.set_cons_succ]
            rfl
           refine one_ (i := 7) (N := some 41) #[true, true, true, true, true, true, true, true, true, true, true, false, false] rfl rfl (one_of HT_.out (by kernel_rfl)) (by decide) (fun K hK => ?_)
           refine Kd.R_append_rows_step k49 (w0 := w0) w0.heap.size (by rfl) (.tmp 38) (.tmp 40) 25 49 (.agg #[(.string ⟨#[]⟩), (.int .i64 0), (.string ⟨#[]⟩), (.bool false)]) 48 rfl Try.underlying25 info49 rfl (by decide) (by omega) v212 y211 y214 _ _ _ (fun k_ => (P0_ k_ ∨ w.heap.size ≤ k_) ∧ some k_ ≠ (.slice (some ad200) l0.length co21 : Value).ownBlock ∧ some k_ ≠ (.slice Ao35 y214.length co35 : Value).ownBlock ∧ k_ ≠ gb199) (fun _ => False) rfl rfl ?aO ?aR (fun _ _ h => h) (fun _ h => h.elim) ?aF ?aB ?aS ?aL ?_
           (case aR => repeat (first | exact (Kd.R_reads' HO216.out).2.2 | (with_reducible refine Kd.C_alloc ?_ _) | (with_reducible refine Kd.C_drewN ?_ _) | (with_reducible refine Kd.C_drew ?_)))
           (case aB => exact bq)
           (case aF => exact (fun k_ hk => ⟨(.inr (Nat.le_trans (by first | exact HK.out.1 | exact (show Kept w _ (fun k_ => P0_ k_) from by repeat (first | (with_reducible first | exact HK.out | apply Kept.alloc | apply Kept.drewN | apply Kept.drew | refine Kept.setCell ?_ (.inr GW199.out) _) | exact HK.out)).1) hk)), Kd.fresh' (Kd.R_lt (q_r (HO_0.out))) k_ hk, Kd.fresh' (Kd.R_lt (q_r (HO216.out))) k_ hk, Kd.freshB (q_b BK199.out) k_ hk⟩))
           (case aO => exact (by (with_reducible repeat (first | apply Kd.R_alloc | apply Kd.R_drewN | apply Kd.R_drew)); exact Kd.R_mono HO213.out (fun _ hk => ⟨hk.1, ⟨hk.2.2.1, ⟨hk.2.1, hk.2.2.2⟩⟩⟩)))
           (case aS => exact (below_size bq))
           (case aL => have := LMc16.out; omega)
           intro v218 w34 ho hb hg hat
           rw [← Ny217.out] at ho
           have n0_ := Aside0.mk (Kd.R_after (ok := (fun k_ => (P0_ k_ ∨ w.heap.size ≤ k_) ∧ some k_ ≠ (.slice Ao35 y214.length co35 : Value).ownBlock ∧ k_ ≠ gb199)) (by (with_reducible repeat (first | apply Kd.R_alloc | apply Kd.R_drewN | apply Kd.R_drew)); exact Kd.R_mono HO_0.out (fun _ hk => ⟨⟨hk.1, ⟨hk.2.2.1, hk.2.2.2⟩⟩, hk.2.1⟩)) hg hat)
           have n1_ := Aside0.mk (blk_grown (q_b BK199.out) hg (Kd.R_away HO213.out (fun _ hk => hk.2.2.2)))
           have n2_ := Aside0.mk (Kd.R_after (ok := (fun k_ => (P0_ k_ ∨ w.heap.size ≤ k_) ∧ some k_ ≠ (.slice (some ad200) l0.length co21 : Value).ownBlock ∧ k_ ≠ gb199)) (by (with_reducible repeat (first | apply Kd.R_alloc | apply Kd.R_drewN | apply Kd.R_drew)); exact Kd.R_mono HO216.out (fun _ hk => ⟨⟨hk.1, ⟨hk.2.2.1, hk.2.2.2⟩⟩, hk.2.1⟩)) hg hat)
           have n3_ := Aside0.mk (hb)
           have n4_ := Aside0.mk (Kept.of_grown (S := (fun k_ => P0_ k_)) hg (by repeat (first | (with_reducible first | exact HK.out | apply Kept.alloc | apply Kept.drewN | apply Kept.drew | refine Kept.setCell ?_ (.inr GW199.out) _) | exact HK.out)) (fun k_ e_ => (HO213.out.1 k_ e_).1))
           have n5_ := Aside0.mk (ho)
           clear HO_0
           clear BK199
           clear HO216
           clear HB
           clear HK
           clear HO213
           have HO_0 := n0_
           have BK199 := n1_
           have HO216 := n2_
           have HB := n3_
           have HK := n4_
           have HO219 := n5_
           clear n0_ n1_ n2_ n3_ n4_ n5_
           clear ho hb hg hat
           refine hK.out _ _ ⟨q_z BK199.out 0, q_z BK199.out 1, q_z BK199.out 2, q_z BK199.out 3⟩ (fun hHeld => ?_)
           clear hK K
           refine norm_ (a' := ?_) ?_ ?_
           rotate_left
           ·show Act.put _ (some 41) _ = _
            simp only [Act.put, List.setIfInBounds_toArray, List.set_cons_zero, List.set_cons_succ, i64_w, i32_w]
            rfl
           refine one_ (i := 11) (N := some 45) #[true, true, true, true, true, true, true, true, true, true, true, true, false] rfl rfl (one_of HT_.out (by kernel_rfl)) (by decide) (fun K hK => ?_)
           refine Kd.R_append_rows_step k49 (w0 := w0) w0.heap.size (by rfl) (.tmp 41) (.tmp 44) 25 49 (.agg #[(.string ⟨#[]⟩), (.int .i64 0), (.string ⟨#[]⟩), (.bool false)]) 48 rfl Try.underlying25 info49 rfl (by decide) (by omega) v218 y217 y220 _ _ _ (fun k_ => (P0_ k_ ∨ w.heap.size ≤ k_) ∧ some k_ ≠ (.slice (some ad200) l0.length co21 : Value).ownBlock ∧ some k_ ≠ (.slice Ao35 y214.length co35 : Value).ownBlock ∧ k_ ≠ gb199) (fun _ => False) rfl rfl ?aO ?aR (fun _ _ h => h) (fun _ h => h.elim) ?aF ?aB ?aS ?aL ?_
           (case aR => repeat (first | exact (by have hr_ := Kd.C_drop (m := (x5_1 : Int).toNat) (c := co21) (Kd.R_reads' HO_0.out).2.2 KL27.out (Kd.R_reads' HO_0.out).2.1; rw [show (l0).drop (x5_1 : Int).toNat = y220 from Ny220.out.symm] at hr_; rw [KA27.out]; exact hr_) | (with_reducible refine Kd.C_alloc ?_ _) | (with_reducible refine Kd.C_drewN ?_ _) | (with_reducible refine Kd.C_drew ?_)))
           (case aB => exact bq)
           (case aF => exact (fun k_ hk => ⟨(.inr (Nat.le_trans (by first | exact HK.out.1 | exact (show Kept w _ (fun k_ => P0_ k_) from by repeat (first | (with_reducible first | exact HK.out | apply Kept.alloc | apply Kept.drewN | apply Kept.drew | refine Kept.setCell ?_ (.inr GW199.out) _) | exact HK.out)).1) hk)), Kd.fresh' (Kd.R_lt (q_r (HO_0.out))) k_ hk, Kd.fresh' (Kd.R_lt (q_r (HO216.out))) k_ hk, Kd.freshB (q_b BK199.out) k_ hk⟩))
           (case aO => exact (q_r (HO219.out)))
           (case aS => exact (below_size bq))
           (case aL => have := LMc19.out; omega)
           intro v225 w36 ho hb hg hat
           rw [← Ny224.out] at ho
           have n0_ := Aside0.mk (Kd.R_after (ok := (fun k_ => (P0_ k_ ∨ w.heap.size ≤ k_) ∧ some k_ ≠ (.slice Ao35 y214.length co35 : Value).ownBlock ∧ k_ ≠ gb199)) (q_r (HO_0.out)) hg hat)
           have n1_ := Aside0.mk (blk_grown (q_b BK199.out) hg (Kd.R_away HO219.out (fun _ hk => hk.2.2.2)))
           have n2_ := Aside0.mk (Kd.R_after (ok := (fun k_ => (P0_ k_ ∨ w.heap.size ≤ k_) ∧ some k_ ≠ (.slice (some ad200) l0.length co21 : Value).ownBlock ∧ k_ ≠ gb199)) (q_r (HO216.out)) hg hat)
           have n3_ := Aside0.mk (hb)
           have n4_ := Aside0.mk (Kept.of_grown (S := (fun k_ => P0_ k_)) hg (by repeat (first | (with_reducible first | exact HK.out | apply Kept.alloc | apply Kept.drewN | apply Kept.drew | refine Kept.setCell ?_ (.inr GW199.out) _) | exact HK.out)) (fun k_ e_ => (HO219.out.1 k_ e_).1))
           have n5_ := Aside0.mk (ho)
           clear HO_0
           clear BK199
           clear HO216
           clear HB
           clear HK
           clear HO219
           have HO_0 := n0_
           have BK199 := n1_
           have HO216 := n2_
           have HB := n3_
           have HK := n4_
           have HO226 := n5_
           clear n0_ n1_ n2_ n3_ n4_ n5_
           clear ho hb hg hat
           refine hK.out _ _ ⟨q_z BK199.out 0, q_z BK199.out 1, q_z BK199.out 2, q_z BK199.out 3⟩ (fun hHeld => ?_)
           clear hK K
           refine norm_ (a' := ?_) ?_ ?_
           rotate_left
           ·show Act.put _ (some 45) _ = _
            simp only [Act.put, List.setIfInBounds_toArray, List.set_cons_zero, List.set_cons_succ, i64_w, i32_w]
            rfl
           refine q_p 12 (some 4) #[true, true, true, true, true, true, true, true, true, true, true, true, true] HT_.out ?_
           refine done_ (done_of HT_.out (by kernel_rfl)) ?_
           try go_wp2
           go_ret
           exact ⟨_, q_e, q_r (Kd.R_mono HO226.out (fun _ hk => hk.1)), bq, by repeat (first | (with_reducible first | exact HK.out | apply Kept.alloc | apply Kept.drewN | apply Kept.drew | refine Kept.setCell ?_ (.inr GW199.out) _) | exact HK.out)⟩
          ·rw [if_neg c19] at H
           exact absurd H (by simp)
         ·rw [if_neg c16] at H
          exact absurd H (by simp)
        ·rw [if_neg c15] at H
         exact absurd H (by simp)
       ·rw [if_neg c14] at H
        exact absurd H (by simp)
      ·replace c12 := Bool.eq_false_iff.mpr c12
       subst c12
       have H1 : (some l0) = some r := by rw [if_neg (show ¬ (false = true) by decide)] at H; exact H
       clear H
       have H := H1
       clear H1
       obtain rfl := Option.some.inj H
       try go_wp2
       have n0_ := Aside0.mk (Kd.R_drew HO_0.out)
       have n1_ := Aside0.mk (blk_drew BK199.out)
       have n2_ := Aside0.mk (Kept.drew HK.out)
       have n3_ := Aside0.mk (below_drew1 HB.out)
       clear HO_0
       clear BK199
       clear HK
       clear HB
       have HO_0 := n0_
       have BK199 := n1_
       have HK := n2_
       have HB := n3_
       clear n0_ n1_ n2_ n3_
       obtain ⟨Ao38, co38, eo38⟩ := Kd.R_slice HO_0.out
       (first | subst eo38 | (injection eo38 with f1_ f2_ f3_; have f4_ := f1_.symm; have f5_ := f3_.symm; clear f1_ f2_ f3_; subst f4_; subst f5_))
       have p200 : 0 ≤ (x5_1 : Int) := q_d
       have q200 : x5_1 < (l0.length : Int) := q_d
       obtain ⟨ad200, e200, hx200_0, hx200_1, hx200_2, hx200_3⟩ := at_T49 (Kd.R_reads' HO_0.out).2.2 x5_1 p200 q200
       cases e200
       replace p200 := eq_true p200
       replace q200 := eq_true q200
       refine start_ (n := 12) (S := fun w' => w'.cell? ⟨gb199, 0, none⟩ = some (.string a1_0) ∧ w'.cell? ⟨gb199, 1, none⟩ = some (.int .i64 a1_1) ∧ w'.cell? ⟨gb199, 2, none⟩ = some (.string a1_2) ∧ w'.cell? ⟨gb199, 3, none⟩ = some (.bool a1_3) ∧ w'.cell? (ad200.add ((x5_1).toNat * 4)) = some (.string ((rd_T49 l0 x5_1).f0)) ∧ w'.cell? ⟨(ad200.add ((x5_1).toNat * 4)).block, (ad200.add ((x5_1).toNat * 4)).off + 1, none⟩ = some (.int .i64 ((rd_T49 l0 x5_1).f1)) ∧ w'.cell? ⟨(ad200.add ((x5_1).toNat * 4)).block, (ad200.add ((x5_1).toNat * 4)).off + 2, none⟩ = some (.string ((rd_T49 l0 x5_1).f2)) ∧ w'.cell? ⟨(ad200.add ((x5_1).toNat * 4)).block, (ad200.add ((x5_1).toNat * 4)).off + 3, none⟩ = some (.bool ((rd_T49 l0 x5_1).f3))) (ds := []) #[false, false, false, false, false, false, false, false, false, false, false, false] (by kernel_rfl) rfl rfl ⟨q_z BK199.out 0, q_z BK199.out 1, q_z BK199.out 2, q_z BK199.out 3, hx200_0, hx200_1, hx200_2, hx200_3⟩ (fun hHeld => ?_); refine with_tabW spec_l5Put.tab2 spec_l5Put.bits2 (fun HT_ HW_ => ?_)
       generalize wr.drew = w37 at HO_0 BK199 HK HB hx200_0 hx200_1 hx200_2 hx200_3 hHeld ⊢
       refine q_p 0 (some 6) #[true, false, false, false, false, false, false, false, false, false, false, false] HT_.out ?_
       refine q_p 1 (some 7) #[true, true, false, false, false, false, false, false, false, false, false, false] HT_.out ?_
       refine q_p 2 (some 8) #[true, true, true, false, false, false, false, false, false, false, false, false] HT_.out ?_
       refine q_p 3 (some 9) #[true, true, true, true, false, false, false, false, false, false, false, false] HT_.out ?_
       refine q_p 4 (some 10) #[true, true, true, true, true, false, false, false, false, false, false, false] HT_.out ?_
       refine q_p 5 (some 11) #[true, true, true, true, true, true, false, false, false, false, false, false] HT_.out ?_
       refine q_p 6 (some 12) #[true, true, true, true, true, true, true, false, false, false, false, false] HT_.out ?_
       refine q_p 7 (some 13) #[true, true, true, true, true, true, true, true, false, false, false, false] HT_.out ?_
       refine q_t 8 (some 14) #[true, true, true, true, true, true, true, true, true, false, false, false] HT_.out HW_.out hHeld ?_
       refine q_t 9 (some 15) #[true, true, true, true, true, true, true, true, true, true, false, false] HT_.out HW_.out hHeld ?_
       refine one_ (i := 10) (N := some 16) #[true, true, true, true, true, true, true, true, true, true, true, false] rfl rfl (one_of HT_.out (by kernel_rfl)) (by decide) (fun K hK => ?_)
       refine goes_ Try.func64 (by kernel_rfl) rfl #[.agg #[.string ((rd_T49 l0 x5_1).f0), .int .i64 ((rd_T49 l0 x5_1).f1), .string ((rd_T49 l0 x5_1).f2), .bool ((rd_T49 l0 x5_1).f3)], .agg #[.string a1_0, .int .i64 a1_1, .string a1_2, .bool a1_3]] (by rfl) rfl rfl (by (try simp only [List.map_toArray, List.map_cons, List.map_nil]); first | done | rfl | (simp only [List.length_drop, List.length_take]; rfl)) ?_
       with_reducible refine (spec_l5Ahead.calls ((rd_T49 l0 x5_1).f0) ((rd_T49 l0 x5_1).f1) ((rd_T49 l0 x5_1).f2) ((rd_T49 l0 x5_1).f3) a1_0 a1_1 a1_2 a1_3 false _ A6.out).mono ?_
       rintro e w39 ⟨rfl, hb⟩
       have HS4_ := (hb.cell (World.block_lt_of_cell? _ _ (hHeld.2.2.2.2.1))).trans (hHeld.2.2.2.2.1)
       have HS5_ := (hb.cell (World.block_lt_of_cell? _ _ (hHeld.2.2.2.2.2.1))).trans (hHeld.2.2.2.2.2.1)
       have HS6_ := (hb.cell (World.block_lt_of_cell? _ _ (hHeld.2.2.2.2.2.2.1))).trans (hHeld.2.2.2.2.2.2.1)
       have HS7_ := (hb.cell (World.block_lt_of_cell? _ _ (hHeld.2.2.2.2.2.2.2))).trans (hHeld.2.2.2.2.2.2.2)
       refine ⟨_, rfl, ?_⟩
       have n0_ := Aside0.mk (Kd.R_below (q_r (HO_0.out)) hb)
       have n1_ := Aside0.mk (blk_below (q_b BK199.out) hb)
       have n2_ := Aside0.mk (Kept.below (S := (fun k_ => P0_ k_)) (by repeat (first | (with_reducible first | exact HK.out | apply Kept.alloc | apply Kept.drewN | apply Kept.drew | refine Kept.setCell ?_ (.inr GW199.out) _) | exact HK.out)) hb)
       have n3_ := Aside0.mk (below_step bq hb)
       clear HO_0
       clear BK199
       clear HK
       clear HB
       have HO_0 := n0_
       have BK199 := n1_
       have HK := n2_
       have HB := n3_
       clear n0_ n1_ n2_ n3_
       (try clear hb)
       (try clear hb2)
       (try clear hk)
       (try clear hi)
       refine hK.out _ _ ⟨q_z BK199.out 0, q_z BK199.out 1, q_z BK199.out 2, q_z BK199.out 3, HS4_, HS5_, HS6_, HS7_⟩ (fun hHeld => ?_)
       clear hK K
       refine norm_ (a' := ?_) ?_ ?_
       rotate_left
       ·show Act.put _ (some 16) _ = _
        simp only [Act.put, List.setIfInBounds_toArray, List.set_cons_zero, List.set_cons_succ, i64_w, i32_w]
        rfl
       refine q_p 11 (some 17) #[true, true, true, true, true, true, true, true, true, true, true, true] HT_.out ?_
       refine done_ (done_of HT_.out (by kernel_rfl)) ?_
       try go_wp2
       have n0_ := Aside0.mk (Kd.R_drew HO_0.out)
       have n1_ := Aside0.mk (blk_drew BK199.out)
       have n2_ := Aside0.mk (Kept.drew HK.out)
       have n3_ := Aside0.mk (below_drew1 HB.out)
       clear HO_0
       clear BK199
       clear HK
       clear HB
       have HO_0 := n0_
       have BK199 := n1_
       have HK := n2_
       have HB := n3_
       clear n0_ n1_ n2_ n3_
       have p202 : 0 ≤ (x5_1 : Int) := q_d
       have q202 : x5_1 < (l0.length : Int) := q_d
       obtain ⟨ad202, e202, hx202_0, hx202_1, hx202_2, hx202_3⟩ := at_T49 (Kd.R_reads' HO_0.out).2.2 x5_1 p202 q202
       obtain rfl : ad200 = ad202 := (by injection e202)
       replace p202 := eq_true p202
       replace q202 := eq_true q202
       refine start_ (n := 13) (S := fun w' => w'.cell? ⟨gb199, 0, none⟩ = some (.string a1_0) ∧ w'.cell? ⟨gb199, 1, none⟩ = some (.int .i64 a1_1) ∧ w'.cell? ⟨gb199, 2, none⟩ = some (.string a1_2) ∧ w'.cell? ⟨gb199, 3, none⟩ = some (.bool a1_3) ∧ w'.cell? (ad200.add ((x5_1).toNat * 4)) = some (.string ((rd_T49 l0 x5_1).f0)) ∧ w'.cell? ⟨(ad200.add ((x5_1).toNat * 4)).block, (ad200.add ((x5_1).toNat * 4)).off + 1, none⟩ = some (.int .i64 ((rd_T49 l0 x5_1).f1)) ∧ w'.cell? ⟨(ad200.add ((x5_1).toNat * 4)).block, (ad200.add ((x5_1).toNat * 4)).off + 2, none⟩ = some (.string ((rd_T49 l0 x5_1).f2)) ∧ w'.cell? ⟨(ad200.add ((x5_1).toNat * 4)).block, (ad200.add ((x5_1).toNat * 4)).off + 3, none⟩ = some (.bool ((rd_T49 l0 x5_1).f3))) (ds := []) #[false, false, false, false, false, false, false, false, false, false, false, false, false] (by kernel_rfl) rfl rfl ⟨q_z BK199.out 0, q_z BK199.out 1, q_z BK199.out 2, q_z BK199.out 3, hx202_0, hx202_1, hx202_2, hx202_3⟩ (fun hHeld => ?_); refine with_tabW spec_l5Put.tab4 spec_l5Put.bits4 (fun HT_ HW_ => ?_)
       generalize w39.drew = w40 at HO_0 BK199 HK HB hx202_0 hx202_1 hx202_2 hx202_3 hHeld ⊢
       refine q_p 0 (some 20) #[true, false, false, false, false, false, false, false, false, false, false, false, false] HT_.out ?_
       refine q_p 1 (some 21) #[true, true, false, false, false, false, false, false, false, false, false, false, false] HT_.out ?_
       refine q_p 2 (some 22) #[true, true, true, false, false, false, false, false, false, false, false, false, false] HT_.out ?_
       refine q_p 3 (some 23) #[true, true, true, true, false, false, false, false, false, false, false, false, false] HT_.out ?_
       refine q_p 4 (some 24) #[true, true, true, true, true, false, false, false, false, false, false, false, false] HT_.out ?_
       refine q_p 6 (some 26) #[true, true, true, true, true, false, true, false, false, false, false, false, false] HT_.out ?_
       refine q_p 7 (some 27) #[true, true, true, true, true, false, true, true, false, false, false, false, false] HT_.out ?_
       refine q_p 8 (some 28) #[true, true, true, true, true, false, true, true, true, false, false, false, false] HT_.out ?_
       refine q_t 5 (some 25) #[true, true, true, true, true, true, true, true, true, false, false, false, false] HT_.out HW_.out hHeld ?_
       refine q_t 9 (some 29) #[true, true, true, true, true, true, true, true, true, true, false, false, false] HT_.out HW_.out hHeld ?_
       refine one_ (i := 10) (N := some 30) #[true, true, true, true, true, true, true, true, true, true, true, false, false] rfl rfl (one_of HT_.out (by kernel_rfl)) (by decide) (fun K hK => ?_)
       refine goes_ Try.func64 (by kernel_rfl) rfl #[.agg #[.string a1_0, .int .i64 a1_1, .string a1_2, .bool a1_3], .agg #[.string ((rd_T49 l0 x5_1).f0), .int .i64 ((rd_T49 l0 x5_1).f1), .string ((rd_T49 l0 x5_1).f2), .bool ((rd_T49 l0 x5_1).f3)]] (by rfl) rfl rfl (by (try simp only [List.map_toArray, List.map_cons, List.map_nil]); first | done | rfl | (simp only [List.length_drop, List.length_take]; rfl)) ?_
       with_reducible refine (spec_l5Ahead.calls a1_0 a1_1 a1_2 a1_3 ((rd_T49 l0 x5_1).f0) ((rd_T49 l0 x5_1).f1) ((rd_T49 l0 x5_1).f2) ((rd_T49 l0 x5_1).f3) false _ A11.out).mono ?_
       rintro e w41 ⟨rfl, hb⟩
       have HS4_ := (hb.cell (World.block_lt_of_cell? _ _ (hHeld.2.2.2.2.1))).trans (hHeld.2.2.2.2.1)
       have HS5_ := (hb.cell (World.block_lt_of_cell? _ _ (hHeld.2.2.2.2.2.1))).trans (hHeld.2.2.2.2.2.1)
       have HS6_ := (hb.cell (World.block_lt_of_cell? _ _ (hHeld.2.2.2.2.2.2.1))).trans (hHeld.2.2.2.2.2.2.1)
       have HS7_ := (hb.cell (World.block_lt_of_cell? _ _ (hHeld.2.2.2.2.2.2.2))).trans (hHeld.2.2.2.2.2.2.2)
       refine ⟨_, rfl, ?_⟩
       have n0_ := Aside0.mk (Kd.R_below (q_r (HO_0.out)) hb)
       have n1_ := Aside0.mk (blk_below (q_b BK199.out) hb)
       have n2_ := Aside0.mk (Kept.below (S := (fun k_ => P0_ k_)) (by repeat (first | (with_reducible first | exact HK.out | apply Kept.alloc | apply Kept.drewN | apply Kept.drew | refine Kept.setCell ?_ (.inr GW199.out) _) | exact HK.out)) hb)
       have n3_ := Aside0.mk (below_step bq hb)
       clear HO_0
       clear BK199
       clear HK
       clear HB
       have HO_0 := n0_
       have BK199 := n1_
       have HK := n2_
       have HB := n3_
       clear n0_ n1_ n2_ n3_
       (try clear hb)
       (try clear hb2)
       (try clear hk)
       (try clear hi)
       refine hK.out _ _ ⟨q_z BK199.out 0, q_z BK199.out 1, q_z BK199.out 2, q_z BK199.out 3, HS4_, HS5_, HS6_, HS7_⟩ (fun hHeld => ?_)
       clear hK K
       refine norm_ (a' := ?_) ?_ ?_
       rotate_left
       ·show Act.put _ (some 30) _ = _
        simp only [Act.put, List.setIfInBounds_toArray, List.set_cons_zero, List.set_cons_succ, i64_w, i32_w]
        rfl
       refine q_p 11 (some 31) #[true, true, true, true, true, true, true, true, true, true, true, true, false] HT_.out ?_
       refine q_p 12 (some 32) #[true, true, true, true, true, true, true, true, true, true, true, true, true] HT_.out ?_
       refine done_ (done_of HT_.out (by kernel_rfl)) ?_
       try go_wp2
       go_ret
       exact ⟨_, q_e, q_r (Kd.R_mono HO_0.out (fun _ hk => hk.1)), bq, by repeat (first | (with_reducible first | exact HK.out | apply Kept.alloc | apply Kept.drewN | apply Kept.drew | refine Kept.setCell ?_ (.inr GW199.out) _) | exact HK.out)⟩
    ·rw [if_neg c5] at H
     exact absurd H (by simp)
   ·rw [if_neg c4] at H
    have c4b0 := decide_eq_false c4
    clear c4
    obtain ⟨y227, hy227⟩ : ∃ y_ : List (S49), y_ = (([] : List (S49))) := ⟨_, rfl⟩
    replace H : (if 0 ≤ x5_1 then (if x5_1 ≤ (l0.length : Int) then ((some (l0.take (x5_1 : Int).toNat : List (S49))).bind fun y230 => (if y227.length + y230.length < 2932031007402 then ((some (y227 ++ y230 : List (S49))).bind fun y234 => ((some (([(⟨a1_0, a1_1, a1_2, a1_3⟩ : S49)] : List (S49)) : List (S49))).bind fun y237 => (if y234.length + y237.length < 2932031007402 then ((some (y234 ++ y237 : List (S49))).bind fun y240 => ((some (l0.drop (x5_1 : Int).toNat : List (S49))).bind fun y243 => (if y240.length + y243.length < 2932031007402 then (some (y240 ++ y243)) else (none)))) else (none)))) else (none))) else (none)) else (none)) = some r := q_h hy227 H
    have Ny227 := Aside0.mk hy227
    clear hy227
    by_cases c42 : 0 ≤ x5_1
    ·rw [if_pos c42] at H
     have c42b0 := eq_true c42
     have c42b1 := decide_eq_true c42
     clear c42
     by_cases c43 : x5_1 ≤ (l0.length : Int)
     ·rw [if_pos c43] at H
      have c43b0 := eq_true c43
      have c43b1 := decide_eq_true c43
      clear c43
      obtain ⟨y230, hy230⟩ : ∃ y_ : List (S49), y_ = (l0.take (x5_1 : Int).toNat) := ⟨_, rfl⟩
      replace H : (if y227.length + y230.length < 2932031007402 then ((some (y227 ++ y230 : List (S49))).bind fun y234 => ((some (([(⟨a1_0, a1_1, a1_2, a1_3⟩ : S49)] : List (S49)) : List (S49))).bind fun y237 => (if y234.length + y237.length < 2932031007402 then ((some (y234 ++ y237 : List (S49))).bind fun y240 => ((some (l0.drop (x5_1 : Int).toNat : List (S49))).bind fun y243 => (if y240.length + y243.length < 2932031007402 then (some (y240 ++ y243)) else (none)))) else (none)))) else (none)) = some r := q_h hy230 H
      have Ny230 := Aside0.mk hy230
      clear hy230
      by_cases c44 : y227.length + y230.length < 2932031007402
      ·rw [if_pos c44] at H
       have LMc44 := Aside0.mk c44
       clear c44
       obtain ⟨y234, hy234⟩ : ∃ y_ : List (S49), y_ = (y227 ++ y230) := ⟨_, rfl⟩
       replace H : ((some (([(⟨a1_0, a1_1, a1_2, a1_3⟩ : S49)] : List (S49)) : List (S49))).bind fun y237 => (if y234.length + y237.length < 2932031007402 then ((some (y234 ++ y237 : List (S49))).bind fun y240 => ((some (l0.drop (x5_1 : Int).toNat : List (S49))).bind fun y243 => (if y240.length + y243.length < 2932031007402 then (some (y240 ++ y243)) else (none)))) else (none))) = some r := q_h hy234 H
       have Ny234 := Aside0.mk hy234
       clear hy234
       obtain ⟨y237, hy237⟩ : ∃ y_ : List (S49), y_ = (([(⟨a1_0, a1_1, a1_2, a1_3⟩ : S49)] : List (S49))) := ⟨_, rfl⟩
       replace H : (if y234.length + y237.length < 2932031007402 then ((some (y234 ++ y237 : List (S49))).bind fun y240 => ((some (l0.drop (x5_1 : Int).toNat : List (S49))).bind fun y243 => (if y240.length + y243.length < 2932031007402 then (some (y240 ++ y243)) else (none)))) else (none)) = some r := q_h hy237 H
       have Ny237 := Aside0.mk hy237
       clear hy237
       by_cases c45 : y234.length + y237.length < 2932031007402
       ·rw [if_pos c45] at H
        have LMc45 := Aside0.mk c45
        clear c45
        obtain ⟨y240, hy240⟩ : ∃ y_ : List (S49), y_ = (y234 ++ y237) := ⟨_, rfl⟩
        replace H : ((some (l0.drop (x5_1 : Int).toNat : List (S49))).bind fun y243 => (if y240.length + y243.length < 2932031007402 then (some (y240 ++ y243)) else (none))) = some r := q_h hy240 H
        have Ny240 := Aside0.mk hy240
        clear hy240
        have c46b0 := eq_true (q_d : 0 ≤ x5_1)
        have c47b0 := eq_true (q_d : x5_1 ≤ (l0.length : Int))
        obtain ⟨y243, hy243⟩ : ∃ y_ : List (S49), y_ = (l0.drop (x5_1 : Int).toNat) := ⟨_, rfl⟩
        replace H : (if y240.length + y243.length < 2932031007402 then (some (y240 ++ y243)) else (none)) = some r := q_h hy243 H
        have Ny243 := Aside0.mk hy243
        clear hy243
        by_cases c48 : y240.length + y243.length < 2932031007402
        ·rw [if_pos c48] at H
         have LMc48 := Aside0.mk c48
         clear c48
         obtain ⟨y247, hy247⟩ : ∃ y_ : List (S49), y_ = (y240 ++ y243) := ⟨_, rfl⟩
         replace H : (some y247) = some r := q_h hy247 H
         have Ny247 := Aside0.mk hy247
         clear hy247
         obtain rfl := Option.some.inj H
         try go_wp2
         have n0_ := Aside0.mk (Kd.R_drew HO_0.out)
         have n1_ := Aside0.mk (blk_drew BK199.out)
         have n2_ := Aside0.mk (Kept.drew HK.out)
         have n3_ := Aside0.mk (below_drew1 HB.out)
         clear HO_0
         clear BK199
         clear HK
         clear HB
         have HO_0 := n0_
         have BK199 := n1_
         have HK := n2_
         have HB := n3_
         clear n0_ n1_ n2_ n3_
         obtain ⟨Ao50, co50, eo50⟩ := Kd.R_slice HO_0.out
         (first | subst eo50 | (injection eo50 with f1_ f2_ f3_; have f4_ := f1_.symm; have f5_ := f3_.symm; clear f1_ f2_ f3_; subst f4_; subst f5_))
         refine start_ (n := 12) (S := fun w' => True) (ds := []) #[false, false, false, false, false, false, false, false, false, false, false, false] (by kernel_rfl) rfl rfl trivial (fun hHeld => ?_); refine with_tabW spec_l5Put.tab2 spec_l5Put.bits2 (fun HT_ HW_ => ?_)
         generalize wr.drew = w49 at HO_0 BK199 HK HB hHeld ⊢
         refine q_p 0 (some 6) #[true, false, false, false, false, false, false, false, false, false, false, false] HT_.out ?_
         refine q_p 1 (some 7) #[true, true, false, false, false, false, false, false, false, false, false, false] HT_.out ?_
         refine q_p 2 (some 8) #[true, true, true, false, false, false, false, false, false, false, false, false] HT_.out ?_
         refine q_p 3 (some 9) #[true, true, true, true, false, false, false, false, false, false, false, false] HT_.out ?_
         refine q_p 4 (some 10) #[true, true, true, true, true, false, false, false, false, false, false, false] HT_.out ?_
         refine pure_ (i := 5) (N := some 11) (v := undef) (a' := ?_) #[true, true, true, true, true, true, false, false, false, false, false, false] rfl rfl (any_of HT_.out (by kernel_rfl)) (fun _ _ _ h => h) (Or.inr ⟨by rfl, rfl⟩) ?_ ?_
         rotate_left
         ·simp only [Act.put, List.setIfInBounds_toArray, List.set_cons_zero, List.set_cons_succ, i64_w, i32_w]
          rfl
         refine pure_ (i := 6) (N := some 12) (v := undef) (a' := ?_) #[true, true, true, true, true, true, true, false, false, false, false, false] rfl rfl (any_of HT_.out (by kernel_rfl)) (fun _ _ _ h => h) (Or.inr ⟨by rfl, rfl⟩) ?_ ?_
         rotate_left
         ·simp only [Act.put, List.setIfInBounds_toArray, List.set_cons_zero, List.set_cons_succ, i64_w, i32_w]
          rfl
         refine pure_ (i := 7) (N := some 13) (v := undef) (a' := ?_) #[true, true, true, true, true, true, true, true, false, false, false, false] rfl rfl (any_of HT_.out (by kernel_rfl)) (fun _ _ _ h => h) (Or.inr ⟨by rfl, rfl⟩) ?_ ?_
         rotate_left
         ·simp only [Act.put, List.setIfInBounds_toArray, List.set_cons_zero, List.set_cons_succ, i64_w, i32_w]
          rfl
         refine pure_ (i := 8) (N := some 14) (v := undef) (a' := ?_) #[true, true, true, true, true, true, true, true, true, false, false, false] rfl rfl (any_of HT_.out (by kernel_rfl)) (fun _ _ _ h => h) (Or.inr ⟨by rfl, rfl⟩) ?_ ?_
         rotate_left
         ·simp only [Act.put, List.setIfInBounds_toArray, List.set_cons_zero, List.set_cons_succ, i64_w, i32_w]
          rfl
         refine pure_ (i := 9) (N := some 15) (v := undef) (a' := ?_) #[true, true, true, true, true, true, true, true, true, true, false, false] rfl rfl (any_of HT_.out (by kernel_rfl)) (fun _ _ _ h => h) (Or.inr ⟨by rfl, rfl⟩) ?_ ?_
         rotate_left
         ·simp only [Act.put, List.setIfInBounds_toArray, List.set_cons_zero, List.set_cons_succ, i64_w, i32_w]
          rfl
         refine pure_ (i := 10) (N := some 16) (v := undef) (a' := ?_) #[true, true, true, true, true, true, true, true, true, true, true, false] rfl rfl (any_of HT_.out (by kernel_rfl)) (fun _ _ _ h => h) (Or.inr ⟨by rfl, rfl⟩) ?_ ?_
         rotate_left
         ·simp only [Act.put, List.setIfInBounds_toArray, List.set_cons_zero, List.set_cons_succ, i64_w, i32_w]
          rfl
         refine q_p 11 (some 17) #[true, true, true, true, true, true, true, true, true, true, true, true] HT_.out ?_
         refine done_ (done_of HT_.out (by kernel_rfl)) ?_
         try go_wp2
         have n0_ := Aside0.mk (Kd.R_drew HO_0.out)
         have n1_ := Aside0.mk (blk_drew BK199.out)
         have n2_ := Aside0.mk (Kept.drew HK.out)
         have n3_ := Aside0.mk (below_drew1 HB.out)
         clear HO_0
         clear BK199
         clear HK
         clear HB
         have HO_0 := n0_
         have BK199 := n1_
         have HK := n2_
         have HB := n3_
         clear n0_ n1_ n2_ n3_
         refine start_ (n := 13) (S := fun w' => True) (ds := []) #[false, false, false, false, false, false, false, false, false, false, false, false, false] (by kernel_rfl) rfl rfl trivial (fun hHeld => ?_); refine with_tabW spec_l5Put.tab4 spec_l5Put.bits4 (fun HT_ HW_ => ?_)
         generalize w49.drew = w51 at HO_0 BK199 HK HB hHeld ⊢
         refine q_p 0 (some 20) #[true, false, false, false, false, false, false, false, false, false, false, false, false] HT_.out ?_
         refine q_p 1 (some 21) #[true, true, false, false, false, false, false, false, false, false, false, false, false] HT_.out ?_
         refine q_p 2 (some 22) #[true, true, true, false, false, false, false, false, false, false, false, false, false] HT_.out ?_
         refine q_p 3 (some 23) #[true, true, true, true, false, false, false, false, false, false, false, false, false] HT_.out ?_
         refine q_p 4 (some 24) #[true, true, true, true, true, false, false, false, false, false, false, false, false] HT_.out ?_
         refine pure_ (i := 5) (N := some 25) (v := undef) (a' := ?_) #[true, true, true, true, true, true, false, false, false, false, false, false, false] rfl rfl (any_of HT_.out (by kernel_rfl)) (fun _ _ _ h => h) (Or.inr ⟨by rfl, rfl⟩) ?_ ?_
         rotate_left
         ·simp only [Act.put, List.setIfInBounds_toArray, List.set_cons_zero, List.set_cons_succ, i64_w, i32_w]
          rfl
         refine pure_ (i := 6) (N := some 26) (v := undef) (a' := ?_) #[true, true, true, true, true, true, true, false, false, false, false, false, false] rfl rfl (any_of HT_.out (by kernel_rfl)) (fun _ _ _ h => h) (Or.inr ⟨by rfl, rfl⟩) ?_ ?_
         rotate_left
         ·simp only [Act.put, List.setIfInBounds_toArray, List.set_cons_zero, List.set_cons_succ, i64_w, i32_w]
          rfl
         refine pure_ (i := 7) (N := some 27) (v := undef) (a' := ?_) #[true, true, true, true, true, true, true, true, false, false, false, false, false] rfl rfl (any_of HT_.out (by kernel_rfl)) (fun _ _ _ h => h) (Or.inr ⟨by rfl, rfl⟩) ?_ ?_
         rotate_left
         ·simp only [Act.put, List.setIfInBounds_toArray, List.set_cons_zero, List.set_cons_succ, i64_w, i32_w]
          rfl
         refine pure_ (i := 8) (N := some 28) (v := undef) (a' := ?_) #[true, true, true, true, true, true, true, true, true, false, false, false, false] rfl rfl (any_of HT_.out (by kernel_rfl)) (fun _ _ _ h => h) (Or.inr ⟨by rfl, rfl⟩) ?_ ?_
         rotate_left
         ·simp only [Act.put, List.setIfInBounds_toArray, List.set_cons_zero, List.set_cons_succ, i64_w, i32_w]
          rfl
         refine pure_ (i := 9) (N := some 29) (v := undef) (a' := ?_) #[true, true, true, true, true, true, true, true, true, true, false, false, false] rfl rfl (any_of HT_.out (by kernel_rfl)) (fun _ _ _ h => h) (Or.inr ⟨by rfl, rfl⟩) ?_ ?_
         rotate_left
         ·simp only [Act.put, List.setIfInBounds_toArray, List.set_cons_zero, List.set_cons_succ, i64_w, i32_w]
          rfl
         refine pure_ (i := 10) (N := some 30) (v := undef) (a' := ?_) #[true, true, true, true, true, true, true, true, true, true, true, false, false] rfl rfl (any_of HT_.out (by kernel_rfl)) (fun _ _ _ h => h) (Or.inr ⟨by rfl, rfl⟩) ?_ ?_
         rotate_left
         ·simp only [Act.put, List.setIfInBounds_toArray, List.set_cons_zero, List.set_cons_succ, i64_w, i32_w]
          rfl
         refine pure_ (i := 11) (N := some 31) (v := undef) (a' := ?_) #[true, true, true, true, true, true, true, true, true, true, true, true, false] rfl rfl (any_of HT_.out (by kernel_rfl)) (fun _ _ _ h => h) (Or.inr ⟨by rfl, rfl⟩) ?_ ?_
         rotate_left
         ·simp only [Act.put, List.setIfInBounds_toArray, List.set_cons_zero, List.set_cons_succ, i64_w, i32_w]
          rfl
         refine q_p 12 (some 32) #[true, true, true, true, true, true, true, true, true, true, true, true, true] HT_.out ?_
         refine done_ (done_of HT_.out (by kernel_rfl)) ?_
         try go_wp2
         have n0_ := Aside0.mk (Kd.R_drew HO_0.out)
         have n1_ := Aside0.mk (blk_drew BK199.out)
         have n2_ := Aside0.mk (Kept.drew HK.out)
         have n3_ := Aside0.mk (below_drew1 HB.out)
         clear HO_0
         clear BK199
         clear HK
         clear HB
         have HO_0 := n0_
         have BK199 := n1_
         have HK := n2_
         have HB := n3_
         clear n0_ n1_ n2_ n3_
         have q53 : (x5_1 : Int) ≤ ((l0.length : Int) : Int) := q_d
         obtain ⟨i053, hi053, _, hsz53, _⟩ := info_parts info49
         have hroom53 : l0.length ≤ co50 := (Kd.R_reads' HO_0.out).2.1
         have hC53 : Kd.C k49 _ Ao50 l0.length l0 := (Kd.R_reads' HO_0.out).2.2
         have hcut53 := cut_to (P := Try.prog) 25 49 .i64 Try.underlying25 hi053 Ao50 l0.length co50 x5_1 q_d q53 hroom53
         have hr53 := Kd.C_take (m := (x5_1 : Int).toNat) hC53 (by omega)
         have hy53 : y230.length = (x5_1 : Int).toNat := (by rw [Ny230.out, List.length_take]; omega)
         rw [← Ny230.out] at hr53
         rw [← hy53] at hcut53
         have HR233 := Aside0.mk hr53
         have HC233 := Aside0.mk (show y230.length ≤ co50 from by omega)
         clear hr53 hC53 hroom53 hi053 hsz53
         have KY53 := Aside0.mk hy53
         clear hy53
         have KL53 := Aside0.mk (show (x5_1 : Int).toNat ≤ l0.length from by omega)
         replace q53 := eq_true q53
         have q54 : (x5_1 : Int) ≤ ((l0.length : Int) : Int) := q_d
         obtain ⟨i054, hi054, _, hsz54, _⟩ := info_parts info49
         have hroom54 : l0.length ≤ co50 := (Kd.R_reads' HO_0.out).2.1
         have hC54 : Kd.C k49 _ Ao50 l0.length l0 := (Kd.R_reads' HO_0.out).2.2
         have q054 : (0 : Int) ≤ (x5_1 : Int) := q_d
         have hcut54 := cut_from (P := Try.prog) 25 49 .i64 Try.underlying25 hi054 4 hsz54 Ao50 l0.length co50 x5_1 q054 q54
         have hr54 := Kd.C_drop (m := (x5_1 : Int).toNat) (c := co50) hC54 (by omega) hroom54
         obtain ⟨A54, hA54⟩ : ∃ A1, A1 = (if co50 = (x5_1 : Int).toNat then Ao50 else (Ao50 : Option Addr).map (·.add ((x5_1 : Int).toNat * 4))) := ⟨_, rfl⟩
         obtain ⟨c54, hc54⟩ : ∃ c1, c1 = co50 - (x5_1 : Int).toNat := ⟨_, rfl⟩
         have hy54 : y243.length = l0.length - (x5_1 : Int).toNat := (by rw [Ny243.out, List.length_drop] <;> omega)
         rw [show (l0).drop (x5_1 : Int).toNat = y243 from Ny243.out.symm] at hr54
         replace hr54 : Kd.C k49 _ A54 y243.length y243 := (by rw [hA54]; exact hr54)
         rw [← hy54, ← hA54, ← hc54] at hcut54
         have HR246 := Aside0.mk hr54
         have HC246 := Aside0.mk (show y243.length ≤ c54 from by rw [hy54, hc54]; exact Nat.sub_le_sub_right hroom54 _)
         clear hr54 hC54 hroom54 hi054 hsz54 hc54
         have KY54 := Aside0.mk hy54
         have KA54 := Aside0.mk hA54
         clear hy54 hA54
         have KL54 := Aside0.mk (show (x5_1 : Int).toNat ≤ l0.length from by omega)
         replace q54 := eq_true q54
         refine start_ (n := 13) (S := fun w' => w'.cell? ⟨gb199, 0, none⟩ = some (.string a1_0) ∧ w'.cell? ⟨gb199, 1, none⟩ = some (.int .i64 a1_1) ∧ w'.cell? ⟨gb199, 2, none⟩ = some (.string a1_2) ∧ w'.cell? ⟨gb199, 3, none⟩ = some (.bool a1_3)) (ds := []) #[false, false, false, false, false, false, false, false, false, false, false, false, false] (by kernel_rfl) rfl rfl ⟨q_z BK199.out 0, q_z BK199.out 1, q_z BK199.out 2, q_z BK199.out 3⟩ (fun hHeld => ?_); refine with_tabW spec_l5Put.tab6 spec_l5Put.bits6 (fun HT_ HW_ => ?_)
         generalize w51.drew = w52 at HO_0 BK199 HK HB HR233 HR246 hHeld ⊢
         refine q_p 1 (some 35) #[false, true, false, false, false, false, false, false, false, false, false, false, false] HT_.out ?_
         refine q_p 2 (some 36) #[false, true, true, false, false, false, false, false, false, false, false, false, false] HT_.out ?_
         refine q_p 3 (some 37) #[false, true, true, true, false, false, false, false, false, false, false, false, false] HT_.out ?_
         refine q_p 8 (some 42) #[false, true, true, true, false, false, false, false, true, false, false, false, false] HT_.out ?_
         refine q_p 9 (some 43) #[false, true, true, true, false, false, false, false, true, true, false, false, false] HT_.out ?_
         refine q_p 10 (some 44) #[false, true, true, true, false, false, false, false, true, true, true, false, false] HT_.out ?_
         refine q_t 5 (some 39) #[false, true, true, true, false, true, false, false, true, true, true, false, false] HT_.out HW_.out hHeld ?_
         refine join_ (σ := Value × Value × Value) 3 #[true, true, true, true, true, true, true, false, true, true, true, false, false] (fun s_ => [(34, s_.1), (38, s_.2.1), (40, s_.2.2)]) (fun s_ w' => (w'.cell? ⟨gb199, 0, none⟩ = some (.string a1_0) ∧ w'.cell? ⟨gb199, 1, none⟩ = some (.int .i64 a1_1) ∧ w'.cell? ⟨gb199, 2, none⟩ = some (.string a1_2) ∧ w'.cell? ⟨gb199, 3, none⟩ = some (.bool a1_3)) ∧ (Kd.R k49 49 w' w0.heap.size (fun k_ => (P0_ k_ ∨ w.heap.size ≤ k_) ∧ some k_ ≠ (s_.2.2 : Value).ownBlock ∧ some k_ ≠ (.slice Ao50 l0.length co50 : Value).ownBlock ∧ k_ ≠ gb199) s_.2.1 y234) ∧ (Kd.R k49 49 w' w0.heap.size (fun k_ => (P0_ k_ ∨ w.heap.size ≤ k_) ∧ some k_ ≠ (s_.2.1 : Value).ownBlock ∧ some k_ ≠ (.slice Ao50 l0.length co50 : Value).ownBlock ∧ k_ ≠ gb199) s_.2.2 y237) ∧ (Kd.R k49 49 w' w0.heap.size (fun k_ => (P0_ k_ ∨ w.heap.size ≤ k_) ∧ some k_ ≠ (s_.2.1 : Value).ownBlock ∧ some k_ ≠ (s_.2.2 : Value).ownBlock ∧ k_ ≠ gb199) (.slice Ao50 l0.length co50) l0) ∧ (w'.heap[gb199]? = some (.cells #[.string a1_0, .int .i64 a1_1, .string a1_2, .bool a1_3] 49 (0, 0))) ∧ (Kept w w' (fun k_ => P0_ k_)) ∧ (Below w0.heap.size w0 w')) ?_ ?_
         rotate_left
         ·intro hCont
          refine two_ (i := 0) (j := 6) (Ni := some 34) (Nj := some 40) #[true, true, true, true, false, true, false, false, true, true, true, false, false] #[false, true, true, true, false, true, true, false, true, true, true, false, false] rfl rfl rfl rfl (two_of HT_.out (by kernel_rfl)) (by decide) (by decide) (fun K hK => ?_) (fun K hK => ?_)
          ·skip
           refine Kd.R_lit_step k49 _ 49 ?hg (N := 34) ?hd (xs := ([] : List (S49))) (inner := []) (ok := fun _ => True) (okp := fun _ => True) ?hr ?hp (fun _ hk => hk) trivial (Below.refl _ _) (Nat.le_refl _) (by simp) ?_; (case hd => rfl); (case hg => rfl); (case hr => first | (go_simp; done) | (go_simp; rfl)); (case hp => exact (Reps.none _ _))
           intro v228 w55 ho56 hb hg_ hnew_
           clear hg_ hnew_
           (first | rw [← Ny227.out] at ho56 | (simp only [Int.reduceToNat] at ho56; rw [← Ny227.out] at ho56))
           have n0_ := Aside0.mk (Kd.R_elder' (q_r (HO_0.out)) (Kd.R_base ho56) hb)
           have n1_ := Aside0.mk (Kd.R_lower (Kd.R_newB (Kd.R_new' (Kd.R_newM (M := fun k_ => (P0_ k_ ∨ w.heap.size ≤ k_)) ho56 (by first | exact HK.out.1 | exact (show Kept w _ (fun k_ => P0_ k_) from by repeat (first | (with_reducible first | exact HK.out | apply Kept.alloc | apply Kept.drewN | apply Kept.drew | refine Kept.setCell ?_ (.inr GW199.out) _) | exact HK.out)).1) (fun k_ h_ => .inr h_)) (Kd.R_lt (q_r (HO_0.out)))) (q_b BK199.out)) (below_size bq))
           have n2_ := Aside0.mk (blk_below (q_b BK199.out) hb)
           have n3_ := Aside0.mk (Kd.C_below (by repeat (first | (with_reducible exact HR233.out) | (with_reducible refine Kd.C_alloc ?_ _) | (with_reducible refine Kd.C_drewN ?_ _) | (with_reducible refine Kd.C_drew ?_) | exact HR233.out)) hb)
           have n4_ := Aside0.mk (Kd.C_below (by repeat (first | (with_reducible exact HR246.out) | (with_reducible refine Kd.C_alloc ?_ _) | (with_reducible refine Kd.C_drewN ?_ _) | (with_reducible refine Kd.C_drew ?_) | exact HR246.out)) hb)
           have n5_ := Aside0.mk (Kept.below (S := (fun k_ => P0_ k_)) (by repeat (first | (with_reducible first | exact HK.out | apply Kept.alloc | apply Kept.drewN | apply Kept.drew | refine Kept.setCell ?_ (.inr GW199.out) _) | exact HK.out)) hb)
           have n6_ := Aside0.mk (below_step bq hb)
           clear HO_0
           clear BK199
           clear HR233
           clear HR246
           clear HK
           clear HB
           have HO_0 := n0_
           have HO229 := n1_
           have BK199 := n2_
           have HR233 := n3_
           have HR246 := n4_
           have HK := n5_
           have HB := n6_
           clear n0_ n1_ n2_ n3_ n4_ n5_ n6_
           clear hb ho56
           refine hK.out _ _ ⟨q_z BK199.out 0, q_z BK199.out 1, q_z BK199.out 2, q_z BK199.out 3⟩ (fun hHeld => ?_)
           clear hK K
           refine norm_ (a' := ?_) ?_ ?_
           rotate_left
           ·show Act.put _ (some 34) _ = _
            simp only [Act.put, List.setIfInBounds_toArray, List.set_cons_zero, List.set_cons_succ, i64_w, i32_w]
            rfl
           refine two_ (i := 4) (j := 6) (Ni := some 38) (Nj := some 40) #[true, true, true, true, true, true, false, false, true, true, true, false, false] #[true, true, true, true, false, true, true, false, true, true, true, false, false] rfl rfl rfl rfl (two_of HT_.out (by kernel_rfl)) (by decide) (by decide) (fun K hK => ?_) (fun K hK => ?_)
           ·skip
            refine Kd.R_append_rows_step k49 (w0 := w0) w0.heap.size (by rfl) (.tmp 34) (.tmp 37) 25 49 (.agg #[(.string ⟨#[]⟩), (.int .i64 0), (.string ⟨#[]⟩), (.bool false)]) 48 rfl Try.underlying25 info49 rfl (by decide) (by omega) v228 y227 y230 _ _ _ (fun k_ => (P0_ k_ ∨ w.heap.size ≤ k_) ∧ some k_ ≠ (.slice Ao50 l0.length co50 : Value).ownBlock ∧ k_ ≠ gb199) (fun _ => False) rfl rfl ?aO ?aR (fun _ _ h => h) (fun _ h => h.elim) ?aF ?aB ?aS ?aL ?_
            (case aR => repeat (first | exact (by repeat (first | (with_reducible exact HR233.out) | (with_reducible refine Kd.C_alloc ?_ _) | (with_reducible refine Kd.C_drewN ?_ _) | (with_reducible refine Kd.C_drew ?_) | exact HR233.out)) | (with_reducible refine Kd.C_alloc ?_ _) | (with_reducible refine Kd.C_drewN ?_ _) | (with_reducible refine Kd.C_drew ?_)))
            (case aB => exact bq)
            (case aF => exact (fun k_ hk => ⟨(.inr (Nat.le_trans (by first | exact HK.out.1 | exact (show Kept w _ (fun k_ => P0_ k_) from by repeat (first | (with_reducible first | exact HK.out | apply Kept.alloc | apply Kept.drewN | apply Kept.drew | refine Kept.setCell ?_ (.inr GW199.out) _) | exact HK.out)).1) hk)), Kd.fresh' (Kd.R_lt (q_r (HO_0.out))) k_ hk, Kd.freshB (q_b BK199.out) k_ hk⟩))
            (case aO => exact (by (with_reducible repeat (first | apply Kd.R_alloc | apply Kd.R_drewN | apply Kd.R_drew)); exact Kd.R_mono HO229.out (fun _ hk => ⟨hk.1.1.1, ⟨hk.1.2, hk.2⟩⟩)))
            (case aS => exact (below_size bq))
            (case aL => have := LMc44.out; omega)
            intro v235 w57 ho hb hg hat
            rw [← Ny234.out] at ho
            have n0_ := Aside0.mk (Kd.R_after (ok := (fun k_ => (P0_ k_ ∨ w.heap.size ≤ k_) ∧ k_ ≠ gb199)) (q_r (HO_0.out)) hg hat)
            have n1_ := Aside0.mk (blk_grown (q_b BK199.out) hg (Kd.R_away HO229.out (fun _ hk => hk.2)))
            have n2_ := Aside0.mk (hb)
            have n3_ := Aside0.mk (Kept.of_grown (S := (fun k_ => P0_ k_)) hg (by repeat (first | (with_reducible first | exact HK.out | apply Kept.alloc | apply Kept.drewN | apply Kept.drew | refine Kept.setCell ?_ (.inr GW199.out) _) | exact HK.out)) (fun k_ e_ => (HO229.out.1 k_ e_).1.1.1))
            have n4_ := Aside0.mk ((show Kd.C k49 w57 Ao50 y230.length y230 from by rw [Ny230.out]; exact Kd.C_take (m := (x5_1 : Int).toNat) ((Kd.R_reads' (Kd.R_after (ok := (fun k_ => (P0_ k_ ∨ w.heap.size ≤ k_) ∧ k_ ≠ gb199)) (q_r (HO_0.out)) hg hat)).2.2) KL53.out))
            have n5_ := Aside0.mk ((show Kd.C k49 w57 A54 y243.length y243 from by rw [Ny243.out, KA54.out]; exact Kd.C_drop (m := (x5_1 : Int).toNat) (c := co50) ((Kd.R_reads' (Kd.R_after (ok := (fun k_ => (P0_ k_ ∨ w.heap.size ≤ k_) ∧ k_ ≠ gb199)) (q_r (HO_0.out)) hg hat)).2.2) KL54.out ((Kd.R_reads' (Kd.R_after (ok := (fun k_ => (P0_ k_ ∨ w.heap.size ≤ k_) ∧ k_ ≠ gb199)) (q_r (HO_0.out)) hg hat)).2.1)))
            have n6_ := Aside0.mk (ho)
            clear HO_0
            clear BK199
            clear HB
            clear HK
            clear HR233
            clear HR246
            clear HO229
            have HO_0 := n0_
            have BK199 := n1_
            have HB := n2_
            have HK := n3_
            have HR233 := n4_
            have HR246 := n5_
            have HO236 := n6_
            clear n0_ n1_ n2_ n3_ n4_ n5_ n6_
            clear ho hb hg hat
            refine hK.out _ _ ⟨q_z BK199.out 0, q_z BK199.out 1, q_z BK199.out 2, q_z BK199.out 3⟩ (fun hHeld => ?_)
            clear hK K
            refine norm_ (a' := ?_) ?_ ?_
            rotate_left
            ·show Act.put _ (some 38) _ = _
             simp only [Act.put, List.setIfInBounds_toArray, List.set_cons_zero, List.set_cons_succ, i64_w, i32_w]
             rfl
            refine one_ (i := 6) (N := some 40) #[true, true, true, true, true, true, true, false, true, true, true, false, false] rfl rfl (one_of HT_.out (by kernel_rfl)) (by decide) (fun K hK => ?_)
            refine Kd.R_lit_step k49 _ 49 ?hg (N := 40) ?hd (xs := ([(⟨a1_0, a1_1, a1_2, a1_3⟩ : S49)] : List (S49))) (inner := [.string a1_0, .int .i64 a1_1, .string a1_2, .bool a1_3]) (ok := fun _ => True) (okp := fun _ => True) ?hr ?hp (fun _ hk => hk) trivial (Below.refl _ _) (Nat.le_refl _) (by simp) ?_; (case hd => rfl); (case hg => rfl); (case hr => first | (go_simp; done) | (go_simp; rfl)); (case hp => exact (Reps.c4 (show Kd.M k49 _ _ _ (⟨a1_0, a1_1, a1_2, a1_3⟩ : S49) [.string a1_0, .int .i64 a1_1, .string a1_2, .bool a1_3] from (k49_mkM _ _ _ (⟨a1_0, a1_1, a1_2, a1_3⟩ : S49) )) (Reps.none _ _)))
            intro v238 w58 ho59 hb hg_ hnew_
            clear hg_ hnew_
            (first | rw [← Ny237.out] at ho59 | (simp only [Int.reduceToNat] at ho59; rw [← Ny237.out] at ho59))
            have n0_ := Aside0.mk (Kd.R_elder' (q_r (HO_0.out)) (Kd.R_base ho59) hb)
            have n1_ := Aside0.mk (Kd.R_elder' (q_r (HO236.out)) (Kd.R_base ho59) hb)
            have n2_ := Aside0.mk (Kd.R_lower (Kd.R_newB (Kd.R_new' (Kd.R_new' (Kd.R_newM (M := fun k_ => (P0_ k_ ∨ w.heap.size ≤ k_)) ho59 (by first | exact HK.out.1 | exact (show Kept w _ (fun k_ => P0_ k_) from by repeat (first | (with_reducible first | exact HK.out | apply Kept.alloc | apply Kept.drewN | apply Kept.drew | refine Kept.setCell ?_ (.inr GW199.out) _) | exact HK.out)).1) (fun k_ h_ => .inr h_)) (Kd.R_lt (q_r (HO_0.out)))) (Kd.R_lt (q_r (HO236.out)))) (q_b BK199.out)) (below_size bq))
            have n3_ := Aside0.mk (blk_below (q_b BK199.out) hb)
            have n4_ := Aside0.mk (Kd.C_below (by repeat (first | (with_reducible exact HR233.out) | (with_reducible refine Kd.C_alloc ?_ _) | (with_reducible refine Kd.C_drewN ?_ _) | (with_reducible refine Kd.C_drew ?_) | exact HR233.out)) hb)
            have n5_ := Aside0.mk (Kd.C_below (by repeat (first | (with_reducible exact HR246.out) | (with_reducible refine Kd.C_alloc ?_ _) | (with_reducible refine Kd.C_drewN ?_ _) | (with_reducible refine Kd.C_drew ?_) | exact HR246.out)) hb)
            have n6_ := Aside0.mk (Kept.below (S := (fun k_ => P0_ k_)) (by repeat (first | (with_reducible first | exact HK.out | apply Kept.alloc | apply Kept.drewN | apply Kept.drew | refine Kept.setCell ?_ (.inr GW199.out) _) | exact HK.out)) hb)
            have n7_ := Aside0.mk (below_step bq hb)
            clear HO_0
            clear HO236
            clear BK199
            clear HR233
            clear HR246
            clear HK
            clear HB
            have HO_0 := n0_
            have HO236 := n1_
            have HO239 := n2_
            have BK199 := n3_
            have HR233 := n4_
            have HR246 := n5_
            have HK := n6_
            have HB := n7_
            clear n0_ n1_ n2_ n3_ n4_ n5_ n6_ n7_
            clear hb ho59
            refine hK.out _ _ ⟨q_z BK199.out 0, q_z BK199.out 1, q_z BK199.out 2, q_z BK199.out 3⟩ (fun hHeld => ?_)
            clear hK K
            refine norm_ (a' := ?_) ?_ ?_
            rotate_left
            ·show Act.put _ (some 40) _ = _
             simp only [Act.put, List.setIfInBounds_toArray, List.set_cons_zero, List.set_cons_succ, i64_w, i32_w]
             rfl
            exact norm_ (by simp only [putAll, Act.put, List.setIfInBounds_toArray, List.set_cons_zero, List.set_cons_succ]) (hCont (v228, v235, v238) _ ⟨hHeld, (by (with_reducible repeat (first | apply Kd.R_alloc | apply Kd.R_drewN | apply Kd.R_drew)); exact Kd.R_mono HO236.out (fun _ hk => ⟨hk.1.1, ⟨hk.2, ⟨hk.1.2.1, hk.1.2.2⟩⟩⟩)), (by (with_reducible repeat (first | apply Kd.R_alloc | apply Kd.R_drewN | apply Kd.R_drew)); exact Kd.R_mono HO239.out (fun _ hk => ⟨hk.1.1.1.1, ⟨hk.1.2, ⟨hk.1.1.2, hk.2⟩⟩⟩)), (by (with_reducible repeat (first | apply Kd.R_alloc | apply Kd.R_drewN | apply Kd.R_drew)); exact Kd.R_mono HO_0.out (fun _ hk => ⟨hk.1.1.1, ⟨hk.1.2, ⟨hk.2, hk.1.1.2⟩⟩⟩)), kq, (by repeat (first | (with_reducible first | exact HK.out | apply Kept.alloc | apply Kept.drewN | apply Kept.drew | refine Kept.setCell ?_ (.inr GW199.out) _) | exact HK.out)), bq⟩)
           ·skip
            refine Kd.R_lit_step k49 _ 49 ?hg (N := 40) ?hd (xs := ([(⟨a1_0, a1_1, a1_2, a1_3⟩ : S49)] : List (S49))) (inner := [.string a1_0, .int .i64 a1_1, .string a1_2, .bool a1_3]) (ok := fun _ => True) (okp := fun _ => True) ?hr ?hp (fun _ hk => hk) trivial (Below.refl _ _) (Nat.le_refl _) (by simp) ?_; (case hd => rfl); (case hg => rfl); (case hr => first | (go_simp; done) | (go_simp; rfl)); (case hp => exact (Reps.c4 (show Kd.M k49 _ _ _ (⟨a1_0, a1_1, a1_2, a1_3⟩ : S49) [.string a1_0, .int .i64 a1_1, .string a1_2, .bool a1_3] from (k49_mkM _ _ _ (⟨a1_0, a1_1, a1_2, a1_3⟩ : S49) )) (Reps.none _ _)))
            intro v238 w57 ho58 hb hg_ hnew_
            clear hg_ hnew_
            (first | rw [← Ny237.out] at ho58 | (simp only [Int.reduceToNat] at ho58; rw [← Ny237.out] at ho58))
            have n0_ := Aside0.mk (Kd.R_elder' (q_r (HO_0.out)) (Kd.R_base ho58) hb)
            have n1_ := Aside0.mk (Kd.R_elder' (q_r (HO229.out)) (Kd.R_base ho58) hb)
            have n2_ := Aside0.mk (Kd.R_lower (Kd.R_newB (Kd.R_new' (Kd.R_new' (Kd.R_newM (M := fun k_ => (P0_ k_ ∨ w.heap.size ≤ k_)) ho58 (by first | exact HK.out.1 | exact (show Kept w _ (fun k_ => P0_ k_) from by repeat (first | (with_reducible first | exact HK.out | apply Kept.alloc | apply Kept.drewN | apply Kept.drew | refine Kept.setCell ?_ (.inr GW199.out) _) | exact HK.out)).1) (fun k_ h_ => .inr h_)) (Kd.R_lt (q_r (HO_0.out)))) (Kd.R_lt (q_r (HO229.out)))) (q_b BK199.out)) (below_size bq))
            have n3_ := Aside0.mk (blk_below (q_b BK199.out) hb)
            have n4_ := Aside0.mk (Kd.C_below (by repeat (first | (with_reducible exact HR233.out) | (with_reducible refine Kd.C_alloc ?_ _) | (with_reducible refine Kd.C_drewN ?_ _) | (with_reducible refine Kd.C_drew ?_) | exact HR233.out)) hb)
            have n5_ := Aside0.mk (Kd.C_below (by repeat (first | (with_reducible exact HR246.out) | (with_reducible refine Kd.C_alloc ?_ _) | (with_reducible refine Kd.C_drewN ?_ _) | (with_reducible refine Kd.C_drew ?_) | exact HR246.out)) hb)
            have n6_ := Aside0.mk (Kept.below (S := (fun k_ => P0_ k_)) (by repeat (first | (with_reducible first | exact HK.out | apply Kept.alloc | apply Kept.drewN | apply Kept.drew | refine Kept.setCell ?_ (.inr GW199.out) _) | exact HK.out)) hb)
            have n7_ := Aside0.mk (below_step bq hb)
            clear HO_0
            clear HO229
            clear BK199
            clear HR233
            clear HR246
            clear HK
            clear HB
            have HO_0 := n0_
            have HO229 := n1_
            have HO239 := n2_
            have BK199 := n3_
            have HR233 := n4_
            have HR246 := n5_
            have HK := n6_
            have HB := n7_
            clear n0_ n1_ n2_ n3_ n4_ n5_ n6_ n7_
            clear hb ho58
            refine hK.out _ _ ⟨q_z BK199.out 0, q_z BK199.out 1, q_z BK199.out 2, q_z BK199.out 3⟩ (fun hHeld => ?_)
            clear hK K
            refine norm_ (a' := ?_) ?_ ?_
            rotate_left
            ·show Act.put _ (some 40) _ = _
             simp only [Act.put, List.setIfInBounds_toArray, List.set_cons_zero, List.set_cons_succ, i64_w, i32_w]
             rfl
            refine one_ (i := 4) (N := some 38) #[true, true, true, true, true, true, true, false, true, true, true, false, false] rfl rfl (one_of HT_.out (by kernel_rfl)) (by decide) (fun K hK => ?_)
            refine Kd.R_append_rows_step k49 (w0 := w0) w0.heap.size (by rfl) (.tmp 34) (.tmp 37) 25 49 (.agg #[(.string ⟨#[]⟩), (.int .i64 0), (.string ⟨#[]⟩), (.bool false)]) 48 rfl Try.underlying25 info49 rfl (by decide) (by omega) v228 y227 y230 _ _ _ (fun k_ => (P0_ k_ ∨ w.heap.size ≤ k_) ∧ some k_ ≠ (.slice Ao50 l0.length co50 : Value).ownBlock ∧ some k_ ≠ (v238 : Value).ownBlock ∧ k_ ≠ gb199) (fun _ => False) rfl rfl ?aO ?aR (fun _ _ h => h) (fun _ h => h.elim) ?aF ?aB ?aS ?aL ?_
            (case aR => repeat (first | exact (by repeat (first | (with_reducible exact HR233.out) | (with_reducible refine Kd.C_alloc ?_ _) | (with_reducible refine Kd.C_drewN ?_ _) | (with_reducible refine Kd.C_drew ?_) | exact HR233.out)) | (with_reducible refine Kd.C_alloc ?_ _) | (with_reducible refine Kd.C_drewN ?_ _) | (with_reducible refine Kd.C_drew ?_)))
            (case aB => exact bq)
            (case aF => exact (fun k_ hk => ⟨(.inr (Nat.le_trans (by first | exact HK.out.1 | exact (show Kept w _ (fun k_ => P0_ k_) from by repeat (first | (with_reducible first | exact HK.out | apply Kept.alloc | apply Kept.drewN | apply Kept.drew | refine Kept.setCell ?_ (.inr GW199.out) _) | exact HK.out)).1) hk)), Kd.fresh' (Kd.R_lt (q_r (HO_0.out))) k_ hk, Kd.fresh' (Kd.R_lt (q_r (HO239.out))) k_ hk, Kd.freshB (q_b BK199.out) k_ hk⟩))
            (case aO => exact (by (with_reducible repeat (first | apply Kd.R_alloc | apply Kd.R_drewN | apply Kd.R_drew)); exact Kd.R_mono HO229.out (fun _ hk => ⟨hk.1.1.1.1, ⟨hk.1.1.2, ⟨hk.2, hk.1.2⟩⟩⟩)))
            (case aS => exact (below_size bq))
            (case aL => have := LMc44.out; omega)
            intro v235 w59 ho hb hg hat
            rw [← Ny234.out] at ho
            have n0_ := Aside0.mk (Kd.R_after (ok := (fun k_ => (P0_ k_ ∨ w.heap.size ≤ k_) ∧ some k_ ≠ (v238 : Value).ownBlock ∧ k_ ≠ gb199)) (by (with_reducible repeat (first | apply Kd.R_alloc | apply Kd.R_drewN | apply Kd.R_drew)); exact Kd.R_mono HO_0.out (fun _ hk => ⟨⟨hk.1.1.1, ⟨hk.2, hk.1.1.2⟩⟩, hk.1.2⟩)) hg hat)
            have n1_ := Aside0.mk (blk_grown (q_b BK199.out) hg (Kd.R_away HO229.out (fun _ hk => hk.1.2)))
            have n2_ := Aside0.mk (Kd.R_after (ok := (fun k_ => (P0_ k_ ∨ w.heap.size ≤ k_) ∧ some k_ ≠ (.slice Ao50 l0.length co50 : Value).ownBlock ∧ k_ ≠ gb199)) (by (with_reducible repeat (first | apply Kd.R_alloc | apply Kd.R_drewN | apply Kd.R_drew)); exact Kd.R_mono HO239.out (fun _ hk => ⟨⟨hk.1.1.1.1, ⟨hk.1.1.2, hk.2⟩⟩, hk.1.2⟩)) hg hat)
            have n3_ := Aside0.mk (hb)
            have n4_ := Aside0.mk (Kept.of_grown (S := (fun k_ => P0_ k_)) hg (by repeat (first | (with_reducible first | exact HK.out | apply Kept.alloc | apply Kept.drewN | apply Kept.drew | refine Kept.setCell ?_ (.inr GW199.out) _) | exact HK.out)) (fun k_ e_ => (HO229.out.1 k_ e_).1.1.1.1))
            have n5_ := Aside0.mk ((show Kd.C k49 w59 Ao50 y230.length y230 from by rw [Ny230.out]; exact Kd.C_take (m := (x5_1 : Int).toNat) ((Kd.R_reads' (Kd.R_after (ok := (fun k_ => (P0_ k_ ∨ w.heap.size ≤ k_) ∧ some k_ ≠ (v238 : Value).ownBlock ∧ k_ ≠ gb199)) (by (with_reducible repeat (first | apply Kd.R_alloc | apply Kd.R_drewN | apply Kd.R_drew)); exact Kd.R_mono HO_0.out (fun _ hk => ⟨⟨hk.1.1.1, ⟨hk.2, hk.1.1.2⟩⟩, hk.1.2⟩)) hg hat)).2.2) KL53.out))
            have n6_ := Aside0.mk ((show Kd.C k49 w59 A54 y243.length y243 from by rw [Ny243.out, KA54.out]; exact Kd.C_drop (m := (x5_1 : Int).toNat) (c := co50) ((Kd.R_reads' (Kd.R_after (ok := (fun k_ => (P0_ k_ ∨ w.heap.size ≤ k_) ∧ some k_ ≠ (v238 : Value).ownBlock ∧ k_ ≠ gb199)) (by (with_reducible repeat (first | apply Kd.R_alloc | apply Kd.R_drewN | apply Kd.R_drew)); exact Kd.R_mono HO_0.out (fun _ hk => ⟨⟨hk.1.1.1, ⟨hk.2, hk.1.1.2⟩⟩, hk.1.2⟩)) hg hat)).2.2) KL54.out ((Kd.R_reads' (Kd.R_after (ok := (fun k_ => (P0_ k_ ∨ w.heap.size ≤ k_) ∧ some k_ ≠ (v238 : Value).ownBlock ∧ k_ ≠ gb199)) (by (with_reducible repeat (first | apply Kd.R_alloc | apply Kd.R_drewN | apply Kd.R_drew)); exact Kd.R_mono HO_0.out (fun _ hk => ⟨⟨hk.1.1.1, ⟨hk.2, hk.1.1.2⟩⟩, hk.1.2⟩)) hg hat)).2.1)))
            have n7_ := Aside0.mk (ho)
            clear HO_0
            clear BK199
            clear HO239
            clear HB
            clear HK
            clear HR233
            clear HR246
            clear HO229
            have HO_0 := n0_
            have BK199 := n1_
            have HO239 := n2_
            have HB := n3_
            have HK := n4_
            have HR233 := n5_
            have HR246 := n6_
            have HO236 := n7_
            clear n0_ n1_ n2_ n3_ n4_ n5_ n6_ n7_
            clear ho hb hg hat
            refine hK.out _ _ ⟨q_z BK199.out 0, q_z BK199.out 1, q_z BK199.out 2, q_z BK199.out 3⟩ (fun hHeld => ?_)
            clear hK K
            refine norm_ (a' := ?_) ?_ ?_
            rotate_left
            ·show Act.put _ (some 38) _ = _
             simp only [Act.put, List.setIfInBounds_toArray, List.set_cons_zero, List.set_cons_succ, i64_w, i32_w]
             rfl
            exact norm_ (by simp only [putAll, Act.put, List.setIfInBounds_toArray, List.set_cons_zero, List.set_cons_succ]) (hCont (v228, v235, v238) _ ⟨hHeld, (by (with_reducible repeat (first | apply Kd.R_alloc | apply Kd.R_drewN | apply Kd.R_drew)); exact Kd.R_mono HO236.out (fun _ hk => ⟨hk.1, ⟨hk.2.2.1, ⟨hk.2.1, hk.2.2.2⟩⟩⟩)), (by (with_reducible repeat (first | apply Kd.R_alloc | apply Kd.R_drewN | apply Kd.R_drew)); exact Kd.R_mono HO239.out (fun _ hk => ⟨hk.1.1, ⟨hk.2, ⟨hk.1.2.1, hk.1.2.2⟩⟩⟩)), (by (with_reducible repeat (first | apply Kd.R_alloc | apply Kd.R_drewN | apply Kd.R_drew)); exact Kd.R_mono HO_0.out (fun _ hk => ⟨hk.1.1, ⟨hk.2, ⟨hk.1.2.1, hk.1.2.2⟩⟩⟩)), kq, (by repeat (first | (with_reducible first | exact HK.out | apply Kept.alloc | apply Kept.drewN | apply Kept.drew | refine Kept.setCell ?_ (.inr GW199.out) _) | exact HK.out)), bq⟩)
          ·skip
           refine Kd.R_lit_step k49 _ 49 ?hg (N := 40) ?hd (xs := ([(⟨a1_0, a1_1, a1_2, a1_3⟩ : S49)] : List (S49))) (inner := [.string a1_0, .int .i64 a1_1, .string a1_2, .bool a1_3]) (ok := fun _ => True) (okp := fun _ => True) ?hr ?hp (fun _ hk => hk) trivial (Below.refl _ _) (Nat.le_refl _) (by simp) ?_; (case hd => rfl); (case hg => rfl); (case hr => first | (go_simp; done) | (go_simp; rfl)); (case hp => exact (Reps.c4 (show Kd.M k49 _ _ _ (⟨a1_0, a1_1, a1_2, a1_3⟩ : S49) [.string a1_0, .int .i64 a1_1, .string a1_2, .bool a1_3] from (k49_mkM _ _ _ (⟨a1_0, a1_1, a1_2, a1_3⟩ : S49) )) (Reps.none _ _)))
           intro v238 w55 ho56 hb hg_ hnew_
           clear hg_ hnew_
           (first | rw [← Ny237.out] at ho56 | (simp only [Int.reduceToNat] at ho56; rw [← Ny237.out] at ho56))
           have n0_ := Aside0.mk (Kd.R_elder' (q_r (HO_0.out)) (Kd.R_base ho56) hb)
           have n1_ := Aside0.mk (Kd.R_lower (Kd.R_newB (Kd.R_new' (Kd.R_newM (M := fun k_ => (P0_ k_ ∨ w.heap.size ≤ k_)) ho56 (by first | exact HK.out.1 | exact (show Kept w _ (fun k_ => P0_ k_) from by repeat (first | (with_reducible first | exact HK.out | apply Kept.alloc | apply Kept.drewN | apply Kept.drew | refine Kept.setCell ?_ (.inr GW199.out) _) | exact HK.out)).1) (fun k_ h_ => .inr h_)) (Kd.R_lt (q_r (HO_0.out)))) (q_b BK199.out)) (below_size bq))
           have n2_ := Aside0.mk (blk_below (q_b BK199.out) hb)
           have n3_ := Aside0.mk (Kd.C_below (by repeat (first | (with_reducible exact HR233.out) | (with_reducible refine Kd.C_alloc ?_ _) | (with_reducible refine Kd.C_drewN ?_ _) | (with_reducible refine Kd.C_drew ?_) | exact HR233.out)) hb)
           have n4_ := Aside0.mk (Kd.C_below (by repeat (first | (with_reducible exact HR246.out) | (with_reducible refine Kd.C_alloc ?_ _) | (with_reducible refine Kd.C_drewN ?_ _) | (with_reducible refine Kd.C_drew ?_) | exact HR246.out)) hb)
           have n5_ := Aside0.mk (Kept.below (S := (fun k_ => P0_ k_)) (by repeat (first | (with_reducible first | exact HK.out | apply Kept.alloc | apply Kept.drewN | apply Kept.drew | refine Kept.setCell ?_ (.inr GW199.out) _) | exact HK.out)) hb)
           have n6_ := Aside0.mk (below_step bq hb)
           clear HO_0
           clear BK199
           clear HR233
           clear HR246
           clear HK
           clear HB
           have HO_0 := n0_
           have HO239 := n1_
           have BK199 := n2_
           have HR233 := n3_
           have HR246 := n4_
           have HK := n5_
           have HB := n6_
           clear n0_ n1_ n2_ n3_ n4_ n5_ n6_
           clear hb ho56
           refine hK.out _ _ ⟨q_z BK199.out 0, q_z BK199.out 1, q_z BK199.out 2, q_z BK199.out 3⟩ (fun hHeld => ?_)
           clear hK K
           refine norm_ (a' := ?_) ?_ ?_
           rotate_left
           ·show Act.put _ (some 40) _ = _
            simp only [Act.put, List.setIfInBounds_toArray, List.set_cons_zero, List.set_cons_succ, i64_w, i32_w]
            rfl
           refine one_ (i := 0) (N := some 34) #[true, true, true, true, false, true, true, false, true, true, true, false, false] rfl rfl (one_of HT_.out (by kernel_rfl)) (by decide) (fun K hK => ?_)
           refine Kd.R_lit_step k49 _ 49 ?hg (N := 34) ?hd (xs := ([] : List (S49))) (inner := []) (ok := fun _ => True) (okp := fun _ => True) ?hr ?hp (fun _ hk => hk) trivial (Below.refl _ _) (Nat.le_refl _) (by simp) ?_; (case hd => rfl); (case hg => rfl); (case hr => first | (go_simp; done) | (go_simp; rfl)); (case hp => exact (Reps.none _ _))
           intro v228 w57 ho58 hb hg_ hnew_
           clear hg_ hnew_
           (first | rw [← Ny227.out] at ho58 | (simp only [Int.reduceToNat] at ho58; rw [← Ny227.out] at ho58))
           have n0_ := Aside0.mk (Kd.R_elder' (q_r (HO_0.out)) (Kd.R_base ho58) hb)
           have n1_ := Aside0.mk (Kd.R_elder' (q_r (HO239.out)) (Kd.R_base ho58) hb)
           have n2_ := Aside0.mk (Kd.R_lower (Kd.R_newB (Kd.R_new' (Kd.R_new' (Kd.R_newM (M := fun k_ => (P0_ k_ ∨ w.heap.size ≤ k_)) ho58 (by first | exact HK.out.1 | exact (show Kept w _ (fun k_ => P0_ k_) from by repeat (first | (with_reducible first | exact HK.out | apply Kept.alloc | apply Kept.drewN | apply Kept.drew | refine Kept.setCell ?_ (.inr GW199.out) _) | exact HK.out)).1) (fun k_ h_ => .inr h_)) (Kd.R_lt (q_r (HO_0.out)))) (Kd.R_lt (q_r (HO239.out)))) (q_b BK199.out)) (below_size bq))
           have n3_ := Aside0.mk (blk_below (q_b BK199.out) hb)
           have n4_ := Aside0.mk (Kd.C_below (by repeat (first | (with_reducible exact HR233.out) | (with_reducible refine Kd.C_alloc ?_ _) | (with_reducible refine Kd.C_drewN ?_ _) | (with_reducible refine Kd.C_drew ?_) | exact HR233.out)) hb)
           have n5_ := Aside0.mk (Kd.C_below (by repeat (first | (with_reducible exact HR246.out) | (with_reducible refine Kd.C_alloc ?_ _) | (with_reducible refine Kd.C_drewN ?_ _) | (with_reducible refine Kd.C_drew ?_) | exact HR246.out)) hb)
           have n6_ := Aside0.mk (Kept.below (S := (fun k_ => P0_ k_)) (by repeat (first | (with_reducible first | exact HK.out | apply Kept.alloc | apply Kept.drewN | apply Kept.drew | refine Kept.setCell ?_ (.inr GW199.out) _) | exact HK.out)) hb)
           have n7_ := Aside0.mk (below_step bq hb)
           clear HO_0
           clear HO239
           clear BK199
           clear HR233
           clear HR246
           clear HK
           clear HB
           have HO_0 := n0_
           have HO239 := n1_
           have HO229 := n2_
           have BK199 := n3_
           have HR233 := n4_
           have HR246 := n5_
           have HK := n6_
           have HB := n7_
           clear n0_ n1_ n2_ n3_ n4_ n5_ n6_ n7_
           clear hb ho58
           refine hK.out _ _ ⟨q_z BK199.out 0, q_z BK199.out 1, q_z BK199.out 2, q_z BK199.out 3⟩ (fun hHeld => ?_)
           clear hK K
           refine norm_ (a' := ?_) ?_ ?_
           rotate_left
           ·show Act.put _ (some 34) _ = _
            simp only [Act.put, List.setIfInBounds_toArray, List.set_cons_zero, List.set_cons_succ, i64_w, i32_w]
            rfl
           refine one_ (i := 4) (N := some 38) #[true, true, true, true, true, true, true, false, true, true, true, false, false] rfl rfl (one_of HT_.out (by kernel_rfl)) (by decide) (fun K hK => ?_)
           refine Kd.R_append_rows_step k49 (w0 := w0) w0.heap.size (by rfl) (.tmp 34) (.tmp 37) 25 49 (.agg #[(.string ⟨#[]⟩), (.int .i64 0), (.string ⟨#[]⟩), (.bool false)]) 48 rfl Try.underlying25 info49 rfl (by decide) (by omega) v228 y227 y230 _ _ _ (fun k_ => (P0_ k_ ∨ w.heap.size ≤ k_) ∧ some k_ ≠ (.slice Ao50 l0.length co50 : Value).ownBlock ∧ some k_ ≠ (v238 : Value).ownBlock ∧ k_ ≠ gb199) (fun _ => False) rfl rfl ?aO ?aR (fun _ _ h => h) (fun _ h => h.elim) ?aF ?aB ?aS ?aL ?_
           (case aR => repeat (first | exact (by repeat (first | (with_reducible exact HR233.out) | (with_reducible refine Kd.C_alloc ?_ _) | (with_reducible refine Kd.C_drewN ?_ _) | (with_reducible refine Kd.C_drew ?_) | exact HR233.out)) | (with_reducible refine Kd.C_alloc ?_ _) | (with_reducible refine Kd.C_drewN ?_ _) | (with_reducible refine Kd.C_drew ?_)))
           (case aB => exact bq)
           (case aF => exact (fun k_ hk => ⟨(.inr (Nat.le_trans (by first | exact HK.out.1 | exact (show Kept w _ (fun k_ => P0_ k_) from by repeat (first | (with_reducible first | exact HK.out | apply Kept.alloc | apply Kept.drewN | apply Kept.drew | refine Kept.setCell ?_ (.inr GW199.out) _) | exact HK.out)).1) hk)), Kd.fresh' (Kd.R_lt (q_r (HO_0.out))) k_ hk, Kd.fresh' (Kd.R_lt (q_r (HO239.out))) k_ hk, Kd.freshB (q_b BK199.out) k_ hk⟩))
           (case aO => exact (by (with_reducible repeat (first | apply Kd.R_alloc | apply Kd.R_drewN | apply Kd.R_drew)); exact Kd.R_mono HO229.out (fun _ hk => ⟨hk.1.1.1.1, ⟨hk.1.1.2, ⟨hk.1.2, hk.2⟩⟩⟩)))
           (case aS => exact (below_size bq))
           (case aL => have := LMc44.out; omega)
           intro v235 w59 ho hb hg hat
           rw [← Ny234.out] at ho
           have n0_ := Aside0.mk (Kd.R_after (ok := (fun k_ => (P0_ k_ ∨ w.heap.size ≤ k_) ∧ some k_ ≠ (v238 : Value).ownBlock ∧ k_ ≠ gb199)) (by (with_reducible repeat (first | apply Kd.R_alloc | apply Kd.R_drewN | apply Kd.R_drew)); exact Kd.R_mono HO_0.out (fun _ hk => ⟨⟨hk.1.1.1, ⟨hk.1.2, hk.1.1.2⟩⟩, hk.2⟩)) hg hat)
           have n1_ := Aside0.mk (blk_grown (q_b BK199.out) hg (Kd.R_away HO229.out (fun _ hk => hk.2)))
           have n2_ := Aside0.mk (Kd.R_after (ok := (fun k_ => (P0_ k_ ∨ w.heap.size ≤ k_) ∧ some k_ ≠ (.slice Ao50 l0.length co50 : Value).ownBlock ∧ k_ ≠ gb199)) (by (with_reducible repeat (first | apply Kd.R_alloc | apply Kd.R_drewN | apply Kd.R_drew)); exact Kd.R_mono HO239.out (fun _ hk => ⟨⟨hk.1.1.1.1, ⟨hk.1.1.2, hk.1.2⟩⟩, hk.2⟩)) hg hat)
           have n3_ := Aside0.mk (hb)
           have n4_ := Aside0.mk (Kept.of_grown (S := (fun k_ => P0_ k_)) hg (by repeat (first | (with_reducible first | exact HK.out | apply Kept.alloc | apply Kept.drewN | apply Kept.drew | refine Kept.setCell ?_ (.inr GW199.out) _) | exact HK.out)) (fun k_ e_ => (HO229.out.1 k_ e_).1.1.1.1))
           have n5_ := Aside0.mk ((show Kd.C k49 w59 Ao50 y230.length y230 from by rw [Ny230.out]; exact Kd.C_take (m := (x5_1 : Int).toNat) ((Kd.R_reads' (Kd.R_after (ok := (fun k_ => (P0_ k_ ∨ w.heap.size ≤ k_) ∧ some k_ ≠ (v238 : Value).ownBlock ∧ k_ ≠ gb199)) (by (with_reducible repeat (first | apply Kd.R_alloc | apply Kd.R_drewN | apply Kd.R_drew)); exact Kd.R_mono HO_0.out (fun _ hk => ⟨⟨hk.1.1.1, ⟨hk.1.2, hk.1.1.2⟩⟩, hk.2⟩)) hg hat)).2.2) KL53.out))
           have n6_ := Aside0.mk ((show Kd.C k49 w59 A54 y243.length y243 from by rw [Ny243.out, KA54.out]; exact Kd.C_drop (m := (x5_1 : Int).toNat) (c := co50) ((Kd.R_reads' (Kd.R_after (ok := (fun k_ => (P0_ k_ ∨ w.heap.size ≤ k_) ∧ some k_ ≠ (v238 : Value).ownBlock ∧ k_ ≠ gb199)) (by (with_reducible repeat (first | apply Kd.R_alloc | apply Kd.R_drewN | apply Kd.R_drew)); exact Kd.R_mono HO_0.out (fun _ hk => ⟨⟨hk.1.1.1, ⟨hk.1.2, hk.1.1.2⟩⟩, hk.2⟩)) hg hat)).2.2) KL54.out ((Kd.R_reads' (Kd.R_after (ok := (fun k_ => (P0_ k_ ∨ w.heap.size ≤ k_) ∧ some k_ ≠ (v238 : Value).ownBlock ∧ k_ ≠ gb199)) (by (with_reducible repeat (first | apply Kd.R_alloc | apply Kd.R_drewN | apply Kd.R_drew)); exact Kd.R_mono HO_0.out (fun _ hk => ⟨⟨hk.1.1.1, ⟨hk.1.2, hk.1.1.2⟩⟩, hk.2⟩)) hg hat)).2.1)))
           have n7_ := Aside0.mk (ho)
           clear HO_0
           clear BK199
           clear HO239
           clear HB
           clear HK
           clear HR233
           clear HR246
           clear HO229
           have HO_0 := n0_
           have BK199 := n1_
           have HO239 := n2_
           have HB := n3_
           have HK := n4_
           have HR233 := n5_
           have HR246 := n6_
           have HO236 := n7_
           clear n0_ n1_ n2_ n3_ n4_ n5_ n6_ n7_
           clear ho hb hg hat
           refine hK.out _ _ ⟨q_z BK199.out 0, q_z BK199.out 1, q_z BK199.out 2, q_z BK199.out 3⟩ (fun hHeld => ?_)
           clear hK K
           refine norm_ (a' := ?_) ?_ ?_
           rotate_left
           ·show Act.put _ (some 38) _ = _
            simp only [Act.put, List.setIfInBounds_toArray, List.set_cons_zero, List.set_cons_succ, i64_w, i32_w]
            rfl
           exact norm_ (by simp only [putAll, Act.put, List.setIfInBounds_toArray, List.set_cons_zero, List.set_cons_succ]) (hCont (v228, v235, v238) _ ⟨hHeld, (by (with_reducible repeat (first | apply Kd.R_alloc | apply Kd.R_drewN | apply Kd.R_drew)); exact Kd.R_mono HO236.out (fun _ hk => ⟨hk.1, ⟨hk.2.2.1, ⟨hk.2.1, hk.2.2.2⟩⟩⟩)), (by (with_reducible repeat (first | apply Kd.R_alloc | apply Kd.R_drewN | apply Kd.R_drew)); exact Kd.R_mono HO239.out (fun _ hk => ⟨hk.1.1, ⟨hk.2, ⟨hk.1.2.1, hk.1.2.2⟩⟩⟩)), (by (with_reducible repeat (first | apply Kd.R_alloc | apply Kd.R_drewN | apply Kd.R_drew)); exact Kd.R_mono HO_0.out (fun _ hk => ⟨hk.1.1, ⟨hk.2, ⟨hk.1.2.1, hk.1.2.2⟩⟩⟩)), kq, (by repeat (first | (with_reducible first | exact HK.out | apply Kept.alloc | apply Kept.drewN | apply Kept.drew | refine Kept.setCell ?_ (.inr GW199.out) _) | exact HK.out)), bq⟩)
         rintro ⟨v228, v235, v238⟩ w60 ⟨hS_, h0_, h1_, h2_, h3_, h4_, h5_⟩
         have n0_ : Aside0 (Kd.R k49 49 w60 w0.heap.size (fun k_ => (P0_ k_ ∨ w.heap.size ≤ k_) ∧ some k_ ≠ (v238 : Value).ownBlock ∧ some k_ ≠ (.slice Ao50 l0.length co50 : Value).ownBlock ∧ k_ ≠ gb199) v235 y234) := ⟨h0_⟩
         have n1_ : Aside0 (Kd.R k49 49 w60 w0.heap.size (fun k_ => (P0_ k_ ∨ w.heap.size ≤ k_) ∧ some k_ ≠ (v235 : Value).ownBlock ∧ some k_ ≠ (.slice Ao50 l0.length co50 : Value).ownBlock ∧ k_ ≠ gb199) v238 y237) := ⟨h1_⟩
         have n2_ : Aside0 (Kd.R k49 49 w60 w0.heap.size (fun k_ => (P0_ k_ ∨ w.heap.size ≤ k_) ∧ some k_ ≠ (v235 : Value).ownBlock ∧ some k_ ≠ (v238 : Value).ownBlock ∧ k_ ≠ gb199) (.slice Ao50 l0.length co50) l0) := ⟨h2_⟩
         have n3_ : Aside0 (w60.heap[gb199]? = some (.cells #[.string a1_0, .int .i64 a1_1, .string a1_2, .bool a1_3] 49 (0, 0))) := ⟨h3_⟩
         have n4_ : Aside0 (Kept w w60 (fun k_ => P0_ k_)) := ⟨h4_⟩
         have n5_ : Aside0 (Below w0.heap.size w0 w60) := ⟨h5_⟩
         clear HO_0
         clear BK199
         clear HK
         clear HB
         clear h0_ h1_ h2_ h3_ h4_ h5_
         have HO236 := n0_
         have HO239 := n1_
         have HO_0 := n2_
         have BK199 := n3_
         have HK := n4_
         have HB := n5_
         clear n0_ n1_ n2_ n3_ n4_ n5_
         have hHeld : w60.cell? ⟨gb199, 0, none⟩ = some (.string a1_0) ∧ w60.cell? ⟨gb199, 1, none⟩ = some (.int .i64 a1_1) ∧ w60.cell? ⟨gb199, 2, none⟩ = some (.string a1_2) ∧ w60.cell? ⟨gb199, 3, none⟩ = some (.bool a1_3) := hS_
         obtain ⟨Ao62, co62, eo62⟩ := Kd.R_slice HO239.out
         (first | subst eo62 | (injection eo62 with f1_ f2_ f3_; have f4_ := f1_.symm; have f5_ := f3_.symm; clear f1_ f2_ f3_; subst f4_; subst f5_))
         refine norm_ (a' := ?_) ?_ ?_
         rotate_left
         ·simp only [putAll, Act.put, List.setIfInBounds_toArray, List.set_cons_zero, List.set_cons_succ]
          rfl
         refine one_ (i := 7) (N := some 41) #[true, true, true, true, true, true, true, true, true, true, true, false, false] rfl rfl (one_of HT_.out (by kernel_rfl)) (by decide) (fun K hK => ?_)
         refine Kd.R_append_rows_step k49 (w0 := w0) w0.heap.size (by rfl) (.tmp 38) (.tmp 40) 25 49 (.agg #[(.string ⟨#[]⟩), (.int .i64 0), (.string ⟨#[]⟩), (.bool false)]) 48 rfl Try.underlying25 info49 rfl (by decide) (by omega) v235 y234 y237 _ _ _ (fun k_ => (P0_ k_ ∨ w.heap.size ≤ k_) ∧ some k_ ≠ (.slice Ao50 l0.length co50 : Value).ownBlock ∧ some k_ ≠ (.slice Ao62 y237.length co62 : Value).ownBlock ∧ k_ ≠ gb199) (fun _ => False) rfl rfl ?aO ?aR (fun _ _ h => h) (fun _ h => h.elim) ?aF ?aB ?aS ?aL ?_
         (case aR => repeat (first | exact (Kd.R_reads' HO239.out).2.2 | (with_reducible refine Kd.C_alloc ?_ _) | (with_reducible refine Kd.C_drewN ?_ _) | (with_reducible refine Kd.C_drew ?_)))
         (case aB => exact bq)
         (case aF => exact (fun k_ hk => ⟨(.inr (Nat.le_trans (by first | exact HK.out.1 | exact (show Kept w _ (fun k_ => P0_ k_) from by repeat (first | (with_reducible first | exact HK.out | apply Kept.alloc | apply Kept.drewN | apply Kept.drew | refine Kept.setCell ?_ (.inr GW199.out) _) | exact HK.out)).1) hk)), Kd.fresh' (Kd.R_lt (q_r (HO_0.out))) k_ hk, Kd.fresh' (Kd.R_lt (q_r (HO239.out))) k_ hk, Kd.freshB (q_b BK199.out) k_ hk⟩))
         (case aO => exact (by (with_reducible repeat (first | apply Kd.R_alloc | apply Kd.R_drewN | apply Kd.R_drew)); exact Kd.R_mono HO236.out (fun _ hk => ⟨hk.1, ⟨hk.2.2.1, ⟨hk.2.1, hk.2.2.2⟩⟩⟩)))
         (case aS => exact (below_size bq))
         (case aL => have := LMc45.out; omega)
         intro v241 w61 ho hb hg hat
         rw [← Ny240.out] at ho
         have n0_ := Aside0.mk (Kd.R_after (ok := (fun k_ => (P0_ k_ ∨ w.heap.size ≤ k_) ∧ some k_ ≠ (.slice Ao62 y237.length co62 : Value).ownBlock ∧ k_ ≠ gb199)) (by (with_reducible repeat (first | apply Kd.R_alloc | apply Kd.R_drewN | apply Kd.R_drew)); exact Kd.R_mono HO_0.out (fun _ hk => ⟨⟨hk.1, ⟨hk.2.2.1, hk.2.2.2⟩⟩, hk.2.1⟩)) hg hat)
         have n1_ := Aside0.mk (blk_grown (q_b BK199.out) hg (Kd.R_away HO236.out (fun _ hk => hk.2.2.2)))
         have n2_ := Aside0.mk (Kd.R_after (ok := (fun k_ => (P0_ k_ ∨ w.heap.size ≤ k_) ∧ some k_ ≠ (.slice Ao50 l0.length co50 : Value).ownBlock ∧ k_ ≠ gb199)) (by (with_reducible repeat (first | apply Kd.R_alloc | apply Kd.R_drewN | apply Kd.R_drew)); exact Kd.R_mono HO239.out (fun _ hk => ⟨⟨hk.1, ⟨hk.2.2.1, hk.2.2.2⟩⟩, hk.2.1⟩)) hg hat)
         have n3_ := Aside0.mk (hb)
         have n4_ := Aside0.mk (Kept.of_grown (S := (fun k_ => P0_ k_)) hg (by repeat (first | (with_reducible first | exact HK.out | apply Kept.alloc | apply Kept.drewN | apply Kept.drew | refine Kept.setCell ?_ (.inr GW199.out) _) | exact HK.out)) (fun k_ e_ => (HO236.out.1 k_ e_).1))
         have n5_ := Aside0.mk (ho)
         clear HO_0
         clear BK199
         clear HO239
         clear HB
         clear HK
         clear HO236
         have HO_0 := n0_
         have BK199 := n1_
         have HO239 := n2_
         have HB := n3_
         have HK := n4_
         have HO242 := n5_
         clear n0_ n1_ n2_ n3_ n4_ n5_
         clear ho hb hg hat
         refine hK.out _ _ ⟨q_z BK199.out 0, q_z BK199.out 1, q_z BK199.out 2, q_z BK199.out 3⟩ (fun hHeld => ?_)
         clear hK K
         refine norm_ (a' := ?_) ?_ ?_
         rotate_left
         ·show Act.put _ (some 41) _ = _
          simp only [Act.put, List.setIfInBounds_toArray, List.set_cons_zero, List.set_cons_succ, i64_w, i32_w]
          rfl
         refine one_ (i := 11) (N := some 45) #[true, true, true, true, true, true, true, true, true, true, true, true, false] rfl rfl (one_of HT_.out (by kernel_rfl)) (by decide) (fun K hK => ?_)
         refine Kd.R_append_rows_step k49 (w0 := w0) w0.heap.size (by rfl) (.tmp 41) (.tmp 44) 25 49 (.agg #[(.string ⟨#[]⟩), (.int .i64 0), (.string ⟨#[]⟩), (.bool false)]) 48 rfl Try.underlying25 info49 rfl (by decide) (by omega) v241 y240 y243 _ _ _ (fun k_ => (P0_ k_ ∨ w.heap.size ≤ k_) ∧ some k_ ≠ (.slice Ao50 l0.length co50 : Value).ownBlock ∧ some k_ ≠ (.slice Ao62 y237.length co62 : Value).ownBlock ∧ k_ ≠ gb199) (fun _ => False) rfl rfl ?aO ?aR (fun _ _ h => h) (fun _ h => h.elim) ?aF ?aB ?aS ?aL ?_
         (case aR => repeat (first | exact (by have hr_ := Kd.C_drop (m := (x5_1 : Int).toNat) (c := co50) (Kd.R_reads' HO_0.out).2.2 KL54.out (Kd.R_reads' HO_0.out).2.1; rw [show (l0).drop (x5_1 : Int).toNat = y243 from Ny243.out.symm] at hr_; rw [KA54.out]; exact hr_) | (with_reducible refine Kd.C_alloc ?_ _) | (with_reducible refine Kd.C_drewN ?_ _) | (with_reducible refine Kd.C_drew ?_)))
         (case aB => exact bq)
         (case aF => exact (fun k_ hk => ⟨(.inr (Nat.le_trans (by first | exact HK.out.1 | exact (show Kept w _ (fun k_ => P0_ k_) from by repeat (first | (with_reducible first | exact HK.out | apply Kept.alloc | apply Kept.drewN | apply Kept.drew | refine Kept.setCell ?_ (.inr GW199.out) _) | exact HK.out)).1) hk)), Kd.fresh' (Kd.R_lt (q_r (HO_0.out))) k_ hk, Kd.fresh' (Kd.R_lt (q_r (HO239.out))) k_ hk, Kd.freshB (q_b BK199.out) k_ hk⟩))
         (case aO => exact (q_r (HO242.out)))
         (case aS => exact (below_size bq))
         (case aL => have := LMc48.out; omega)
         intro v248 w63 ho hb hg hat
         rw [← Ny247.out] at ho
         have n0_ := Aside0.mk (Kd.R_after (ok := (fun k_ => (P0_ k_ ∨ w.heap.size ≤ k_) ∧ some k_ ≠ (.slice Ao62 y237.length co62 : Value).ownBlock ∧ k_ ≠ gb199)) (q_r (HO_0.out)) hg hat)
         have n1_ := Aside0.mk (blk_grown (q_b BK199.out) hg (Kd.R_away HO242.out (fun _ hk => hk.2.2.2)))
         have n2_ := Aside0.mk (Kd.R_after (ok := (fun k_ => (P0_ k_ ∨ w.heap.size ≤ k_) ∧ some k_ ≠ (.slice Ao50 l0.length co50 : Value).ownBlock ∧ k_ ≠ gb199)) (q_r (HO239.out)) hg hat)
         have n3_ := Aside0.mk (hb)
         have n4_ := Aside0.mk (Kept.of_grown (S := (fun k_ => P0_ k_)) hg (by repeat (first | (with_reducible first | exact HK.out | apply Kept.alloc | apply Kept.drewN | apply Kept.drew | refine Kept.setCell ?_ (.inr GW199.out) _) | exact HK.out)) (fun k_ e_ => (HO242.out.1 k_ e_).1))
         have n5_ := Aside0.mk (ho)
         clear HO_0
         clear BK199
         clear HO239
         clear HB
         clear HK
         clear HO242
         have HO_0 := n0_
         have BK199 := n1_
         have HO239 := n2_
         have HB := n3_
         have HK := n4_
         have HO249 := n5_
         clear n0_ n1_ n2_ n3_ n4_ n5_
         clear ho hb hg hat
         refine hK.out _ _ ⟨q_z BK199.out 0, q_z BK199.out 1, q_z BK199.out 2, q_z BK199.out 3⟩ (fun hHeld => ?_)
         clear hK K
         refine norm_ (a' := ?_) ?_ ?_
         rotate_left
         ·show Act.put _ (some 45) _ = _
          simp only [Act.put, List.setIfInBounds_toArray, List.set_cons_zero, List.set_cons_succ, i64_w, i32_w]
          rfl
         refine q_p 12 (some 4) #[true, true, true, true, true, true, true, true, true, true, true, true, true] HT_.out ?_
         refine done_ (done_of HT_.out (by kernel_rfl)) ?_
         try go_wp2
         go_ret
         exact ⟨_, q_e, q_r (Kd.R_mono HO249.out (fun _ hk => hk.1)), bq, by repeat (first | (with_reducible first | exact HK.out | apply Kept.alloc | apply Kept.drewN | apply Kept.drew | refine Kept.setCell ?_ (.inr GW199.out) _) | exact HK.out)⟩
        ·rw [if_neg c48] at H
         exact absurd H (by simp)
       ·rw [if_neg c45] at H
        exact absurd H (by simp)
      ·rw [if_neg c44] at H
       exact absurd H (by simp)
     ·rw [if_neg c43] at H
      exact absurd H (by simp)
    ·rw [if_neg c42] at H
     exact absurd H (by simp)

end Go.Proofs.Ytdhlcnlcpjlliaa.PFnScans
