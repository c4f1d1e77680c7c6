/- Functions that a law reaches, as plain Lean functions, with the proof that the machine comes to their answers. No conditions. -/
import Derived.Test.YtanegggacfmkcaaPFnExactSettleAllx0
import Derived.Test.YtanegggacfmkcaaPFnExactSettleAllx17
namespace Go.Proofs.Ytanegggacfmkcaa.PFnExactSettleAll
open Go.RowKit Go.Proofs.YtanegggacfmkcaaW.PrintWords Go.Proofs.YtanegggacfmkcaaW.PrintLast Go.Proofs.YtanegggacfmkcaaW.PrintMore
attribute [local go_sem] max2_int min2_int max_two min_two max_three min_three max_four min_four   -- for this text's walks alone
set_option linter.unusedVariables false
set_option linter.unusedSimpArgs false
set_option maxHeartbeats 8000000
set_option maxRecDepth 100000

/-! ### laws_markLegS: function 78 -/
def laws_markLegS.l0 : Nat → List (S86) → Int → Int → Option (Int × (List (S86)))
  | 0, _, _, _ => none
  | k + 1, x0, x1, x5 => if x5 < (x0.length : Int) then (if 0 ≤ x5 then ((some (x0.set (x5 : Int).toNat (⟨x1, (rd_T86 x0 x5).f1, (rd_T86 x0 x5).f2, (rd_T86 x0 x5).f3⟩ : S86) : List (S86))).bind fun y456 => ((some (y456.set (x5 : Int).toNat (⟨(rd_T86 y456 x5).f0, wrap64 (x1 + 1), (rd_T86 y456 x5).f2, (rd_T86 y456 x5).f3⟩ : S86) : List (S86))).bind fun y457 => ((some (y457.set (x5 : Int).toNat (⟨(rd_T86 y457 x5).f0, (rd_T86 y457 x5).f1, wrap64 ((wrap64 (x1 + 1)) + 1), (rd_T86 y457 x5).f3⟩ : S86) : List (S86))).bind fun y458 => (laws_markLegS.l0 k (y458.set (x5 : Int).toNat (⟨(rd_T86 y458 x5).f0, (rd_T86 y458 x5).f1, (rd_T86 y458 x5).f2, wrap64 ((wrap64 ((wrap64 (x1 + 1)) + 1)) + 1)⟩ : S86)) (wrap64 ((wrap64 ((wrap64 ((wrap64 (x1 + 1)) + 1)) + 1)) + 1)) (wrap64 (x5 + 1)))))) else (none)) else (some (x1, x0))
def laws_markLegS.f (k : Nat) (l0 : List (S86)) (a1 : Int) : Option (Int × (List (S86))) := laws_markLegS.l0 k l0 a1 0
theorem laws_markLegS.calls (k : Nat) (P0_ : Nat → Prop) (u9000_ : Value) (l0 : List (S86)) (a1 : Int) (r1 : Int) (r2 : List (S86)) (w0 w : World) (hB : Below w0.heap.size w0 w) (ho0 : Kd.R k86 86 w w0.heap.size P0_ u9000_ l0) (h : laws_markLegS.f k l0 a1 = some (r1, r2)) :
  Calls Try.prog 78 #[u9000_, .int .i64 a1] w fun e w' => e = .returned (.int .i64 r1) ∧ Kd.R k86 86 w' w0.heap.size (fun k_ => (P0_ k_ ∨ w.heap.size ≤ k_)) u9000_ r2 ∧ Below w0.heap.size w0 w' ∧ Kept w w' (fun k_ => P0_ k_) := by
 have HO0 := am (show Kd.R k86 86 w w0.heap.size (fun k_ => (P0_ k_ ∨ w.heap.size ≤ k_)) u9000_ l0 from Kd.R_mono ho0 (fun k_ hk => (.inl hk)))
 have HK := am (Kept.refl w (fun k_ => P0_ k_))
 have HW0 := am hB.size
 have HB := am hB
 clear hB
 have H : (laws_markLegS.l0 k l0 a1 0) = some (r1, r2) := h
 clear h
 have H' := am H
 clear H
 go_enter Try.func78, Try.ntmps78
 go_wp2
 go_loopg [1, 5] k (fun kq v1 v5 w' => ∃ (x0_1 : List (S86)) (x1_1 : Int) (x5_1 : Int), v1 = .int .i64 x1_1 ∧ v5 = .int .i64 x5_1 ∧ Aside0 (laws_markLegS.l0 kq x0_1 x1_1 x5_1 = some (r1, r2)) ∧ Aside0 (kq ≤ k) ∧ Aside0 (Kd.R k86 86 w' w0.heap.size (fun k_ => (P0_ k_ ∨ w.heap.size ≤ k_)) u9000_ x0_1) ∧ Aside0 (Kept w w' (fun k_ => P0_ k_)) ∧ Aside0 (Below w0.heap.size w0 w'))
 case atStart => exact ⟨(l0), (a1), (0), q_i, q_i, H', ⟨Nat.le_refl _⟩, ⟨q_r (HO0.out)⟩, ⟨q_k⟩, ⟨bq⟩⟩
 case round =>
  clear H'
  (try clear p2)
  obtain ⟨x0_1, x1_1, x5_1, rfl, rfl, HA, HK1, HO_0, HK, HB⟩ := hrel
  cases gk with
  | zero => exact absurd HA.out (by simp [laws_markLegS.l0])
  | succ k1 =>
   have H := HA.out
   clear HA
   simp only [laws_markLegS.l0] at H
   by_cases c3 : x5_1 < (x0_1.length : Int)
   ·rw [if_pos c3] at H
    have c3b0 := decide_eq_true c3
    clear c3
    by_cases c4 : 0 ≤ x5_1
    ·rw [if_pos c4] at H
     have c4b0 := decide_eq_true c4
     clear c4
     obtain ⟨y456, hy456⟩ : ∃ y_ : List (S86), y_ = (x0_1.set (x5_1 : Int).toNat (⟨x1_1, (rd_T86 x0_1 x5_1).f1, (rd_T86 x0_1 x5_1).f2, (rd_T86 x0_1 x5_1).f3⟩ : S86)) := ⟨_, rfl⟩
     replace H : ((some (y456.set (x5_1 : Int).toNat (⟨(rd_T86 y456 x5_1).f0, wrap64 (x1_1 + 1), (rd_T86 y456 x5_1).f2, (rd_T86 y456 x5_1).f3⟩ : S86) : List (S86))).bind fun y457 => ((some (y457.set (x5_1 : Int).toNat (⟨(rd_T86 y457 x5_1).f0, (rd_T86 y457 x5_1).f1, wrap64 ((wrap64 (x1_1 + 1)) + 1), (rd_T86 y457 x5_1).f3⟩ : S86) : List (S86))).bind fun y458 => (laws_markLegS.l0 k1 (y458.set (x5_1 : Int).toNat (⟨(rd_T86 y458 x5_1).f0, (rd_T86 y458 x5_1).f1, (rd_T86 y458 x5_1).f2, wrap64 ((wrap64 ((wrap64 (x1_1 + 1)) + 1)) + 1)⟩ : S86)) (wrap64 ((wrap64 ((wrap64 ((wrap64 (x1_1 + 1)) + 1)) + 1)) + 1)) (wrap64 (x5_1 + 1))))) = some (r1, r2) := q_h hy456 H
     have Ny456 := am hy456
     clear hy456
     obtain ⟨y457, hy457⟩ : ∃ y_ : List (S86), y_ = (y456.set (x5_1 : Int).toNat (⟨(rd_T86 y456 x5_1).f0, wrap64 (x1_1 + 1), (rd_T86 y456 x5_1).f2, (rd_T86 y456 x5_1).f3⟩ : S86)) := ⟨_, rfl⟩
     replace H : ((some (y457.set (x5_1 : Int).toNat (⟨(rd_T86 y457 x5_1).f0, (rd_T86 y457 x5_1).f1, wrap64 ((wrap64 (x1_1 + 1)) + 1), (rd_T86 y457 x5_1).f3⟩ : S86) : List (S86))).bind fun y458 => (laws_markLegS.l0 k1 (y458.set (x5_1 : Int).toNat (⟨(rd_T86 y458 x5_1).f0, (rd_T86 y458 x5_1).f1, (rd_T86 y458 x5_1).f2, wrap64 ((wrap64 ((wrap64 (x1_1 + 1)) + 1)) + 1)⟩ : S86)) (wrap64 ((wrap64 ((wrap64 ((wrap64 (x1_1 + 1)) + 1)) + 1)) + 1)) (wrap64 (x5_1 + 1)))) = some (r1, r2) := q_h hy457 H
     have Ny457 := am hy457
     clear hy457
     obtain ⟨y458, hy458⟩ : ∃ y_ : List (S86), y_ = (y457.set (x5_1 : Int).toNat (⟨(rd_T86 y457 x5_1).f0, (rd_T86 y457 x5_1).f1, wrap64 ((wrap64 (x1_1 + 1)) + 1), (rd_T86 y457 x5_1).f3⟩ : S86)) := ⟨_, rfl⟩
     replace H : (laws_markLegS.l0 k1 (y458.set (x5_1 : Int).toNat (⟨(rd_T86 y458 x5_1).f0, (rd_T86 y458 x5_1).f1, (rd_T86 y458 x5_1).f2, wrap64 ((wrap64 ((wrap64 (x1_1 + 1)) + 1)) + 1)⟩ : S86)) (wrap64 ((wrap64 ((wrap64 ((wrap64 (x1_1 + 1)) + 1)) + 1)) + 1)) (wrap64 (x5_1 + 1))) = some (r1, r2) := q_h hy458 H
     have Ny458 := am hy458
     clear hy458
     obtain ⟨y459, hy459⟩ : ∃ y_ : List (S86), y_ = (y458.set (x5_1 : Int).toNat (⟨(rd_T86 y458 x5_1).f0, (rd_T86 y458 x5_1).f1, (rd_T86 y458 x5_1).f2, wrap64 ((wrap64 ((wrap64 (x1_1 + 1)) + 1)) + 1)⟩ : S86)) := ⟨_, rfl⟩
     replace H : (laws_markLegS.l0 k1 y459 (wrap64 ((wrap64 ((wrap64 ((wrap64 (x1_1 + 1)) + 1)) + 1)) + 1)) (wrap64 (x5_1 + 1))) = some (r1, r2) := q_h hy459 H
     have Ny459 := am hy459
     clear hy459
     have H' := am H
     clear H
     obtain ⟨Ao9, co9, eo9⟩ := Kd.R_slice HO_0.out
     subst eo9
     have p5 : 0 ≤ (x5_1 : Int) := q_d
     have q5 : (x5_1 : Int) < ((x0_1.length : Int) : Int) := q_d
     obtain ⟨go5, co5, eo5, gb5, gl5, cl5, HG5⟩ := Kd.R_form HO_0.out (by omega)
     (first | cases eo5 | (injection eo5 with ea_ en_ ec_; (first | subst ea_ | (injection ea_ with ea_; subst ea_)); subst ec_; clear en_))
     have GB5 := am gb5
     have GG5 := am HG5
     clear gb5 gl5 HG5
     have HMgo5 := am (show (P0_ go5 ∨ w.heap.size ≤ go5) from (HO_0.out.1 _ rfl))
     obtain ⟨ce5, hcl5, hM5, hcc5, hfr5⟩ := Kd.R_elem HO_0.out z86 (x5_1 : Int) p5 q5
     obtain rfl := k86_openM hM5
     have hx5_0 : wr.cell? ⟨go5, (x5_1 : Int).toNat * 4, none⟩ = some (.int .i64 ((rd_T86 x0_1 x5_1).f0)) := hcc5 0 _ rfl
     have hx5_1 : wr.cell? ⟨go5, (x5_1 : Int).toNat * 4 + 1, none⟩ = some (.int .i64 ((rd_T86 x0_1 x5_1).f1)) := hcc5 1 _ rfl
     have hx5_2 : wr.cell? ⟨go5, (x5_1 : Int).toNat * 4 + 2, none⟩ = some (.int .i64 ((rd_T86 x0_1 x5_1).f2)) := hcc5 2 _ rfl
     have hx5_3 : wr.cell? ⟨go5, (x5_1 : Int).toNat * 4 + 3, none⟩ = some (.int .i64 ((rd_T86 x0_1 x5_1).f3)) := hcc5 3 _ rfl
     have hf5_0 : wr.frozen? ⟨go5, (x5_1 : Int).toNat * 4, none⟩ = false := hfr5 0
     have hf5_1 : wr.frozen? ⟨go5, (x5_1 : Int).toNat * 4 + 1, none⟩ = false := hfr5 1
     have hf5_2 : wr.frozen? ⟨go5, (x5_1 : Int).toNat * 4 + 2, none⟩ = false := hfr5 2
     have hf5_3 : wr.frozen? ⟨go5, (x5_1 : Int).toNat * 4 + 3, none⟩ = false := hfr5 3
     clear hcl5 hcc5 hfr5; (try clear hM5)
     replace p5 := eq_true p5
     replace q5 := eq_true q5
     have HX10 := am (show Kd.R k86 86 wr w0.heap.size (fun k_ => (P0_ k_ ∨ w.heap.size ≤ k_)) (.slice (some ⟨go5, 0, none⟩) x0_1.length co9) x0_1 from (q_r (HO_0.out)))
     obtain ⟨ce10, hcl10, hM10, hcc10, hfr10⟩ := Kd.R_elem HX10.out z86 (x5_1 : Int) q_d (by have h_ : (x5_1 : Int) < ((x0_1.length : Int) : Int) := q_d; first | exact h_ | (have e_ := (Kd.R_reads' HO_0.out).1; omega) | simpa using h_)
     obtain rfl := k86_openM hM10
     have HP10 := Kd.R_seg HX10.out (x5_1 : Int) q_d (by have h_ : (x5_1 : Int) < ((x0_1.length : Int) : Int) := q_d; first | exact h_ | (have e_ := (Kd.R_reads' HO_0.out).1; omega) | simpa using h_) (seg := [.int .i64 x1_1]) (j := 0) hcl10 hcc10 (show 1 ≤ 4 from by decide) (x' := (⟨x1_1, (rd_T86 x0_1 x5_1).f1, (rd_T86 x0_1 x5_1).f2, (rd_T86 x0_1 x5_1).f3⟩ : S86)) (k86_mkM _ _ _ (⟨x1_1, (rd_T86 x0_1 x5_1).f1, (rd_T86 x0_1 x5_1).f2, (rd_T86 x0_1 x5_1).f3⟩ : S86) ) (fun _ hk => hk)
     have hx10_0 := hcc10 0 _ rfl
     (try simp only [show (k86).sz = 4 from rfl, Nat.mul_one, Nat.add_zero] at hx10_0)
     have hf10_0 := hfr10 0
     (try simp only [show (k86).sz = 4 from rfl, Nat.mul_one, Nat.add_zero] at hf10_0)
     clear hcl10 hcc10 hfr10; (try clear hM10)
     go_wp2_with (first | ((with_reducible refine gate_store (t := 2) (p := 16) rfl ?_); refine store_event (t := 2) (p := 16) (v := ?vo_w11) (w1 := (wr.setCell ⟨go5, (x5_1 : Int).toNat * 4, none⟩ (.int .i64 x1_1))) ?hg ?ho ?hn ?hr ?_; (case ho => rfl); (case hg => rfl); (case hn => rfl); (case hr => first | (go_simp; done) | (go_simp; rfl)); intro w11 hw; have hg : wr.grownBy w11 (some go5) := (by rw [hw]; exact HP10.2); have hp_ : Kd.R k86 86 w11 w0.heap.size (fun k_ => (P0_ k_ ∨ w.heap.size ≤ k_)) (.slice (some ⟨go5, 0, none⟩) x0_1.length co9) y456 := (by rw [hw, Ny456.out]; exact HP10.1); clear HP10; have n0_ := am (hp_); have n1_ := am ((by rw [hw]; exact below_set (HB.out) GB5.out : Below w0.heap.size w0 w11)); have n2_ := am (Kept.of_grown (S := (fun k_ => P0_ k_)) hg q_k (fun k_ e_ => (HO_0.out.1 k_ e_))); revert n0_ n1_ n2_; clear HO_0 HB HK; intro HO_0 HB HK; clear hg hw hp_; have p6 : 0 ≤ (x5_1 : Int) := q_d; have q6 : (x5_1 : Int) < ((x0_1.length : Int) : Int) := q_d; obtain ⟨ce6, hcl6, hM6, hcc6, hfr6⟩ := Kd.R_elem HO_0.out z86 (x5_1 : Int) p6 q6; obtain rfl := k86_openM hM6; have hx6_0 : w11.cell? ⟨go5, (x5_1 : Int).toNat * 4, none⟩ = some (.int .i64 ((rd_T86 y456 x5_1).f0)) := hcc6 0 _ rfl; have hx6_1 : w11.cell? ⟨go5, (x5_1 : Int).toNat * 4 + 1, none⟩ = some (.int .i64 ((rd_T86 y456 x5_1).f1)) := hcc6 1 _ rfl; have hx6_2 : w11.cell? ⟨go5, (x5_1 : Int).toNat * 4 + 2, none⟩ = some (.int .i64 ((rd_T86 y456 x5_1).f2)) := hcc6 2 _ rfl; have hx6_3 : w11.cell? ⟨go5, (x5_1 : Int).toNat * 4 + 3, none⟩ = some (.int .i64 ((rd_T86 y456 x5_1).f3)) := hcc6 3 _ rfl; have hf6_0 : w11.frozen? ⟨go5, (x5_1 : Int).toNat * 4, none⟩ = false := hfr6 0; have hf6_1 : w11.frozen? ⟨go5, (x5_1 : Int).toNat * 4 + 1, none⟩ = false := hfr6 1; have hf6_2 : w11.frozen? ⟨go5, (x5_1 : Int).toNat * 4 + 2, none⟩ = false := hfr6 2; have hf6_3 : w11.frozen? ⟨go5, (x5_1 : Int).toNat * 4 + 3, none⟩ = false := hfr6 3; clear hcl6 hcc6 hfr6; (try clear hM6); replace p6 := eq_true p6; replace q6 := eq_true q6; have HX12 := am (show Kd.R k86 86 w11 w0.heap.size (fun k_ => (P0_ k_ ∨ w.heap.size ≤ k_)) (.slice (some ⟨go5, 0, none⟩) x0_1.length co9) y456 from (q_r (HO_0.out))); obtain ⟨ce12, hcl12, hM12, hcc12, hfr12⟩ := Kd.R_elem HX12.out z86 (x5_1 : Int) q_d (by have h_ : (x5_1 : Int) < ((x0_1.length : Int) : Int) := q_d; first | exact h_ | (have e_ := (Kd.R_reads' HO_0.out).1; omega) | simpa using h_); obtain rfl := k86_openM hM12; have HP12 := Kd.R_seg HX12.out (x5_1 : Int) q_d (by have h_ : (x5_1 : Int) < ((x0_1.length : Int) : Int) := q_d; first | exact h_ | (have e_ := (Kd.R_reads' HO_0.out).1; omega) | simpa using h_) (seg := [.int .i64 (wrap64 (x1_1 + 1))]) (j := 1) hcl12 hcc12 (show 2 ≤ 4 from by decide) (x' := (⟨(rd_T86 y456 x5_1).f0, wrap64 (x1_1 + 1), (rd_T86 y456 x5_1).f2, (rd_T86 y456 x5_1).f3⟩ : S86)) (k86_mkM _ _ _ (⟨(rd_T86 y456 x5_1).f0, wrap64 (x1_1 + 1), (rd_T86 y456 x5_1).f2, (rd_T86 y456 x5_1).f3⟩ : S86) ) (fun _ hk => hk); have hx12_1 := hcc12 1 _ rfl; (try simp only [show (k86).sz = 4 from rfl, Nat.mul_one, Nat.add_zero] at hx12_1); have hf12_1 := hfr12 1; (try simp only [show (k86).sz = 4 from rfl, Nat.mul_one, Nat.add_zero] at hf12_1); clear hcl12 hcc12 hfr12; (try clear hM12)) | ((with_reducible refine gate_store (t := 2) (p := 23) rfl ?_); refine store_event (t := 2) (p := 23) (v := ?vo_w13) (w1 := (w11.setCell ⟨go5, (x5_1 : Int).toNat * 4 + 1, none⟩ (.int .i64 (wrap64 (x1_1 + 1))))) ?hg ?ho ?hn ?hr ?_; (case ho => rfl); (case hg => rfl); (case hn => rfl); (case hr => first | (go_simp; done) | (go_simp; rfl)); intro w13 hw; have hg : w11.grownBy w13 (some go5) := (by rw [hw]; exact HP12.2); have hp_ : Kd.R k86 86 w13 w0.heap.size (fun k_ => (P0_ k_ ∨ w.heap.size ≤ k_)) (.slice (some ⟨go5, 0, none⟩) x0_1.length co9) y457 := (by rw [hw, Ny457.out]; exact HP12.1); clear HP12; have n0_ := am (hp_); have n1_ := am ((by rw [hw]; exact below_set (HB.out) GB5.out : Below w0.heap.size w0 w13)); have n2_ := am (Kept.of_grown (S := (fun k_ => P0_ k_)) hg q_k (fun k_ e_ => (HO_0.out.1 k_ e_))); revert n0_ n1_ n2_; clear HO_0 HB HK; intro HO_0 HB HK; clear hg hw hp_; have p7 : 0 ≤ (x5_1 : Int) := q_d; have q7 : (x5_1 : Int) < ((x0_1.length : Int) : Int) := q_d; obtain ⟨ce7, hcl7, hM7, hcc7, hfr7⟩ := Kd.R_elem HO_0.out z86 (x5_1 : Int) p7 q7; obtain rfl := k86_openM hM7; have hx7_0 : w13.cell? ⟨go5, (x5_1 : Int).toNat * 4, none⟩ = some (.int .i64 ((rd_T86 y457 x5_1).f0)) := hcc7 0 _ rfl; have hx7_1 : w13.cell? ⟨go5, (x5_1 : Int).toNat * 4 + 1, none⟩ = some (.int .i64 ((rd_T86 y457 x5_1).f1)) := hcc7 1 _ rfl; have hx7_2 : w13.cell? ⟨go5, (x5_1 : Int).toNat * 4 + 2, none⟩ = some (.int .i64 ((rd_T86 y457 x5_1).f2)) := hcc7 2 _ rfl; have hx7_3 : w13.cell? ⟨go5, (x5_1 : Int).toNat * 4 + 3, none⟩ = some (.int .i64 ((rd_T86 y457 x5_1).f3)) := hcc7 3 _ rfl; have hf7_0 : w13.frozen? ⟨go5, (x5_1 : Int).toNat * 4, none⟩ = false := hfr7 0; have hf7_1 : w13.frozen? ⟨go5, (x5_1 : Int).toNat * 4 + 1, none⟩ = false := hfr7 1; have hf7_2 : w13.frozen? ⟨go5, (x5_1 : Int).toNat * 4 + 2, none⟩ = false := hfr7 2; have hf7_3 : w13.frozen? ⟨go5, (x5_1 : Int).toNat * 4 + 3, none⟩ = false := hfr7 3; clear hcl7 hcc7 hfr7; (try clear hM7); replace p7 := eq_true p7; replace q7 := eq_true q7; have HX14 := am (show Kd.R k86 86 w13 w0.heap.size (fun k_ => (P0_ k_ ∨ w.heap.size ≤ k_)) (.slice (some ⟨go5, 0, none⟩) x0_1.length co9) y457 from (q_r (HO_0.out))); obtain ⟨ce14, hcl14, hM14, hcc14, hfr14⟩ := Kd.R_elem HX14.out z86 (x5_1 : Int) q_d (by have h_ : (x5_1 : Int) < ((x0_1.length : Int) : Int) := q_d; first | exact h_ | (have e_ := (Kd.R_reads' HO_0.out).1; omega) | simpa using h_); obtain rfl := k86_openM hM14; have HP14 := Kd.R_seg HX14.out (x5_1 : Int) q_d (by have h_ : (x5_1 : Int) < ((x0_1.length : Int) : Int) := q_d; first | exact h_ | (have e_ := (Kd.R_reads' HO_0.out).1; omega) | simpa using h_) (seg := [.int .i64 (wrap64 ((wrap64 (x1_1 + 1)) + 1))]) (j := 2) hcl14 hcc14 (show 3 ≤ 4 from by decide) (x' := (⟨(rd_T86 y457 x5_1).f0, (rd_T86 y457 x5_1).f1, wrap64 ((wrap64 (x1_1 + 1)) + 1), (rd_T86 y457 x5_1).f3⟩ : S86)) (k86_mkM _ _ _ (⟨(rd_T86 y457 x5_1).f0, (rd_T86 y457 x5_1).f1, wrap64 ((wrap64 (x1_1 + 1)) + 1), (rd_T86 y457 x5_1).f3⟩ : S86) ) (fun _ hk => hk); have hx14_2 := hcc14 2 _ rfl; (try simp only [show (k86).sz = 4 from rfl, Nat.mul_one, Nat.add_zero] at hx14_2); have hf14_2 := hfr14 2; (try simp only [show (k86).sz = 4 from rfl, Nat.mul_one, Nat.add_zero] at hf14_2); clear hcl14 hcc14 hfr14; (try clear hM14)) | ((with_reducible refine gate_store (t := 2) (p := 30) rfl ?_); refine store_event (t := 2) (p := 30) (v := ?vo_w15) (w1 := (w13.setCell ⟨go5, (x5_1 : Int).toNat * 4 + 2, none⟩ (.int .i64 (wrap64 ((wrap64 (x1_1 + 1)) + 1))))) ?hg ?ho ?hn ?hr ?_; (case ho => rfl); (case hg => rfl); (case hn => rfl); (case hr => first | (go_simp; done) | (go_simp; rfl)); intro w15 hw; have hg : w13.grownBy w15 (some go5) := (by rw [hw]; exact HP14.2); have hp_ : Kd.R k86 86 w15 w0.heap.size (fun k_ => (P0_ k_ ∨ w.heap.size ≤ k_)) (.slice (some ⟨go5, 0, none⟩) x0_1.length co9) y458 := (by rw [hw, Ny458.out]; exact HP14.1); clear HP14; have n0_ := am (hp_); have n1_ := am ((by rw [hw]; exact below_set (HB.out) GB5.out : Below w0.heap.size w0 w15)); have n2_ := am (Kept.of_grown (S := (fun k_ => P0_ k_)) hg q_k (fun k_ e_ => (HO_0.out.1 k_ e_))); revert n0_ n1_ n2_; clear HO_0 HB HK; intro HO_0 HB HK; clear hg hw hp_; have p8 : 0 ≤ (x5_1 : Int) := q_d; have q8 : (x5_1 : Int) < ((x0_1.length : Int) : Int) := q_d; obtain ⟨ce8, hcl8, hM8, hcc8, hfr8⟩ := Kd.R_elem HO_0.out z86 (x5_1 : Int) p8 q8; obtain rfl := k86_openM hM8; have hx8_0 : w15.cell? ⟨go5, (x5_1 : Int).toNat * 4, none⟩ = some (.int .i64 ((rd_T86 y458 x5_1).f0)) := hcc8 0 _ rfl; have hx8_1 : w15.cell? ⟨go5, (x5_1 : Int).toNat * 4 + 1, none⟩ = some (.int .i64 ((rd_T86 y458 x5_1).f1)) := hcc8 1 _ rfl; have hx8_2 : w15.cell? ⟨go5, (x5_1 : Int).toNat * 4 + 2, none⟩ = some (.int .i64 ((rd_T86 y458 x5_1).f2)) := hcc8 2 _ rfl; have hx8_3 : w15.cell? ⟨go5, (x5_1 : Int).toNat * 4 + 3, none⟩ = some (.int .i64 ((rd_T86 y458 x5_1).f3)) := hcc8 3 _ rfl; have hf8_0 : w15.frozen? ⟨go5, (x5_1 : Int).toNat * 4, none⟩ = false := hfr8 0; have hf8_1 : w15.frozen? ⟨go5, (x5_1 : Int).toNat * 4 + 1, none⟩ = false := hfr8 1; have hf8_2 : w15.frozen? ⟨go5, (x5_1 : Int).toNat * 4 + 2, none⟩ = false := hfr8 2; have hf8_3 : w15.frozen? ⟨go5, (x5_1 : Int).toNat * 4 + 3, none⟩ = false := hfr8 3; clear hcl8 hcc8 hfr8; (try clear hM8); replace p8 := eq_true p8; replace q8 := eq_true q8; have HX16 := am (show Kd.R k86 86 w15 w0.heap.size (fun k_ => (P0_ k_ ∨ w.heap.size ≤ k_)) (.slice (some ⟨go5, 0, none⟩) x0_1.length co9) y458 from (q_r (HO_0.out))); obtain ⟨ce16, hcl16, hM16, hcc16, hfr16⟩ := Kd.R_elem HX16.out z86 (x5_1 : Int) q_d (by have h_ : (x5_1 : Int) < ((x0_1.length : Int) : Int) := q_d; first | exact h_ | (have e_ := (Kd.R_reads' HO_0.out).1; omega) | simpa using h_); obtain rfl := k86_openM hM16; have HP16 := Kd.R_seg HX16.out (x5_1 : Int) q_d (by have h_ : (x5_1 : Int) < ((x0_1.length : Int) : Int) := q_d; first | exact h_ | (have e_ := (Kd.R_reads' HO_0.out).1; omega) | simpa using h_) (seg := [.int .i64 (wrap64 ((wrap64 ((wrap64 (x1_1 + 1)) + 1)) + 1))]) (j := 3) hcl16 hcc16 (show 4 ≤ 4 from by decide) (x' := (⟨(rd_T86 y458 x5_1).f0, (rd_T86 y458 x5_1).f1, (rd_T86 y458 x5_1).f2, wrap64 ((wrap64 ((wrap64 (x1_1 + 1)) + 1)) + 1)⟩ : S86)) (k86_mkM _ _ _ (⟨(rd_T86 y458 x5_1).f0, (rd_T86 y458 x5_1).f1, (rd_T86 y458 x5_1).f2, wrap64 ((wrap64 ((wrap64 (x1_1 + 1)) + 1)) + 1)⟩ : S86) ) (fun _ hk => hk); have hx16_3 := hcc16 3 _ rfl; (try simp only [show (k86).sz = 4 from rfl, Nat.mul_one, Nat.add_zero] at hx16_3); have hf16_3 := hfr16 3; (try simp only [show (k86).sz = 4 from rfl, Nat.mul_one, Nat.add_zero] at hf16_3); clear hcl16 hcc16 hfr16; (try clear hM16)) | ((with_reducible refine gate_store (t := 2) (p := 37) rfl ?_); refine store_event (t := 2) (p := 37) (v := ?vo_w17) (w1 := (w15.setCell ⟨go5, (x5_1 : Int).toNat * 4 + 3, none⟩ (.int .i64 (wrap64 ((wrap64 ((wrap64 (x1_1 + 1)) + 1)) + 1))))) ?hg ?ho ?hn ?hr ?_; (case ho => rfl); (case hg => rfl); (case hn => rfl); (case hr => first | (go_simp; done) | (go_simp; rfl)); intro w17 hw; have hg : w15.grownBy w17 (some go5) := (by rw [hw]; exact HP16.2); have hp_ : Kd.R k86 86 w17 w0.heap.size (fun k_ => (P0_ k_ ∨ w.heap.size ≤ k_)) (.slice (some ⟨go5, 0, none⟩) x0_1.length co9) y459 := (by rw [hw, Ny459.out]; exact HP16.1); clear HP16; have n0_ := am (hp_); have n1_ := am ((by rw [hw]; exact below_set (HB.out) GB5.out : Below w0.heap.size w0 w17)); have n2_ := am (Kept.of_grown (S := (fun k_ => P0_ k_)) hg q_k (fun k_ e_ => (HO_0.out.1 k_ e_))); revert n0_ n1_ n2_; clear HO_0 HB HK; intro HO_0 HB HK; clear hg hw hp_))
     go_roundg k1
     case measure => have := HK1.out; omega
     case rel => exact ⟨(y459), (wrap64 ((wrap64 ((wrap64 ((wrap64 (x1_1 + 1)) + 1)) + 1)) + 1)), (wrap64 (x5_1 + 1)), q_i, q_i, H', ⟨by have := HK1.out; omega⟩, ⟨q_r (HO_0.out)⟩, ⟨q_k⟩, ⟨bq⟩⟩
    ·rw [if_neg c4] at H
     exact absurd H (by simp)
   ·rw [if_neg c3] at H
    have c3b0 := decide_eq_false c3
    clear c3
    simp only [Option.some.injEq, Prod.mk.injEq] at H
    obtain ⟨rfl, rfl⟩ := H
    obtain ⟨Ao18, co18, eo18⟩ := Kd.R_slice HO_0.out
    subst eo18
    go_wp2
    go_ret
    exact ⟨q_e, q_r (HO_0.out), bq, q_k⟩

/-! ### laws_markContractS: function 43 -/
def laws_markContractS.l0 : Nat → List S40 → Int → Int → Option (Int × List S40)
  | 0, _, _, _ => none
  | k + 1, x0, x1, x5 => if x5 < (x0.length : Int) then (if 0 ≤ x5 then ((laws_markLegS.f k ((x0.getD x5.toNat z40).f1) (wrap64 (x1 + 1))).bind fun bt => (laws_markContractS.l0 k (x0.set x5.toNat ⟨x1, bt.2⟩) bt.1 (wrap64 (x5 + 1)))) else (none)) else (some (x1, x0))
def laws_markContractS.f (k : Nat) (l0 : List S40) (a1 : Int) : Option (Int × List S40) := laws_markContractS.l0 k l0 a1 0
theorem laws_markContractS_again (xs : List S40) (i : Nat) (a b : S40) : (xs.set i a).set i b = xs.set i b := List.set_set ..
theorem laws_markContractS_at (xs : List S40) (i : Nat) (a z : S40) (h : i < xs.length) : (xs.set i a).getD i z = a := by rw [List.getD_eq_getElem?_getD, List.getElem?_set_self h]; rfl
theorem laws_markContractS.calls (k : Nat) (P0_ : Nat → Prop) (u9000_ : Value) (l0 : List S40) (a1 : Int) (r1 : Int) (r2 : List S40) (w0 w : World) (hB : Below w0.heap.size w0 w) (ho0 : Kd.S k40 40 w w0.heap.size P0_ u9000_ l0) (h : laws_markContractS.f k l0 a1 = some (r1, r2)) :
  Calls Try.prog 43 #[u9000_, .int .i64 a1] w fun e w' => e = .returned (.int .i64 r1) ∧ Kd.S k40 40 w' w0.heap.size P0_ u9000_ r2 ∧ Below w0.heap.size w0 w' ∧ Kept w w' (fun k_ => P0_ k_) := by
 have hu40 := Try.underlying40
 have HO0 := am ho0
 have HK := am (Kept.refl w (fun k_ => P0_ k_))
 have HB := am hB
 clear hB ho0
 have H' := am (show laws_markContractS.l0 k l0 a1 0 = some (r1, r2) from h)
 clear h
 go_enter Try.func43, Try.ntmps43
 go_wp2
 go_loopg [1, 5] k (fun kq v1 v5 w' => ∃ (x0_1 : List S40) (x1_1 : Int) (x5_1 : Int), v1 = .int .i64 x1_1 ∧ v5 = .int .i64 x5_1 ∧ Aside0 (laws_markContractS.l0 kq x0_1 x1_1 x5_1 = some (r1, r2)) ∧ Aside0 (kq ≤ k) ∧ Aside0 (Kd.S k40 40 w' w0.heap.size P0_ u9000_ x0_1) ∧ Aside0 (Kept w w' (fun k_ => P0_ k_)) ∧ Aside0 (Below w0.heap.size w0 w'))
 case atStart => exact ⟨l0, a1, 0, rfl, rfl, H', ⟨Nat.le_refl _⟩, HO0, HK, HB⟩
 case round =>
  clear H'
  obtain ⟨x0_1, x1_1, x5_1, rfl, rfl, HA, HK1, HO_0, HK, HB⟩ := hrel
  cases gk with
  | zero => exact absurd HA.out (by simp [laws_markContractS.l0])
  | succ k1 =>
   have H := HA.out
   clear HA
   simp only [laws_markContractS.l0] at H
   by_cases c3 : x5_1 < (x0_1.length : Int)
   ·rw [if_pos c3] at H
    by_cases c4 : 0 ≤ x5_1
    ·rw [if_pos c4] at H
     obtain ⟨⟨t1, t2⟩, A10, H⟩ := ob H
     have A1 := am A10
     have H' := am (show laws_markContractS.l0 k1 (x0_1.set x5_1.toNat ⟨x1_1, t2⟩) t1 (wrap64 (x5_1 + 1)) = some (r1, r2) from H)
     clear H A10
     obtain ⟨go5, co5, eo5, gb5, gl5, cl5, HG5⟩ := Kd.R_form (Kd.S_R HO_0.out) (by omega)
     subst eo5
     have HP0 := am ((Kd.S_R HO_0.out).1 go5 rfl)
     have GB5 := am gb5
     clear gb5 gl5 HG5
     have HX := am (show Kd.S k40 40 wr w0.heap.size (fun k_ => P0_ k_ ∧ ¬ (False : Prop)) (.slice (some ⟨go5, 0, none⟩) x0_1.length co5) x0_1 from Kd.S_mono HO_0.out (fun _ hk => ⟨hk, fun h_ => h_⟩))
     obtain ⟨oki, cs_, hcl, hM, hcc, hfr, hoki, hH⟩ := Kd.S_elem HX.out z40 x5_1 c4 c3
     obtain ⟨yi, hyi⟩ : ∃ y_ : S40, y_ = x0_1.getD x5_1.toNat z40 := ⟨_, rfl⟩
     have A1 := am (show laws_markLegS.f k1 yi.f1 (wrap64 (x1_1 + 1)) = some (t1, t2) from by rw [hyi]; exact A1.out)
     rw [← hyi] at hM
     clear hyi
     obtain ⟨vi_, rfl, hR⟩ := k40_openM hM
     have hx5_0 : wr.cell? ⟨go5, (x5_1 : Int).toNat * 2, none⟩ = some (.int .i64 yi.f0) := by have h_ := hcc 0 _ rfl; simpa [k40, Kd.iso, Kd.pair, Kd.slice, Kd.int, Kd.scalar] using h_
     have hf5_0 : wr.frozen? ⟨go5, (x5_1 : Int).toNat * 2, none⟩ = false := by have h_ := hfr 0; simpa [k40, Kd.iso, Kd.pair, Kd.slice, Kd.int, Kd.scalar] using h_
     have HP12 := Kd.S_seg (ok := fun k_ => P0_ k_) (okg := fun _ => False) hH c4 c3 (seg := [.int .i64 x1_1]) (j := 0) (show 0 + 1 ≤ 2 from by decide) (x' := (⟨x1_1, yi.f1⟩ : S40)) (okp := oki) (k40_mkM _ _ _ (⟨x1_1, yi.f1⟩ : S40) hR) (fun _ hk => .inl hk) (fun _ hk => hk.elim)
     clear hR hoki hH hcc hfr hcl hM HX
     have hlt5 : x5_1.toNat < x0_1.length := by omega
     have c3b0 := decide_eq_true c3
     have c4b0 := decide_eq_true c4
     have p5 := eq_true c4
     have q5 := eq_true c3
     go_wp2_with (first | ((with_reducible refine gate_store (t := 2) (p := 16) rfl ?_); refine store_event (t := 2) (p := 16) (v := ?vo_w13) (w1 := wr.setCell ⟨go5, (x5_1 : Int).toNat * 2, none⟩ (.int .i64 x1_1)) ?hg ?ho ?hn ?hr ?_; (case ho => rfl); (case hg => rfl); (case hn => rfl); (case hr => first | (go_simp; done) | (go_simp; rfl)); intro w13 hw; have hp_ : Kd.S k40 40 w13 w0.heap.size P0_ (.slice (some ⟨go5, 0, none⟩) x0_1.length co5) (x0_1.set x5_1.toNat ⟨x1_1, yi.f1⟩) := (by rw [hw]; exact HP12.1); clear HP12; obtain ⟨oki2, cs2_, hcl2, hM2, hcc2, hfr2, hoki2, hH2⟩ := Kd.S_elem hp_ z40 x5_1 c4 c3; rw [laws_markContractS_at _ _ _ _ hlt5] at hM2; obtain ⟨vi2_, rfl, hR2⟩ := k40_openM hM2; have hx6_1 : w13.cell? ⟨go5, (x5_1 : Int).toNat * 2 + 1, none⟩ = some vi2_ := (by have h_ := hcc2 1 _ rfl; simpa [k40, Kd.iso, Kd.pair, Kd.slice, Kd.int, Kd.scalar] using h_); obtain ⟨Ai, ci, rfl⟩ := Kd.R_slice hR2; have HRI := am hR2; have HOK := am hoki2; have HH := am hH2; have n1_ := am (show Kept w w13 (fun k_ => P0_ k_) from by rw [hw]; exact Kept.setCell HK.out (.inl HP0.out) _); have n2_ := am (show Below w0.heap.size w0 w13 from by rw [hw]; exact below_set HB.out GB5.out); clear HO_0 HK HB hx5_0 hf5_0 hcl2 hcc2 hfr2 hoki2 hH2 hR2 hM2 hw; have HO_0 := am hp_; have HK := n1_; have HB := n2_; clear n1_ n2_ hp_) | ((with_reducible refine gate_callee (f := 78) rfl ?_); refine goesL_ (some 25) rfl rfl Try.func78 (by kernel_rfl) rfl #[.slice Ai yi.f1.length ci, .int .i64 (wrap64 (x1_1 + 1))] rfl (by (try simp only [List.map_toArray, List.map_cons, List.map_nil]); first | done | rfl) ?_; (with_reducible refine (laws_markLegS.calls k1 oki2 _ _ (wrap64 (x1_1 + 1)) t1 t2 w0 _ ?side1 ?side2 A1.out).mono ?_); (case side1 => exact HB.out); (case side2 => exact HRI.out); rintro e w8 ⟨rfl, hy, hb, hkp⟩; refine ⟨_, rfl, ?_⟩; have n0_ := am (show Kd.S k40 40 w8 w0.heap.size P0_ (.slice (some ⟨go5, 0, none⟩) x0_1.length co5) (x0_1.set x5_1.toNat ⟨x1_1, t2⟩) from (by have h_ := Kd.H_back (Kd.H_kept HH.out hkp (fun _ _ hn hs => hn hs)) (x' := (⟨x1_1, t2⟩ : S40)) (k40_mkM _ _ _ (⟨x1_1, t2⟩ : S40) (Kd.R_reok rfl hy (fun k_ e_ => HRI.out.1 k_ e_))) (fun _ h_ => h_); rw [laws_markContractS_again] at h_; exact h_)); have n1_ := am (HK.out.then_ hkp (fun k_ hk => .inl (HOK.out k_ hk).1)); have n2_ := am hb; clear HO_0 HK HB HH; have HO_0 := n0_; have HK := n1_; have HB := n2_; clear n0_ n1_ n2_ hy hb hkp))
     go_roundg k1
     case measure => have := HK1.out; omega
     case rel => exact ⟨_, t1, (wrap64 (x5_1 + 1)), q_i, q_i, H', ⟨by have := HK1.out; omega⟩, HO_0, HK, HB⟩
    ·rw [if_neg c4] at H
     exact absurd H (by simp)
   ·rw [if_neg c3] at H
    have c3b0 := decide_eq_false c3
    clear c3
    simp only [Option.some.injEq, Prod.mk.injEq] at H
    obtain ⟨rfl, rfl⟩ := H
    obtain ⟨Ao9, co9, eo9⟩ := Kd.S_slice HO_0.out
    subst eo9
    go_wp2
    go_ret
    exact ⟨by first | rfl | (simp; done), HO_0.out, HB.out, HK.out⟩

/-! ### laws_markInt64S: function 87 -/
def laws_markInt64S.l0 : Nat → List Int → Int → Int → Option (Int × List Int)
  | 0, _, _, _ => none
  | k + 1, x0, x1, x5 => if x5 < (x0.length : Int) then (if 0 ≤ x5 then (laws_markInt64S.l0 k (x0.set (x5 : Int).toNat x1) (wrap64 (x1 + 1)) (wrap64 (x5 + 1))) else (none)) else (some (x1, x0))
def laws_markInt64S.f (k : Nat) (l0 : List Int) (a1 : Int) : Option (Int × List Int) := laws_markInt64S.l0 k l0 a1 0
theorem laws_markInt64S.calls (k : Nat) (P0_ : Nat → Prop) (u9000_ : Value) (l0 : List Int) (a1 : Int) (r1 : Int) (r2 : List Int) (w0 w : World) (hB : Below w0.heap.size w0 w) (ho0 : Kd.R (Kd.int .i64) 2 w w0.heap.size P0_ u9000_ l0) (h : laws_markInt64S.f k l0 a1 = some (r1, r2)) :
  Calls Try.prog 87 #[u9000_, .int .i64 a1] w fun e w' => e = .returned (.int .i64 r1) ∧ Kd.R (Kd.int .i64) 2 w' w0.heap.size (fun k_ => (P0_ k_ ∨ w.heap.size ≤ k_)) u9000_ r2 ∧ Below w0.heap.size w0 w' ∧ Kept w w' (fun k_ => P0_ k_) := by
 have HO0 := am (show Kd.R (Kd.int .i64) 2 w w0.heap.size (fun k_ => (P0_ k_ ∨ w.heap.size ≤ k_)) u9000_ l0 from Kd.R_mono ho0 (fun k_ hk => (.inl hk)))
 have HK := am (Kept.refl w (fun k_ => P0_ k_))
 have HW0 := am hB.size
 have HB := am hB
 clear hB
 have H : (laws_markInt64S.l0 k l0 a1 0) = some (r1, r2) := h
 clear h
 have H' := am H
 clear H
 go_enter Try.func87, Try.ntmps87
 go_wp2
 go_loopg [1, 5] k (fun kq v1 v5 w' => ∃ (x0_1 : List Int) (x1_1 : Int) (x5_1 : Int), v1 = .int .i64 x1_1 ∧ v5 = .int .i64 x5_1 ∧ Aside0 (laws_markInt64S.l0 kq x0_1 x1_1 x5_1 = some (r1, r2)) ∧ Aside0 (kq ≤ k) ∧ Aside0 (Kd.R (Kd.int .i64) 2 w' w0.heap.size (fun k_ => (P0_ k_ ∨ w.heap.size ≤ k_)) u9000_ x0_1) ∧ Aside0 (Kept w w' (fun k_ => P0_ k_)) ∧ Aside0 (Below w0.heap.size w0 w'))
 case atStart => exact ⟨(l0), (a1), (0), q_i, q_i, H', ⟨Nat.le_refl _⟩, ⟨q_r (HO0.out)⟩, ⟨q_k⟩, ⟨bq⟩⟩
 case round =>
  clear H'
  (try clear p2)
  obtain ⟨x0_1, x1_1, x5_1, rfl, rfl, HA, HK1, HO_0, HK, HB⟩ := hrel
  cases gk with
  | zero => exact absurd HA.out (by simp [laws_markInt64S.l0])
  | succ k1 =>
   have H := HA.out
   clear HA
   simp only [laws_markInt64S.l0] at H
   by_cases c3 : x5_1 < (x0_1.length : Int)
   ·rw [if_pos c3] at H
    have c3b0 := decide_eq_true c3
    clear c3
    by_cases c4 : 0 ≤ x5_1
    ·rw [if_pos c4] at H
     have c4b0 := decide_eq_true c4
     clear c4
     obtain ⟨y460, hy460⟩ : ∃ y_ : List Int, y_ = (x0_1.set (x5_1 : Int).toNat x1_1) := ⟨_, rfl⟩
     replace H : (laws_markInt64S.l0 k1 y460 (wrap64 (x1_1 + 1)) (wrap64 (x5_1 + 1))) = some (r1, r2) := q_h hy460 H
     have Ny460 := am hy460
     clear hy460
     have H' := am H
     clear H
     obtain ⟨Ao6, co6, eo6⟩ := Kd.R_slice HO_0.out
     subst eo6
     have p5 : 0 ≤ (x5_1 : Int) := q_d
     have q5 : (x5_1 : Int) < ((x0_1.length : Int) : Int) := q_d
     obtain ⟨go5, co5, eo5, gb5, gl5, cl5, HG5⟩ := Kd.R_form HO_0.out (by omega)
     (first | cases eo5 | (injection eo5 with ea_ en_ ec_; (first | subst ea_ | (injection ea_ with ea_; subst ea_)); subst ec_; clear en_))
     have GB5 := am gb5
     have GG5 := am HG5
     clear gb5 gl5 HG5
     have HMgo5 := am (show (P0_ go5 ∨ w.heap.size ≤ go5) from (HO_0.out.1 _ rfl))
     obtain ⟨hx5_0, hf5_0⟩ := Kd.R_celln 0 HO_0.out (x5_1 : Int) p5 q5
     replace p5 := eq_true p5
     replace q5 := eq_true q5
     have HP7 := Kd.R_putg HO_0.out (x5_1 : Int) x1_1
     go_wp2_with (first | ((with_reducible refine gate_store (t := 2) (p := 15) rfl ?_); refine store_event (t := 2) (p := 15) (v := ?vo_w8) (w1 := (wr.setCell ⟨go5, (x5_1 : Int).toNat, none⟩ (.int .i64 x1_1))) ?hg ?ho ?hn ?hr ?_; (case ho => rfl); (case hg => rfl); (case hn => rfl); (case hr => first | (go_simp; done) | (go_simp; rfl)); intro w8 hw; have hg : wr.grownBy w8 (some go5) := (by rw [hw]; exact HP7.2); have hp_ : Kd.R (Kd.int .i64) 2 w8 w0.heap.size (fun k_ => (P0_ k_ ∨ w.heap.size ≤ k_)) (.slice (some ⟨go5, 0, none⟩) x0_1.length co6) y460 := (by rw [hw, Ny460.out]; exact HP7.1); clear HP7; have n0_ := am (hp_); have n1_ := am ((by rw [hw]; exact below_set (HB.out) GB5.out : Below w0.heap.size w0 w8)); have n2_ := am (Kept.of_grown (S := (fun k_ => P0_ k_)) hg q_k (fun k_ e_ => (HO_0.out.1 k_ e_))); revert n0_ n1_ n2_; clear HO_0 HB HK; intro HO_0 HB HK; clear hg hw hp_))
     go_roundg k1
     case measure => have := HK1.out; omega
     case rel => exact ⟨(y460), (wrap64 (x1_1 + 1)), (wrap64 (x5_1 + 1)), q_i, q_i, H', ⟨by have := HK1.out; omega⟩, ⟨q_r (HO_0.out)⟩, ⟨q_k⟩, ⟨bq⟩⟩
    ·rw [if_neg c4] at H
     exact absurd H (by simp)
   ·rw [if_neg c3] at H
    have c3b0 := decide_eq_false c3
    clear c3
    simp only [Option.some.injEq, Prod.mk.injEq] at H
    obtain ⟨rfl, rfl⟩ := H
    obtain ⟨Ao9, co9, eo9⟩ := Kd.R_slice HO_0.out
    subst eo9
    go_wp2
    go_ret
    exact ⟨q_e, q_r (HO_0.out), bq, q_k⟩

/-! ### laws_markOutcomesResult: function 44 -/
def laws_markOutcomesResult.f (k : Nat) (a0_0 : Int) (l0_1 : List Int) (l0_2 : List (List (S104))) (a1 : Int) : Option (Int × List Int × List (List (S104))) := (laws_markInt64S.f k l0_1 a1).bind fun b1 => ((laws_markLedger.f k l0_2 b1.1).bind fun b2 => (some (b2.1, b1.2, b2.2)))
theorem laws_markOutcomesResult.calls (k : Nat) (a0_0 : Int) (P0_1_ : Nat → Prop) (u9000_ : Value) (l0_1 : List Int) (P0_2_ : Nat → Prop) (u9001_ : Value) (l0_2 : List (List (S104))) (a1 : Int) (r1 : Int) (r2 : List Int) (r3 : List (List (S104))) (w0 w : World) (hB : Below w0.heap.size w0 w) (ho0_1 : Kd.R (Kd.int .i64) 2 w w0.heap.size P0_1_ u9000_ l0_1) (ho0_2 : Kd.S (Kd.slice 104 k104) 64 w w0.heap.size P0_2_ u9001_ l0_2) (hp_ : ∀ k_, P0_1_ k_ → ¬ P0_2_ k_) (h : laws_markOutcomesResult.f k a0_0 l0_1 l0_2 a1 = some (r1, r2, r3)) :
  Calls Try.prog 44 #[.agg #[.int .i64 a0_0, u9000_, u9001_], .int .i64 a1] w fun e w' => e = .returned (.int .i64 r1) ∧ Kd.R (Kd.int .i64) 2 w' w0.heap.size (fun k_ => (P0_1_ k_ ∨ P0_2_ k_) ∨ w.heap.size ≤ k_) u9000_ r2 ∧ Kd.S (Kd.slice 104 k104) 64 w' w0.heap.size P0_2_ u9001_ r3 ∧ Below w0.heap.size w0 w' ∧ Kept w w' (fun k_ => P0_1_ k_ ∨ P0_2_ k_) := by
 have HB := am hB
 have HK := am (Kept.refl w (fun k_ => P0_1_ k_ ∨ P0_2_ k_))
 have HO1 := am ho0_1
 have HO2 := am ho0_2
 have HP := am hp_
 clear hp_
 clear hB ho0_1 ho0_2
 obtain ⟨⟨s1, s2⟩, A10, h⟩ := Option.bind_eq_some_iff.mp h
 obtain ⟨⟨s3, s4⟩, A20, h⟩ := Option.bind_eq_some_iff.mp h
 obtain ⟨rfl, rfl, rfl⟩ : s3 = r1 ∧ s2 = r2 ∧ s4 = r3 := by simpa using h
 have A1 := am A10
 have A2 := am A20
 clear A10 A20 h
 obtain ⟨Ao1, co1, eo1⟩ := Kd.R_slice HO1.out
 subst eo1
 obtain ⟨Ao2, co2, eo2⟩ := Kd.S_slice HO2.out
 subst eo2
 have PJ := am HO1.out.1
 go_enter Try.func44, Try.ntmps44
 go_wp2_with (first | ((with_reducible refine gate_dst (N := 2) rfl ?_); refine q_box (N := 2) (cs := #[.int .i64 a0_0, .slice Ao1 l0_1.length co1, .slice Ao2 l0_2.length co2]) (t := 32) ?_; intro gb hg w5 hbox hb; have NB := am (fun (e_ : some gb = (.slice Ao1 l0_1.length co1 : Value).ownBlock) => (by have h_ := Kd.R_lt HO1.out gb e_.symm; omega : False)); replace HO1 := am (Kd.R_below HO1.out hb); replace HO2 := am (Kd.S_below HO2.out hb); have n1_ := am (HK.out.below hb); have n2_ := am (below_then HB.out HB.out.size hb); have BK := am hbox; clear HK HB; have HK := n1_; have HB := n2_; clear n1_ n2_ hbox; obtain ⟨hcz0, hcz1, hcz2, hfz0, hfz1, hfz2⟩ := q_3 BK.out; clear hb hg) | ((with_reducible refine gate_dst (N := 8) rfl ?_); refine goesL_ (some 8) rfl rfl Try.func87 (by kernel_rfl) rfl #[.slice Ao1 l0_1.length co1, .int .i64 a1] rfl (by (try simp only [List.map_toArray, List.map_cons, List.map_nil]); first | done | rfl) ?_; (with_reducible refine (laws_markInt64S.calls k (fun k_ => some k_ = (.slice Ao1 l0_1.length co1 : Value).ownBlock) _ _ _ _ _ w0 _ ?side1 ?side2 A1.out).mono ?_); (case side1 => exact HB.out); (case side2 => exact Kd.R_tight rfl HO1.out); rintro e w8 ⟨rfl, hy, hb, hkp⟩; refine ⟨_, rfl, ?_⟩; replace HO2 := am (Kd.S_kept HO2.out hkp (fun k_ h1 h2 => HP.out k_ (HO1.out.1 k_ h2.symm) h1)); replace HK := am (HK.out.then_ hkp (fun k_ hk => .inl (.inl (HO1.out.1 k_ hk.symm)))); replace BK := am (blk_kept BK.out hkp (fun e_ => NB.out e_)); replace HO1 := am (show Kd.R (Kd.int .i64) 2 w8 w0.heap.size (fun k_ => some k_ = (.slice Ao1 l0_1.length co1 : Value).ownBlock) (.slice Ao1 l0_1.length co1) _ from Kd.R_reok rfl hy (fun k_ e_ => e_.symm)); replace HB := am hb; clear hy hb hkp; obtain ⟨hcy0, hcy1, hcy2, hfy0, hfy1, hfy2⟩ := q_3 BK.out) | ((with_reducible refine gate_dst (N := 12) rfl ?_); refine goesL_ (some 12) rfl rfl Try.func29 (by kernel_rfl) rfl #[.agg #[.slice Ao2 l0_2.length co2], .int .i64 s1] rfl (by (try simp only [List.map_toArray, List.map_cons, List.map_nil]); first | done | rfl) ?_; (with_reducible refine (laws_markLedger.calls k P0_2_ _ _ _ _ _ w0 _ ?side1 ?side2 A2.out).mono ?_); (case side1 => exact HB.out); (case side2 => exact HO2.out); rintro e w9 ⟨rfl, hy, hb, hkp⟩; refine ⟨_, rfl, ?_⟩; replace HO1 := am (Kd.R_mono (ok' := (fun k_ => (P0_1_ k_ ∨ P0_2_ k_) ∨ w.heap.size ≤ k_)) (Kd.R_step HO1.out (fun k_ hk_ hlt_ => hkp.2 k_ hlt_ (HP.out k_ (PJ.out k_ hk_.symm)))) (fun k_ hk_ => .inl (.inl (PJ.out k_ hk_.symm)))); replace HO2 := am hy; replace HK := am (HK.out.then_ hkp (fun k_ hk => .inl (.inr hk))); replace HB := am hb; clear hy hb hkp))
 go_ret
 exact ⟨rfl, HO1.out, HO2.out, HB.out, HK.out⟩

/-! ### laws_heldBalanceS: function 125 -/
def laws_heldBalanceS.l0 : Nat → List (S104) → Int → Int → Option (Int)
  | 0, _, _, _ => none
  | k + 1, x0, x1, x5 => if x5 < (x0.length : Int) then (if 0 ≤ x5 then (if ((rd_T104 x0 x5).f0) = x1 then (if ((rd_T104 x0 x5).f1) = (wrap64 (x1 + 1)) then (if ((rd_T104 x0 x5).f2) = (wrap64 ((wrap64 (x1 + 1)) + 1)) then (laws_heldBalanceS.l0 k x0 (wrap64 ((wrap64 ((wrap64 (x1 + 1)) + 1)) + 1)) (wrap64 (x5 + 1))) else (some (-1))) else (some (-1))) else (some (-1))) else (none)) else (some x1)
def laws_heldBalanceS.f (k : Nat) (l0 : List (S104)) (a1 : Int) : Option (Int) := laws_heldBalanceS.l0 k l0 a1 0
theorem laws_heldBalanceS.calls (k : Nat) (A0 : Option Addr) (c0 : Nat) (l0 : List (S104)) (a1 : Int) (r : Int) (w : World) (hr0 : Kd.C k104 w A0 l0.length l0) (hc0 : l0.length ≤ c0) (h : laws_heldBalanceS.f k l0 a1 = some r) :
  Calls Try.prog 125 #[.slice A0 l0.length c0, .int .i64 a1] w fun e w' => e = .returned (.int .i64 r) ∧ Drawn0 w w' := by
 have HR0 := am hr0
 have HC0 := am hc0
 clear hr0 hc0
 have H : (laws_heldBalanceS.l0 k l0 a1 0) = some r := h
 clear h
 have H' := am H
 clear H
 go_enter Try.func125, Try.ntmps125
 go_wp2
 go_loopg [1, 5] k (fun kq v1 v5 w' => ∃ (x1_1 : Int) (x5_1 : Int), v1 = .int .i64 x1_1 ∧ v5 = .int .i64 x5_1 ∧ Aside0 (laws_heldBalanceS.l0 kq l0 x1_1 x5_1 = some r) ∧ Aside0 (kq ≤ k) ∧ Drawn0 w w')
 case atStart => exact ⟨(a1), (0), q_i, q_i, H', ⟨Nat.le_refl _⟩, q_0⟩
 case round =>
  clear H'
  (try clear c1); (try clear p2)
  obtain ⟨x1_1, x5_1, rfl, rfl, HA, HK1, ⟨m1, rfl⟩⟩ := hrel
  cases gk with
  | zero => exact absurd HA.out (by simp [laws_heldBalanceS.l0])
  | succ k1 =>
   have H := HA.out
   clear HA
   simp only [laws_heldBalanceS.l0] at H
   by_cases c3 : x5_1 < (l0.length : Int)
   ·rw [if_pos c3] at H
    have c3b0 := decide_eq_true c3
    clear c3
    by_cases c4 : 0 ≤ x5_1
    ·rw [if_pos c4] at H
     have c4b0 := decide_eq_true c4
     clear c4
     by_cases c5 : ((rd_T104 l0 x5_1).f0) = x1_1
     ·rw [if_pos c5] at H
      have c5b0 : (((rd_T104 l0 x5_1).f0) == x1_1) = true := beq_iff_eq.mpr c5
      have c5b1 : (((rd_T104 l0 x5_1).f0) != x1_1) = false := bne_eq_false_iff_eq.mpr c5
      clear c5
      by_cases c6 : ((rd_T104 l0 x5_1).f1) = (wrap64 (x1_1 + 1))
      ·rw [if_pos c6] at H
       have c6b0 : (((rd_T104 l0 x5_1).f1) == (wrap64 (x1_1 + 1))) = true := beq_iff_eq.mpr c6
       have c6b1 : (((rd_T104 l0 x5_1).f1) != (wrap64 (x1_1 + 1))) = false := bne_eq_false_iff_eq.mpr c6
       clear c6
       by_cases c7 : ((rd_T104 l0 x5_1).f2) = (wrap64 ((wrap64 (x1_1 + 1)) + 1))
       ·rw [if_pos c7] at H
        have c7b0 : (((rd_T104 l0 x5_1).f2) == (wrap64 ((wrap64 (x1_1 + 1)) + 1))) = true := beq_iff_eq.mpr c7
        have c7b1 : (((rd_T104 l0 x5_1).f2) != (wrap64 ((wrap64 (x1_1 + 1)) + 1))) = false := bne_eq_false_iff_eq.mpr c7
        clear c7
        have H' := am H
        clear H
        have p461 : 0 ≤ (x5_1 : Int) := q_d
        have q461 : x5_1 < (l0.length : Int) := q_d
        obtain ⟨ad461, e461, hx461_0, hx461_1, hx461_2⟩ := at_T104 HR0.out x5_1 p461 q461
        cases e461
        replace p461 := eq_true p461
        replace q461 := eq_true q461
        have p462 : 0 ≤ (x5_1 : Int) := q_d
        have q462 : x5_1 < (l0.length : Int) := q_d
        obtain ⟨ad462, e462, hx462_0, hx462_1, hx462_2⟩ := at_T104 HR0.out x5_1 p462 q462
        obtain rfl : ad461 = ad462 := (by injection e462)
        replace p462 := eq_true p462
        replace q462 := eq_true q462
        have p463 : 0 ≤ (x5_1 : Int) := q_d
        have q463 : x5_1 < (l0.length : Int) := q_d
        obtain ⟨ad463, e463, hx463_0, hx463_1, hx463_2⟩ := at_T104 HR0.out x5_1 p463 q463
        obtain rfl : ad461 = ad463 := (by injection e463)
        replace p463 := eq_true p463
        replace q463 := eq_true q463
        go_wp2
        go_roundg k1
        case measure => have := HK1.out; omega
        case rel => exact ⟨(wrap64 ((wrap64 ((wrap64 (x1_1 + 1)) + 1)) + 1)), (wrap64 (x5_1 + 1)), q_i, q_i, H', ⟨by have := HK1.out; omega⟩, q_0⟩
       ·rw [if_neg c7] at H
        have c7b0 : (((rd_T104 l0 x5_1).f2) == (wrap64 ((wrap64 (x1_1 + 1)) + 1))) = false := beq_eq_false_iff_ne.mpr c7
        have c7b1 : (((rd_T104 l0 x5_1).f2) != (wrap64 ((wrap64 (x1_1 + 1)) + 1))) = true := bne_iff_ne.mpr c7
        obtain rfl := Option.some.inj H
        have p461 : 0 ≤ (x5_1 : Int) := q_d
        have q461 : x5_1 < (l0.length : Int) := q_d
        obtain ⟨ad461, e461, hx461_0, hx461_1, hx461_2⟩ := at_T104 HR0.out x5_1 p461 q461
        cases e461
        replace p461 := eq_true p461
        replace q461 := eq_true q461
        have p462 : 0 ≤ (x5_1 : Int) := q_d
        have q462 : x5_1 < (l0.length : Int) := q_d
        obtain ⟨ad462, e462, hx462_0, hx462_1, hx462_2⟩ := at_T104 HR0.out x5_1 p462 q462
        obtain rfl : ad461 = ad462 := (by injection e462)
        replace p462 := eq_true p462
        replace q462 := eq_true q462
        have p463 : 0 ≤ (x5_1 : Int) := q_d
        have q463 : x5_1 < (l0.length : Int) := q_d
        obtain ⟨ad463, e463, hx463_0, hx463_1, hx463_2⟩ := at_T104 HR0.out x5_1 p463 q463
        obtain rfl : ad461 = ad463 := (by injection e463)
        replace p463 := eq_true p463
        replace q463 := eq_true q463
        go_wp2
        go_ret
        exact ⟨by first | rfl | (simp; done) | (simp [*]; done), q_0⟩
      ·rw [if_neg c6] at H
       have c6b0 : (((rd_T104 l0 x5_1).f1) == (wrap64 (x1_1 + 1))) = false := beq_eq_false_iff_ne.mpr c6
       have c6b1 : (((rd_T104 l0 x5_1).f1) != (wrap64 (x1_1 + 1))) = true := bne_iff_ne.mpr c6
       obtain rfl := Option.some.inj H
       have p461 : 0 ≤ (x5_1 : Int) := q_d
       have q461 : x5_1 < (l0.length : Int) := q_d
       obtain ⟨ad461, e461, hx461_0, hx461_1, hx461_2⟩ := at_T104 HR0.out x5_1 p461 q461
       cases e461
       replace p461 := eq_true p461
       replace q461 := eq_true q461
       have p462 : 0 ≤ (x5_1 : Int) := q_d
       have q462 : x5_1 < (l0.length : Int) := q_d
       obtain ⟨ad462, e462, hx462_0, hx462_1, hx462_2⟩ := at_T104 HR0.out x5_1 p462 q462
       obtain rfl : ad461 = ad462 := (by injection e462)
       replace p462 := eq_true p462
       replace q462 := eq_true q462
       go_wp2
       go_ret
       exact ⟨by first | rfl | (simp; done) | (simp [*]; done), q_0⟩
     ·rw [if_neg c5] at H
      have c5b0 : (((rd_T104 l0 x5_1).f0) == x1_1) = false := beq_eq_false_iff_ne.mpr c5
      have c5b1 : (((rd_T104 l0 x5_1).f0) != x1_1) = true := bne_iff_ne.mpr c5
      obtain rfl := Option.some.inj H
      have p461 : 0 ≤ (x5_1 : Int) := q_d
      have q461 : x5_1 < (l0.length : Int) := q_d
      obtain ⟨ad461, e461, hx461_0, hx461_1, hx461_2⟩ := at_T104 HR0.out x5_1 p461 q461
      cases e461
      replace p461 := eq_true p461
      replace q461 := eq_true q461
      go_wp2
      go_ret
      exact ⟨by first | rfl | (simp; done) | (simp [*]; done), q_0⟩
    ·rw [if_neg c4] at H
     exact absurd H (by simp)
   ·rw [if_neg c3] at H
    have c3b0 := decide_eq_false c3
    clear c3
    obtain rfl := Option.some.inj H
    go_wp2
    go_ret
    exact ⟨by first | rfl | (simp; done) | (simp [*]; done), q_0⟩

/-! ### laws_heldBalanceSS: function 110 -/
def laws_heldBalanceSS.l0 : Nat → List (List (S104)) → Int → Int → Option (Int)
  | 0, _, _, _ => none
  | k + 1, x0, x1, x5 => if x5 < (x0.length : Int) then (if 0 ≤ x5 then ((laws_heldBalanceS.f k (rd_L2 x0 x5) x1).bind fun t465 => (if t465 < 0 then (some (-1)) else (laws_heldBalanceSS.l0 k x0 t465 (wrap64 (x5 + 1))))) else (none)) else (some x1)
def laws_heldBalanceSS.f (k : Nat) (l0 : List (List (S104))) (a1 : Int) : Option (Int) := laws_heldBalanceSS.l0 k l0 a1 0
theorem laws_heldBalanceSS.calls (k : Nat) (A0 : Option Addr) (c0 : Nat) (l0 : List (List (S104))) (a1 : Int) (r : Int) (w : World) (hr0 : Kd.C (Kd.slice 104 k104) w A0 l0.length l0) (hc0 : l0.length ≤ c0) (h : laws_heldBalanceSS.f k l0 a1 = some r) :
  Calls Try.prog 110 #[.slice A0 l0.length c0, .int .i64 a1] w fun e w' => e = .returned (.int .i64 r) ∧ Drawn0 w w' := by
 have HR0 := am hr0
 have HC0 := am hc0
 clear hr0 hc0
 have H : (laws_heldBalanceSS.l0 k l0 a1 0) = some r := h
 clear h
 have H' := am H
 clear H
 go_enter Try.func110, Try.ntmps110
 go_wp2
 go_loopg [1, 5] k (fun kq v1 v5 w' => ∃ (x1_1 : Int) (x5_1 : Int), v1 = .int .i64 x1_1 ∧ v5 = .int .i64 x5_1 ∧ Aside0 (laws_heldBalanceSS.l0 kq l0 x1_1 x5_1 = some r) ∧ Aside0 (kq ≤ k) ∧ Drawn0 w w')
 case atStart => exact ⟨(a1), (0), q_i, q_i, H', ⟨Nat.le_refl _⟩, q_0⟩
 case round =>
  clear H'
  (try clear c1); (try clear p2)
  obtain ⟨x1_1, x5_1, rfl, rfl, HA, HK1, ⟨m1, rfl⟩⟩ := hrel
  cases gk with
  | zero => exact absurd HA.out (by simp [laws_heldBalanceSS.l0])
  | succ k1 =>
   have H := HA.out
   clear HA
   simp only [laws_heldBalanceSS.l0] at H
   by_cases c3 : x5_1 < (l0.length : Int)
   ·rw [if_pos c3] at H
    have c3b0 := decide_eq_true c3
    clear c3
    by_cases c4 : 0 ≤ x5_1
    ·rw [if_pos c4] at H
     have c4b0 := decide_eq_true c4
     clear c4
     replace H := ob H
     obtain ⟨t465, A50, H⟩ := H
     replace H : (if t465 < 0 then (some (-1)) else (laws_heldBalanceSS.l0 k1 l0 t465 (wrap64 (x5_1 + 1)))) = some r := H
     have A5 := am A50
     clear A50
     by_cases c6 : t465 < 0
     ·rw [if_pos c6] at H
      have c6b0 := decide_eq_true c6
      clear c6
      obtain rfl := Option.some.inj H
      have p464 : 0 ≤ (x5_1 : Int) := q_d
      have q464 : x5_1 < (l0.length : Int) := q_d
      obtain ⟨ad464, A464_0, c464_0, e464, hx464_0, hl464_0, hi464_0⟩ := at_L2 HR0.out x5_1 p464 q464
      cases e464
      have HR464_0 := am hi464_0
      have HC464_0 := am hl464_0
      clear hi464_0 hl464_0
      replace p464 := eq_true p464
      replace q464 := eq_true q464
      go_wp2_with (first | ((with_reducible refine gate_callee (f := 125) rfl ?_); refine goesLq (some 17) rfl rfl Try.func125 (by kernel_rfl) rfl #[.slice A464_0 (rd_L2 l0 x5_1).length c464_0, .int .i64 x1_1] rfl ?_; (with_reducible refine (laws_heldBalanceS.calls k1 _ _ (rd_L2 l0 x5_1) x1_1 t465 _ ?side1 ?side2 A5.out).mono ?_); (case side1 => exact q_c (HR464_0.out)); (case side2 => exact HC464_0.out); rintro e w' ⟨rfl, ⟨nd, rfl⟩⟩; refine ⟨_, rfl, ?_⟩))
      go_ret
      exact ⟨by first | rfl | (simp; done) | (simp [*]; done), q_0⟩
     ·rw [if_neg c6] at H
      have c6b0 := decide_eq_false c6
      clear c6
      have H' := am H
      clear H
      have p464 : 0 ≤ (x5_1 : Int) := q_d
      have q464 : x5_1 < (l0.length : Int) := q_d
      obtain ⟨ad464, A464_0, c464_0, e464, hx464_0, hl464_0, hi464_0⟩ := at_L2 HR0.out x5_1 p464 q464
      cases e464
      have HR464_0 := am hi464_0
      have HC464_0 := am hl464_0
      clear hi464_0 hl464_0
      replace p464 := eq_true p464
      replace q464 := eq_true q464
      go_wp2_with (first | ((with_reducible refine gate_callee (f := 125) rfl ?_); refine goesLq (some 17) rfl rfl Try.func125 (by kernel_rfl) rfl #[.slice A464_0 (rd_L2 l0 x5_1).length c464_0, .int .i64 x1_1] rfl ?_; (with_reducible refine (laws_heldBalanceS.calls k1 _ _ (rd_L2 l0 x5_1) x1_1 t465 _ ?side1 ?side2 A5.out).mono ?_); (case side1 => exact q_c (HR464_0.out)); (case side2 => exact HC464_0.out); rintro e w' ⟨rfl, ⟨nd, rfl⟩⟩; refine ⟨_, rfl, ?_⟩))
      go_roundg k1
      case measure => have := HK1.out; omega
      case rel => exact ⟨(t465), (wrap64 (x5_1 + 1)), q_i, q_i, H', ⟨by have := HK1.out; omega⟩, q_0⟩
    ·rw [if_neg c4] at H
     exact absurd H (by simp)
   ·rw [if_neg c3] at H
    have c3b0 := decide_eq_false c3
    clear c3
    obtain rfl := Option.some.inj H
    go_wp2
    go_ret
    exact ⟨by first | rfl | (simp; done) | (simp [*]; done), q_0⟩

/-! ### laws_heldLedger: function 79 -/
def laws_heldLedger.f (k : Nat) (l0_0 : List (List (S104))) (a1 : Int) : Option (Int) := (laws_heldBalanceSS.f k l0_0 a1).bind fun t467 => (if t467 < 0 then (some (-1)) else (some t467))
theorem laws_heldLedger.calls (k : Nat) (A0_0 : Option Addr) (c0_0 : Nat) (l0_0 : List (List (S104))) (a1 : Int) (r : Int) (w : World) (hr0_0 : Kd.C (Kd.slice 104 k104) w A0_0 l0_0.length l0_0) (hc0_0 : l0_0.length ≤ c0_0) (h : laws_heldLedger.f k l0_0 a1 = some r) :
  Calls Try.prog 79 #[.agg #[.slice A0_0 l0_0.length c0_0], .int .i64 a1] w fun e w' => e = .returned (.int .i64 r) ∧ Below w.heap.size w w' := by
 have hu26 := Try.underlying26
 have HR0_0 := am hr0_0
 have HC0_0 := am hc0_0
 clear hr0_0 hc0_0
 have HB := am (Below.refl w.heap.size w)
 have H : ((laws_heldBalanceSS.f k l0_0 a1).bind fun t467 => (if t467 < 0 then (some (-1)) else (some t467))) = some r := h
 clear h
 replace H := ob H
 obtain ⟨t467, A30, H⟩ := H
 replace H : (if t467 < 0 then (some (-1)) else (some t467)) = some r := H
 have A3 := am A30
 clear A30
 by_cases c4 : t467 < 0
 ·rw [if_pos c4] at H
  have c4b0 := decide_eq_true c4
  clear c4
  obtain rfl := Option.some.inj H
  go_enter Try.func79, Try.ntmps79
  go_wp2_with (first | ((with_reducible refine gate_dst (N := 2) rfl ?_); refine q_box (N := 2) (cs := #[.slice A0_0 l0_0.length c0_0]) (t := 26) ?_; intro gb466 hg w5 hbox hb; have n0_ := am (below_step bq hb); have n1_ := am (hbox); have n2_ := am ((q_g hg bq : w.heap.size ≤ gb466)); have n3_ := n2_; revert n0_ n1_ n2_ n3_; clear HB; intro HB BK466 GW466 GE466; clear hb hbox hg; obtain ⟨hcz6_0, hfz6_0⟩ := q_1 BK466.out) | ((with_reducible refine gate_callee (f := 110) rfl ?_); refine goesLq (some 8) rfl rfl Try.func110 (by kernel_rfl) rfl #[.slice A0_0 l0_0.length c0_0, .int .i64 a1] rfl ?_; (with_reducible refine (laws_heldBalanceSS.calls k _ _ l0_0 a1 t467 _ ?side1 ?side2 A3.out).mono ?_); (case side1 => exact q_c ((Kd.C_below HR0_0.out HB.out))); (case side2 => exact HC0_0.out); rintro e w' ⟨rfl, ⟨nd, rfl⟩⟩; refine ⟨_, rfl, ?_⟩))
  go_ret
  exact ⟨q_e, bq⟩
 ·rw [if_neg c4] at H
  have c4b0 := decide_eq_false c4
  clear c4
  obtain rfl := Option.some.inj H
  go_enter Try.func79, Try.ntmps79
  go_wp2_with (first | ((with_reducible refine gate_dst (N := 2) rfl ?_); refine q_box (N := 2) (cs := #[.slice A0_0 l0_0.length c0_0]) (t := 26) ?_; intro gb466 hg w7 hbox hb; have n0_ := am (below_step bq hb); have n1_ := am (hbox); have n2_ := am ((q_g hg bq : w.heap.size ≤ gb466)); have n3_ := n2_; revert n0_ n1_ n2_ n3_; clear HB; intro HB BK466 GW466 GE466; clear hb hbox hg; obtain ⟨hcz8_0, hfz8_0⟩ := q_1 BK466.out) | ((with_reducible refine gate_callee (f := 110) rfl ?_); refine goesLq (some 8) rfl rfl Try.func110 (by kernel_rfl) rfl #[.slice A0_0 l0_0.length c0_0, .int .i64 a1] rfl ?_; (with_reducible refine (laws_heldBalanceSS.calls k _ _ l0_0 a1 t467 _ ?side1 ?side2 A3.out).mono ?_); (case side1 => exact q_c ((Kd.C_below HR0_0.out HB.out))); (case side2 => exact HC0_0.out); rintro e w' ⟨rfl, ⟨nd, rfl⟩⟩; refine ⟨_, rfl, ?_⟩))
  go_ret
  exact ⟨q_e, bq⟩

/-! ### laws_heldInt64S: function 88 -/
def laws_heldInt64S.l0 : Nat → List Int → Int → Int → Option (Int)
  | 0, _, _, _ => none
  | k + 1, x0, x1, x5 => if x5 < (x0.length : Int) then (if 0 ≤ x5 then (if (rd x0 x5) = x1 then (laws_heldInt64S.l0 k x0 (wrap64 (x1 + 1)) (wrap64 (x5 + 1))) else (some (-1))) else (none)) else (some x1)
def laws_heldInt64S.f (k : Nat) (l0 : List Int) (a1 : Int) : Option (Int) := laws_heldInt64S.l0 k l0 a1 0
theorem laws_heldInt64S.calls (k : Nat) (A0 : Option Addr) (c0 : Nat) (l0 : List Int) (a1 : Int) (r : Int) (w : World) (hr0 : Kd.C (Kd.int .i64) w A0 l0.length l0) (hc0 : l0.length ≤ c0) (h : laws_heldInt64S.f k l0 a1 = some r) :
  Calls Try.prog 88 #[.slice A0 l0.length c0, .int .i64 a1] w fun e w' => e = .returned (.int .i64 r) ∧ Drawn0 w w' := by
 have HR0 := am hr0
 have HC0 := am hc0
 clear hr0 hc0
 have H : (laws_heldInt64S.l0 k l0 a1 0) = some r := h
 clear h
 have H' := am H
 clear H
 go_enter Try.func88, Try.ntmps88
 go_wp2
 go_loopg [1, 5] k (fun kq v1 v5 w' => ∃ (x1_1 : Int) (x5_1 : Int), v1 = .int .i64 x1_1 ∧ v5 = .int .i64 x5_1 ∧ Aside0 (laws_heldInt64S.l0 kq l0 x1_1 x5_1 = some r) ∧ Aside0 (kq ≤ k) ∧ Drawn0 w w')
 case atStart => exact ⟨(a1), (0), q_i, q_i, H', ⟨Nat.le_refl _⟩, q_0⟩
 case round =>
  clear H'
  (try clear p2)
  obtain ⟨x1_1, x5_1, rfl, rfl, HA, HK1, ⟨m1, rfl⟩⟩ := hrel
  cases gk with
  | zero => exact absurd HA.out (by simp [laws_heldInt64S.l0])
  | succ k1 =>
   have H := HA.out
   clear HA
   simp only [laws_heldInt64S.l0] at H
   by_cases c3 : x5_1 < (l0.length : Int)
   ·rw [if_pos c3] at H
    have c3b0 := decide_eq_true c3
    clear c3
    by_cases c4 : 0 ≤ x5_1
    ·rw [if_pos c4] at H
     have c4b0 := decide_eq_true c4
     clear c4
     by_cases c5 : (rd l0 x5_1) = x1_1
     ·rw [if_pos c5] at H
      have c5b0 : ((rd l0 x5_1) == x1_1) = true := beq_iff_eq.mpr c5
      have c5b1 : ((rd l0 x5_1) != x1_1) = false := bne_eq_false_iff_eq.mpr c5
      clear c5
      have H' := am H
      clear H
      have p468 : 0 ≤ (x5_1 : Int) := q_d
      have q468 : x5_1 < (l0.length : Int) := q_d
      obtain ⟨ad468, e468, hx468_0⟩ := Kd.at_int HR0.out x5_1 p468 q468
      cases e468
      replace p468 := eq_true p468
      replace q468 := eq_true q468
      go_wp2
      go_roundg k1
      case measure => have := HK1.out; omega
      case rel => exact ⟨(wrap64 (x1_1 + 1)), (wrap64 (x5_1 + 1)), q_i, q_i, H', ⟨by have := HK1.out; omega⟩, q_0⟩
     ·rw [if_neg c5] at H
      have c5b0 : ((rd l0 x5_1) == x1_1) = false := beq_eq_false_iff_ne.mpr c5
      have c5b1 : ((rd l0 x5_1) != x1_1) = true := bne_iff_ne.mpr c5
      obtain rfl := Option.some.inj H
      have p468 : 0 ≤ (x5_1 : Int) := q_d
      have q468 : x5_1 < (l0.length : Int) := q_d
      obtain ⟨ad468, e468, hx468_0⟩ := Kd.at_int HR0.out x5_1 p468 q468
      cases e468
      replace p468 := eq_true p468
      replace q468 := eq_true q468
      go_wp2
      go_ret
      exact ⟨by first | rfl | (simp; done) | (simp [*]; done), q_0⟩
    ·rw [if_neg c4] at H
     exact absurd H (by simp)
   ·rw [if_neg c3] at H
    have c3b0 := decide_eq_false c3
    clear c3
    obtain rfl := Option.some.inj H
    go_wp2
    go_ret
    exact ⟨by first | rfl | (simp; done) | (simp [*]; done), q_0⟩

/-! ### laws_heldOutcomesResult: function 45 -/
def laws_heldOutcomesResult.f (k : Nat) (a0_0 : Int) (l0_1 : List Int) (l0_2 : List (List (S104))) (a1 : Int) : Option (Int) := (laws_heldInt64S.f k l0_1 a1).bind fun t470 => (if t470 < 0 then (some (-1)) else ((laws_heldLedger.f k l0_2 t470).bind fun t471 => (if t471 < 0 then (some (-1)) else (some t471))))
theorem laws_heldOutcomesResult.calls (k : Nat) (a0_0 : Int) (A0_1 : Option Addr) (c0_1 : Nat) (l0_1 : List Int) (A0_2 : Option Addr) (c0_2 : Nat) (l0_2 : List (List (S104))) (a1 : Int) (r : Int) (w : World) (hr0_1 : Kd.C (Kd.int .i64) w A0_1 l0_1.length l0_1) (hc0_1 : l0_1.length ≤ c0_1) (hr0_2 : Kd.C (Kd.slice 104 k104) w A0_2 l0_2.length l0_2) (hc0_2 : l0_2.length ≤ c0_2) (h : laws_heldOutcomesResult.f k a0_0 l0_1 l0_2 a1 = some r) :
  Calls Try.prog 45 #[.agg #[.int .i64 a0_0, .slice A0_1 l0_1.length c0_1, .slice A0_2 l0_2.length c0_2], .int .i64 a1] w fun e w' => e = .returned (.int .i64 r) ∧ Below w.heap.size w w' := by
 have hu32 := Try.underlying32
 have hu26 := Try.underlying26
 have HR0_1 := am hr0_1
 have HC0_1 := am hc0_1
 clear hr0_1 hc0_1
 have HR0_2 := am hr0_2
 have HC0_2 := am hc0_2
 clear hr0_2 hc0_2
 have HB := am (Below.refl w.heap.size w)
 have H : ((laws_heldInt64S.f k l0_1 a1).bind fun t470 => (if t470 < 0 then (some (-1)) else ((laws_heldLedger.f k l0_2 t470).bind fun t471 => (if t471 < 0 then (some (-1)) else (some t471))))) = some r := h
 clear h
 replace H := ob H
 obtain ⟨t470, A30, H⟩ := H
 replace H : (if t470 < 0 then (some (-1)) else ((laws_heldLedger.f k l0_2 t470).bind fun t471 => (if t471 < 0 then (some (-1)) else (some t471)))) = some r := H
 have A3 := am A30
 clear A30
 by_cases c4 : t470 < 0
 ·rw [if_pos c4] at H
  have c4b0 := decide_eq_true c4
  clear c4
  obtain rfl := Option.some.inj H
  go_enter Try.func45, Try.ntmps45
  go_wp2_with (first | ((with_reducible refine gate_dst (N := 2) rfl ?_); refine q_box (N := 2) (cs := #[.int .i64 a0_0, .slice A0_1 l0_1.length c0_1, .slice A0_2 l0_2.length c0_2]) (t := 32) ?_; intro gb469 hg w5 hbox hb; have n0_ := am (below_step bq hb); have n1_ := am (hbox); have n2_ := am ((q_g hg bq : w.heap.size ≤ gb469)); have n3_ := n2_; revert n0_ n1_ n2_ n3_; clear HB; intro HB BK469 GW469 GE469; clear hb hbox hg; obtain ⟨hcz6_0, hcz6_1, hcz6_2, hfz6_0, hfz6_1, hfz6_2⟩ := q_3 BK469.out) | ((with_reducible refine gate_callee (f := 88) rfl ?_); refine goesLq (some 8) rfl rfl Try.func88 (by kernel_rfl) rfl #[.slice A0_1 l0_1.length c0_1, .int .i64 a1] rfl ?_; (with_reducible refine (laws_heldInt64S.calls k _ _ l0_1 a1 t470 _ ?side1 ?side2 A3.out).mono ?_); (case side1 => exact q_c ((Kd.C_below HR0_1.out HB.out))); (case side2 => exact HC0_1.out); rintro e w' ⟨rfl, ⟨nd, rfl⟩⟩; refine ⟨_, rfl, ?_⟩))
  go_ret
  exact ⟨q_e, bq⟩
 ·rw [if_neg c4] at H
  have c4b0 := decide_eq_false c4
  clear c4
  replace H := ob H
  obtain ⟨t471, A70, H⟩ := H
  replace H : (if t471 < 0 then (some (-1)) else (some t471)) = some r := H
  have A7 := am A70
  clear A70
  by_cases c8 : t471 < 0
  ·rw [if_pos c8] at H
   have c8b0 := decide_eq_true c8
   clear c8
   obtain rfl := Option.some.inj H
   go_enter Try.func45, Try.ntmps45
   go_wp2_with (first | ((with_reducible refine gate_dst (N := 2) rfl ?_); refine q_box (N := 2) (cs := #[.int .i64 a0_0, .slice A0_1 l0_1.length c0_1, .slice A0_2 l0_2.length c0_2]) (t := 32) ?_; intro gb469 hg w9 hbox hb; have n0_ := am (below_step bq hb); have n1_ := am (hbox); have n2_ := am ((q_g hg bq : w.heap.size ≤ gb469)); have n3_ := n2_; revert n0_ n1_ n2_ n3_; clear HB; intro HB BK469 GW469 GE469; clear hb hbox hg; obtain ⟨hcz10_0, hcz10_1, hcz10_2, hfz10_0, hfz10_1, hfz10_2⟩ := q_3 BK469.out) | ((with_reducible refine gate_callee (f := 88) rfl ?_); refine goesLq (some 8) rfl rfl Try.func88 (by kernel_rfl) rfl #[.slice A0_1 l0_1.length c0_1, .int .i64 a1] rfl ?_; (with_reducible refine (laws_heldInt64S.calls k _ _ l0_1 a1 t470 _ ?side1 ?side2 A3.out).mono ?_); (case side1 => exact q_c ((Kd.C_below HR0_1.out HB.out))); (case side2 => exact HC0_1.out); rintro e w' ⟨rfl, ⟨nd, rfl⟩⟩; refine ⟨_, rfl, ?_⟩) | ((with_reducible refine gate_callee (f := 79) rfl ?_); refine goesLq (some 14) rfl rfl Try.func79 (by kernel_rfl) rfl #[.agg #[.slice A0_2 l0_2.length c0_2], .int .i64 t470] rfl ?_; (with_reducible refine (laws_heldLedger.calls k _ _ l0_2 t470 t471 _ ?side1 ?side2 A7.out).mono ?_); (case side1 => exact q_c ((Kd.C_below HR0_2.out bq))); (case side2 => exact HC0_2.out); rintro e w11 ⟨rfl, hb⟩; refine ⟨_, rfl, ?_⟩; have n0_ := am (blk_below (q_b BK469.out) hb); have n1_ := am (below_step bq hb); revert n0_ n1_; clear BK469 HB; intro BK469 HB; (try clear hb); (try clear hb2); (try clear hk); (try clear hi)))
   go_ret
   exact ⟨q_e, bq⟩
  ·rw [if_neg c8] at H
   have c8b0 := decide_eq_false c8
   clear c8
   obtain rfl := Option.some.inj H
   go_enter Try.func45, Try.ntmps45
   go_wp2_with (first | ((with_reducible refine gate_dst (N := 2) rfl ?_); refine q_box (N := 2) (cs := #[.int .i64 a0_0, .slice A0_1 l0_1.length c0_1, .slice A0_2 l0_2.length c0_2]) (t := 32) ?_; intro gb469 hg w12 hbox hb; have n0_ := am (below_step bq hb); have n1_ := am (hbox); have n2_ := am ((q_g hg bq : w.heap.size ≤ gb469)); have n3_ := n2_; revert n0_ n1_ n2_ n3_; clear HB; intro HB BK469 GW469 GE469; clear hb hbox hg; obtain ⟨hcz13_0, hcz13_1, hcz13_2, hfz13_0, hfz13_1, hfz13_2⟩ := q_3 BK469.out) | ((with_reducible refine gate_callee (f := 88) rfl ?_); refine goesLq (some 8) rfl rfl Try.func88 (by kernel_rfl) rfl #[.slice A0_1 l0_1.length c0_1, .int .i64 a1] rfl ?_; (with_reducible refine (laws_heldInt64S.calls k _ _ l0_1 a1 t470 _ ?side1 ?side2 A3.out).mono ?_); (case side1 => exact q_c ((Kd.C_below HR0_1.out HB.out))); (case side2 => exact HC0_1.out); rintro e w' ⟨rfl, ⟨nd, rfl⟩⟩; refine ⟨_, rfl, ?_⟩) | ((with_reducible refine gate_callee (f := 79) rfl ?_); refine goesLq (some 14) rfl rfl Try.func79 (by kernel_rfl) rfl #[.agg #[.slice A0_2 l0_2.length c0_2], .int .i64 t470] rfl ?_; (with_reducible refine (laws_heldLedger.calls k _ _ l0_2 t470 t471 _ ?side1 ?side2 A7.out).mono ?_); (case side1 => exact q_c ((Kd.C_below HR0_2.out bq))); (case side2 => exact HC0_2.out); rintro e w14 ⟨rfl, hb⟩; refine ⟨_, rfl, ?_⟩; have n0_ := am (blk_below (q_b BK469.out) hb); have n1_ := am (below_step bq hb); revert n0_ n1_; clear BK469 HB; intro BK469 HB; (try clear hb); (try clear hb2); (try clear hk); (try clear hi)))
   go_ret
   exact ⟨q_e, bq⟩

end Go.Proofs.Ytanegggacfmkcaa.PFnExactSettleAll
