/- Functions that a law reaches, as plain Lean functions, with the proof that the machine comes to their answers. No conditions. -/
import Derived.Test.YtdhlcnlcpjlliaaPFnExactMergeTablesx0
import Derived.Test.YtdhlcnlcpjlliaaPFnExactMergeTablesx1
import Derived.Test.YtdhlcnlcpjlliaaPFnExactMergeTablesx3
import Derived.Test.YtdhlcnlcpjlliaaPFnExactMergeTablesx10
import Derived.Test.YtdhlcnlcpjlliaaPFnExactMergeTablesx13
namespace Go.Proofs.Ytdhlcnlcpjlliaa.PFnExactMergeTables
open Go.RowKit Go.Proofs.YtdhlcnlcpjlliaaW.PrintWords Go.Proofs.YtdhlcnlcpjlliaaW.PrintLast Go.Proofs.YtdhlcnlcpjlliaaW.PrintMore
attribute [local go_sem] max2_int min2_int max_two min_two max_three min_three max_four min_four   -- for this text's walks alone
set_option linter.unusedVariables false
set_option linter.unusedSimpArgs false
set_option maxHeartbeats 8000000
set_option maxRecDepth 100000

/-! ### laws_toRowSS: function 59 -/
def laws_toRowSS.l0 : Nat → List (List (S84)) → List (List (S49)) → Int → Option ((List (List (S49))))
  | 0, _, _, _ => none
  | k + 1, x0, x3, x4 => if x4 < (x0.length : Int) then (if 0 ≤ x4 then ((laws_toRowS.f k (rd_L7 x0 x4)).bind fun t334 => (if x4 < (x3.length : Int) then (laws_toRowSS.l0 k x0 (x3.set (x4 : Int).toNat t334) (wrap64 (x4 + 1))) else (none))) else (none)) else (some x3)
def laws_toRowSS.f (k : Nat) (l0 : List (List (S84))) : Option ((List (List (S49)))) := if 0 ≤ (l0.length : Int) then (if ((l0.length : Int) : Int).toNat ≤ 11728124029610 then (laws_toRowSS.l0 k l0 (List.replicate ((l0.length : Int) : Int).toNat []) 0) else (none)) else (none)
theorem laws_toRowSS.calls (k : Nat) (A0 : Option Addr) (c0 : Nat) (l0 : List (List (S84))) (r : List (List (S49))) (w : World) (hr0 : Kd.C (Kd.slice 84 k84) w A0 l0.length l0) (hc0 : l0.length ≤ c0) (h : laws_toRowSS.f k l0 = some r) :
  Calls Try.prog 59 #[.slice A0 l0.length c0] w fun e w' => ∃ v0_ : Value, e = .returned (v0_) ∧ Kd.S (Kd.slice 49 k49) 25 w' w.heap.size (fun _ => True) v0_ r ∧ Below w.heap.size w w' := by
 have HR0 := am hr0
 have HC0 := am hc0
 clear hr0 hc0
 have HB := am (Below.refl w.heap.size w)
 have H : (if 0 ≤ (l0.length : Int) then (if ((l0.length : Int) : Int).toNat ≤ 11728124029610 then (laws_toRowSS.l0 k l0 (List.replicate ((l0.length : Int) : Int).toNat []) 0) else (none)) else (none)) = some r := h
 clear h
 by_cases c2 : 0 ≤ (l0.length : Int)
 ·rw [if_pos c2] at H
  have c2b0 := eq_true c2
  have c2b1 := decide_eq_true c2
  clear c2
  by_cases c3 : ((l0.length : Int) : Int).toNat ≤ 11728124029610
  ·rw [if_pos c3] at H
   have c3b0 := eq_true c3
   have c3b1 := decide_eq_true c3
   clear c3
   obtain ⟨y330, hy330⟩ : ∃ y_ : List (List (S49)), y_ = (List.replicate ((l0.length : Int) : Int).toNat []) := ⟨_, rfl⟩
   replace H : (laws_toRowSS.l0 k l0 y330 0) = some r := q_h hy330 H
   have Ny330 := am hy330
   clear hy330
   have H' := am H
   clear H
   go_enter Try.func59, Try.ntmps59
   go_wp2_with (first | ((with_reducible refine gate_dst (N := 7) rfl ?_); refine Kd.S_make (Kd.slice 49 k49) _ 25 rfl (N := 7) rfl 74 _ _ rfl (l0.length : Int) rfl rfl Try.underlying74 (.slice none 0 0) 24 info25 rfl (by decide) (by omega) [] (ok := fun _ => True) (okp := fun _ => True) ⟨_, rfl, Kd.R_nil _ _ _ _ _⟩ (fun _ hk => hk) trivial q_d (Nat.le_trans (Nat.mul_le_mul_right _ (q_d : (l0.length : Int).toNat ≤ 11728124029610)) (by omega)) (Below.refl _ _) (Nat.le_refl _) ?_; intro v331 w4 ho5 hb hg_ hnew_; clear hg_ hnew_; (first | rw [← Ny330.out] at ho5 | (simp only [Int.reduceToNat] at ho5; rw [← Ny330.out] at ho5)); have n0_ := am (Kd.S_lower ho5 (below_size bq)); have n1_ := am (below_step bq hb); revert n0_ n1_; clear HB; intro HO332 HB; clear hb ho5))
   go_loopg [4] k (fun kq v4 w' => ∃ (x3_1 : List (List (S49))) (x4_1 : Int), v4 = .int .i64 x4_1 ∧ Aside0 (laws_toRowSS.l0 kq l0 x3_1 x4_1 = some r) ∧ Aside0 (kq ≤ k) ∧ Aside0 (Kd.S (Kd.slice 49 k49) 25 w' w.heap.size (fun _ => True) v331 x3_1) ∧ Aside0 (Below w.heap.size w w'))
   case atStart => exact ⟨(y330), (0), q_i, H', ⟨Nat.le_refl _⟩, ⟨q_s (HO332.out)⟩, ⟨bq⟩⟩
   case round =>
    clear H'
    (try clear c2); (try clear c2b0); (try clear c2b1); (try clear p2); (try clear c3); (try clear c3b0); (try clear c3b1); (try clear c5)
    obtain ⟨x3_1, x4_1, rfl, HA, HK1, HO_3, HB⟩ := hrel
    cases gk with
    | zero => exact absurd HA.out (by simp [laws_toRowSS.l0])
    | succ k1 =>
     have H := HA.out
     clear HA
     simp only [laws_toRowSS.l0] at H
     by_cases c6 : x4_1 < (l0.length : Int)
     ·rw [if_pos c6] at H
      have c6b0 := decide_eq_true c6
      clear c6
      by_cases c7 : 0 ≤ x4_1
      ·rw [if_pos c7] at H
       have c7b0 := decide_eq_true c7
       clear c7
       replace H := ob H
       obtain ⟨t334, A80, H⟩ := H
       replace H : (if x4_1 < (x3_1.length : Int) then (laws_toRowSS.l0 k1 l0 (x3_1.set (x4_1 : Int).toNat t334) (wrap64 (x4_1 + 1))) else (none)) = some r := H
       have A8 := am A80
       clear A80
       by_cases c9 : x4_1 < (x3_1.length : Int)
       ·rw [if_pos c9] at H
        have c9b0 := decide_eq_true c9
        clear c9
        obtain ⟨y337, hy337⟩ : ∃ y_ : List (List (S49)), y_ = (x3_1.set (x4_1 : Int).toNat t334) := ⟨_, rfl⟩
        replace H : (laws_toRowSS.l0 k1 l0 y337 (wrap64 (x4_1 + 1))) = some r := q_h hy337 H
        have Ny337 := am hy337
        clear hy337
        have H' := am H
        clear H
        have p333 : 0 ≤ (x4_1 : Int) := q_d
        have q333 : x4_1 < (l0.length : Int) := q_d
        obtain ⟨ad333, A333_0, c333_0, e333, hx333_0, hl333_0, hi333_0⟩ := at_L7 HR0.out x4_1 p333 q333
        cases e333
        replace hx333_0 := q_x HB.out hx333_0
        have HR333_0 := am hi333_0
        have HC333_0 := am hl333_0
        clear hi333_0 hl333_0
        replace p333 := eq_true p333
        replace q333 := eq_true q333
        go_wp2_with (first | ((with_reducible refine gate_callee (f := 17) rfl ?_); refine goesLq (some 20) rfl rfl Try.func17 (by kernel_rfl) rfl #[.slice A333_0 (rd_L7 l0 x4_1).length c333_0] rfl ?_; (with_reducible refine (laws_toRowS.calls k1 _ _ (rd_L7 l0 x4_1) t334 _ ?side1 ?side2 A8.out).mono ?_); (case side1 => exact q_c ((Kd.C_below HR333_0.out HB.out))); (case side2 => exact HC333_0.out); rintro e w11 ⟨v335, rfl, ho0, hb⟩; refine ⟨_, rfl, ?_⟩; have n0_ := am (Kd.S_elder' (q_s (HO_3.out)) (Kd.R_base ho0) hb); have n1_ := am (Kd.R_lower ho0 (below_size bq)); have n2_ := am (below_step bq hb); revert n0_ n1_ n2_; clear HO_3 HB; intro HO_3 HO336 HB; (try clear hb); (try clear hb2); (try clear hk); (try clear hi); (try clear ho0); have p10 : 0 ≤ (x4_1 : Int) := q_d; have q10 : (x4_1 : Int) < ((x3_1.length : Int) : Int) := q_d; obtain ⟨go10, co10, eo10, gb10, gl10, cl10, HG10⟩ := Kd.S_form HO_3.out (by omega); (first | cases eo10 | (injection eo10 with ea_ en_ ec_; (first | subst ea_ | (injection ea_ with ea_; subst ea_)); subst ec_; clear en_)); have GB10 := am gb10; have GG10 := am HG10; clear gb10 gl10 HG10; obtain ⟨_, ce10, hcl10, hM10, hcc10, hfr10, _, _⟩ := Kd.S_elem HO_3.out [] (x4_1 : Int) p10 q10; obtain ⟨ve10_0, rfl, ge10_0⟩ := hM10; have hx10_0 := hcc10 0 _ rfl; have hf10_0 := hfr10 0; (try simp only [show ((Kd.slice 49 k49)).sz = 1 from rfl, Nat.mul_one, Nat.add_zero] at hx10_0); (try simp only [show ((Kd.slice 49 k49)).sz = 1 from rfl, Nat.mul_one, Nat.add_zero] at hf10_0); clear hcl10 hcc10 hfr10; (try clear hM10); replace p10 := eq_true p10; replace q10 := eq_true q10; have n_ := am (Kd.S_mono (ok' := (fun k_ => some k_ ≠ (v335 : Value).ownBlock)) HO_3.out (fun k_ hk => hk.2)); clear HO_3; have HO_3 := n_; clear n_; have HX12 := am (show Kd.S (Kd.slice 49 k49) 25 w11 w.heap.size (fun k_ => ((fun _ => True)) k_ ∧ ¬ ((fun k_ => some k_ = (v335 : Value).ownBlock)) k_) (.slice (some ⟨go10, 0, none⟩) x3_1.length co10) x3_1 from (by (with_reducible repeat (first | apply Kd.S_alloc | apply Kd.S_drewN | apply Kd.S_drew)); exact Kd.S_mono HO_3.out (fun k_ hk => ⟨trivial, fun e_ => hk e_⟩))); obtain ⟨oki12, ce12, hcl12, hM12, hcc12, hfr12, hoki12, hH12⟩ := Kd.S_elem HX12.out [] (x4_1 : Int) q_d (by have h_ : (x4_1 : Int) < ((x3_1.length : Int) : Int) := q_d; first | exact h_ | (have e_ := (Kd.S_reads' HO_3.out).1; omega) | simpa using h_); obtain ⟨ve12_0, rfl, ge12_0⟩ := hM12; have HP12 := Kd.S_seg hH12 q_d (by have h_ : (x4_1 : Int) < ((x3_1.length : Int) : Int) := q_d; first | exact h_ | (have e_ := (Kd.S_reads' HO_3.out).1; omega) | simpa using h_) (seg := [v335]) (j := 0) (show 1 ≤ 1 from by decide) (x' := t334) (Kd.M_row (Kd.R_mono (Kd.R_tight rfl (Kd.R_mono (ok' := fun k_ => ((fun _ => True)) k_ ∧ k_ ≠ go10) (Kd.R_apart' (HO336.out) (Kd.S_typed HO_3.out) (by decide)) (fun k_ hk => ⟨trivial, fun e_ => (hk.2) (by rw [e_]; rfl)⟩))) (fun _ h_ => Or.inr (h_)))) (fun _ hk => hk) (fun k_ hk_ => ((Kd.R_mono (ok' := fun k_ => ((fun _ => True)) k_ ∧ k_ ≠ go10) (Kd.R_apart' (HO336.out) (Kd.S_typed HO_3.out) (by decide)) (fun k_ hk => ⟨trivial, fun e_ => (hk.2) (by rw [e_]; rfl)⟩))).1 k_ hk_.symm); have hx12_0 := hcc12 0 _ rfl; (try simp only [show ((Kd.slice 49 k49)).sz = 1 from rfl, Nat.mul_one, Nat.add_zero] at hx12_0); have hf12_0 := hfr12 0; (try simp only [show ((Kd.slice 49 k49)).sz = 1 from rfl, Nat.mul_one, Nat.add_zero] at hf12_0); clear hcl12 hcc12 hfr12 hoki12 hH12; (try clear hM12); (try simp only [show ((Kd.slice 49 k49)).sz = 1 from rfl, Nat.mul_one, Nat.add_zero] at HP12)) | ((with_reducible refine gate_store (t := 25) (p := 21) rfl ?_); refine store_event (t := 25) (p := 21) (v := ?vo_w13) (w1 := (w11.setCell ⟨go10, (x4_1 : Int).toNat, none⟩ (v335))) ?hg ?ho ?hn ?hr ?_; (case ho => rfl); (case hg => rfl); (case hn => rfl); (case hr => first | (go_simp; done) | (go_simp; rfl) | (obtain ⟨Ao_, co_, eo_⟩ := Kd.R_slice HO336.out; rw [eo_]; go_simp; done) | (obtain ⟨Ao_, co_, eo_⟩ := Kd.R_slice HO336.out; rw [eo_]; go_simp; rfl)); intro w13 hw; have hg : w11.grownBy w13 (some go10) := (by rw [hw]; exact HP12.2); have hp_ : Kd.S (Kd.slice 49 k49) 25 w13 w.heap.size (fun _ => True) (.slice (some ⟨go10, 0, none⟩) x3_1.length co10) y337 := (by rw [hw, Ny337.out]; exact HP12.1); clear HP12; have n0_ := am (hp_); have n1_ := am ((by rw [hw]; exact below_set (HB.out) GB10.out : Below w.heap.size w w13)); revert n0_ n1_; clear HO_3 HB HO336; intro HO_3 HB; clear hg hw hp_))
        go_roundg k1
        case measure => have := HK1.out; omega
        case rel => exact ⟨(y337), (wrap64 (x4_1 + 1)), q_i, H', ⟨by have := HK1.out; omega⟩, ⟨q_s (HO_3.out)⟩, ⟨bq⟩⟩
       ·rw [if_neg c9] at H
        exact absurd H (by simp)
      ·rw [if_neg c7] at H
       exact absurd H (by simp)
     ·rw [if_neg c6] at H
      have c6b0 := decide_eq_false c6
      clear c6
      obtain rfl := Option.some.inj H
      go_wp2
      go_ret
      exact ⟨_, q_e, q_s (HO_3.out), bq⟩
  ·rw [if_neg c3] at H
   exact absurd H (by simp)
 ·rw [if_neg c2] at H
  exact absurd H (by simp)

/-! ### laws_eqRowSS: function 60 -/
def laws_eqRowSS.l0 : Nat → List (List (S49)) → List (List (S49)) → Int → Option (Bool)
  | 0, _, _, _ => none
  | k + 1, x0, x1, x5 => if x5 < (x0.length : Int) then (if 0 ≤ x5 then (if x5 < (x1.length : Int) then ((laws_eqRowS.f k (rd_L5 x0 x5) (rd_L5 x1 x5)).bind fun t340 => (if t340 = true then (laws_eqRowSS.l0 k x0 x1 (wrap64 (x5 + 1))) else (some false))) else (none)) else (none)) else (some true)
def laws_eqRowSS.f (k : Nat) (l0 : List (List (S49))) (l1 : List (List (S49))) : Option (Bool) := if (l0.length : Int) = (l1.length : Int) then (laws_eqRowSS.l0 k l0 l1 0) else (some false)
def laws_eqRowSS.T6 : Bool × List (List Nat × List Nat) := (true, [([], []), ([], []), ([0, 1], [0, 1]), ([2], [2]), ([], []), ([], []), ([4, 5], [4, 5]), ([6], [6]), ([3, 7], [3, 7]), ([8], [8])])
def laws_eqRowSS.B6 : List Nat := [0, 0, 3, 7, 0, 0, 48, 112, 255, 511]
theorem laws_eqRowSS.tab6 : rtab .any (opsOf Try.f60 6) = laws_eqRowSS.T6 := by kernel_rfl
theorem laws_eqRowSS.bits6 : waitsOk laws_eqRowSS.T6.2 laws_eqRowSS.B6 = true := by kernel_rfl
theorem laws_eqRowSS.calls (k : Nat) (A0 : Option Addr) (c0 : Nat) (l0 : List (List (S49))) (A1 : Option Addr) (c1 : Nat) (l1 : List (List (S49))) (r : Bool) (w : World) (hr0 : Kd.C (Kd.slice 49 k49) w A0 l0.length l0) (hc0 : l0.length ≤ c0) (hr1 : Kd.C (Kd.slice 49 k49) w A1 l1.length l1) (hc1 : l1.length ≤ c1) (h : laws_eqRowSS.f k l0 l1 = some r) :
  Calls Try.prog 60 #[.slice A0 l0.length c0, .slice A1 l1.length c1] w fun e w' => e = .returned (.bool r) ∧ Below w.heap.size w w' := by
 have HR0 := am hr0
 have HC0 := am hc0
 clear hr0 hc0
 have HR1 := am hr1
 have HC1 := am hc1
 clear hr1 hc1
 have HB := am (Below.refl w.heap.size w)
 have H : (if (l0.length : Int) = (l1.length : Int) then (laws_eqRowSS.l0 k l0 l1 0) else (some false)) = some r := h
 clear h
 by_cases c3 : (l0.length : Int) = (l1.length : Int)
 ·rw [if_pos c3] at H
  have c3b0 : ((l0.length : Int) == (l1.length : Int)) = true := beq_iff_eq.mpr c3
  have c3b1 : ((l0.length : Int) != (l1.length : Int)) = false := bne_eq_false_iff_eq.mpr c3
  have c3b2 : (l0.length == l1.length) = true := by first | simpa using c3 | (simp at c3 ⊢; omega)
  clear c3
  have H' := am H
  clear H
  go_enter Try.func60, Try.ntmps60
  go_wp2
  go_loopg [5] k (fun kq v5 w' => ∃ (x5_1 : Int), v5 = .int .i64 x5_1 ∧ Aside0 (laws_eqRowSS.l0 kq l0 l1 x5_1 = some r) ∧ Aside0 (kq ≤ k) ∧ Aside0 (Below w.heap.size w w'))
  case atStart => exact ⟨(0), q_i, H', ⟨Nat.le_refl _⟩, ⟨bq⟩⟩
  case round =>
   clear H'
   (try clear c1); (try clear p2); (try clear c3); (try clear c3b0); (try clear c3b1); (try clear c3b2)
   obtain ⟨x5_1, rfl, HA, HK1, HB⟩ := hrel
   cases gk with
   | zero => exact absurd HA.out (by simp [laws_eqRowSS.l0])
   | succ k1 =>
    have H := HA.out
    clear HA
    simp only [laws_eqRowSS.l0] at H
    by_cases c4 : x5_1 < (l0.length : Int)
    ·rw [if_pos c4] at H
     have c4b0 := decide_eq_true c4
     clear c4
     by_cases c5 : 0 ≤ x5_1
     ·rw [if_pos c5] at H
      have c5b0 := decide_eq_true c5
      clear c5
      by_cases c6 : x5_1 < (l1.length : Int)
      ·rw [if_pos c6] at H
       have c6b0 := decide_eq_true c6
       clear c6
       replace H := ob H
       obtain ⟨t340, A70, H⟩ := H
       replace H : (if t340 = true then (laws_eqRowSS.l0 k1 l0 l1 (wrap64 (x5_1 + 1))) else (some false)) = some r := H
       have A7 := am A70
       clear A70
       by_cases c8 : t340 = true
       ·subst c8
        have H1 : (laws_eqRowSS.l0 k1 l0 l1 (wrap64 (x5_1 + 1))) = some r := by rw [if_pos rfl] at H; exact H
        clear H
        have H := H1
        clear H1
        have H' := am H
        clear H
        try go_wp2
        have n0_ := am (below_drew1 HB.out)
        clear HB
        have HB := n0_
        clear n0_
        have p338 : 0 ≤ (x5_1 : Int) := q_d
        have q338 : x5_1 < (l0.length : Int) := q_d
        obtain ⟨ad338, A338_0, c338_0, e338, hx338_0, hl338_0, hi338_0⟩ := at_L5 HR0.out x5_1 p338 q338
        have hw338_0 := hx338_0
        cases e338
        replace hx338_0 := q_x HB.out hx338_0
        have HR338_0 := am hi338_0
        have HC338_0 := am hl338_0
        clear hi338_0 hl338_0
        replace p338 := eq_true p338
        replace q338 := eq_true q338
        have p339 : 0 ≤ (x5_1 : Int) := q_d
        have q339 : x5_1 < (l1.length : Int) := q_d
        obtain ⟨ad339, A339_0, c339_0, e339, hx339_0, hl339_0, hi339_0⟩ := at_L5 HR1.out x5_1 p339 q339
        have hw339_0 := hx339_0
        cases e339
        replace hx339_0 := q_x HB.out hx339_0
        have HR339_0 := am hi339_0
        have HC339_0 := am hl339_0
        clear hi339_0 hl339_0
        replace p339 := eq_true p339
        replace q339 := eq_true q339
        refine start_ (n := 10) (S := fun w' => w'.cell? (ad338.add (x5_1).toNat) = some (.slice A338_0 (rd_L5 l0 x5_1).length c338_0) ∧ w'.cell? (ad339.add (x5_1).toNat) = some (.slice A339_0 (rd_L5 l1 x5_1).length c339_0)) (ds := []) #[false, false, false, false, false, false, false, false, false, false] (by kernel_rfl) rfl rfl ⟨((HB.out.cell (wb hw338_0)).trans hw338_0), ((HB.out.cell (wb hw339_0)).trans hw339_0)⟩ (fun hHeld => ?_); refine with_tabW laws_eqRowSS.tab6 laws_eqRowSS.bits6 (fun HT_ HW_ => ?_)
        generalize wr.drew = w9 at HB HR338_0 HR339_0 hx338_0 hx339_0 hHeld ⊢
        refine q_p 0 (some 17) #[true, false, false, false, false, false, false, false, false, false] HT_.out ?_
        refine q_p 1 (some 18) #[true, true, false, false, false, false, false, false, false, false] HT_.out ?_
        refine q_p 2 (some 19) #[true, true, true, false, false, false, false, false, false, false] HT_.out ?_
        refine q_p 4 (some 21) #[true, true, true, false, true, false, false, false, false, false] HT_.out ?_
        refine q_p 5 (some 22) #[true, true, true, false, true, true, false, false, false, false] HT_.out ?_
        refine q_p 6 (some 23) #[true, true, true, false, true, true, true, false, false, false] HT_.out ?_
        refine q_t 3 (some 20) #[true, true, true, true, true, true, true, false, false, false] HT_.out HW_.out hHeld ?_
        refine q_t 7 (some 24) #[true, true, true, true, true, true, true, true, false, false] HT_.out HW_.out hHeld ?_
        refine one_ (i := 8) (N := some 25) #[true, true, true, true, true, true, true, true, true, false] rfl rfl (one_of HT_.out (by kernel_rfl)) (by decide) (fun K hK => ?_)
        refine goes_ Try.func19 (by kernel_rfl) rfl #[.slice A338_0 (rd_L5 l0 x5_1).length c338_0, .slice A339_0 (rd_L5 l1 x5_1).length c339_0] (by rfl) rfl rfl (by (try simp only [List.map_toArray, List.map_cons, List.map_nil]); first | done | rfl | (simp only [List.length_drop, List.length_take]; rfl)) ?_
        with_reducible refine (laws_eqRowS.calls k1 _ _ (rd_L5 l0 x5_1) _ _ (rd_L5 l1 x5_1) true _ ?side1 ?side2 ?side3 ?side4 A7.out).mono ?_
        (case side1 => exact q_c ((Kd.C_below HR338_0.out HB.out)))
        (case side2 => exact HC338_0.out)
        (case side3 => exact q_c ((Kd.C_below HR339_0.out HB.out)))
        (case side4 => exact HC339_0.out)
        rintro e w10 ⟨rfl, hb⟩
        refine ⟨_, rfl, ?_⟩
        have n0_ := am (below_step bq hb)
        clear HB
        have HB := n0_
        clear n0_
        (try clear hb)
        (try clear hb2)
        (try clear hk)
        (try clear hi)
        refine hK.out _ _ ⟨((HB.out.cell (wb hw338_0)).trans hw338_0), ((HB.out.cell (wb hw339_0)).trans hw339_0)⟩ (fun hHeld => ?_)
        clear hK K
        refine norm_ (a' := ?_) ?_ ?_
        rotate_left
        ·show Act.put _ (some 25) _ = _
         simp only [Act.put, List.setIfInBounds_toArray, List.set_cons_zero, List.set_cons_succ, i64_w, i32_w]
         rfl
        refine q_p 9 (some 26) #[true, true, true, true, true, true, true, true, true, true] HT_.out ?_
        refine done_ (done_of HT_.out (by kernel_rfl)) ?_
        try go_wp2
        go_roundg k1
        case measure => have := HK1.out; omega
        case rel => exact ⟨(wrap64 (x5_1 + 1)), q_i, H', ⟨by have := HK1.out; omega⟩, ⟨bq⟩⟩
       ·replace c8 := Bool.eq_false_iff.mpr c8
        subst c8
        have H1 : (some false) = some r := by rw [if_neg (show ¬ (false = true) by decide)] at H; exact H
        clear H
        have H := H1
        clear H1
        obtain rfl := Option.some.inj H
        try go_wp2
        have n0_ := am (below_drew1 HB.out)
        clear HB
        have HB := n0_
        clear n0_
        have p338 : 0 ≤ (x5_1 : Int) := q_d
        have q338 : x5_1 < (l0.length : Int) := q_d
        obtain ⟨ad338, A338_0, c338_0, e338, hx338_0, hl338_0, hi338_0⟩ := at_L5 HR0.out x5_1 p338 q338
        have hw338_0 := hx338_0
        cases e338
        replace hx338_0 := q_x HB.out hx338_0
        have HR338_0 := am hi338_0
        have HC338_0 := am hl338_0
        clear hi338_0 hl338_0
        replace p338 := eq_true p338
        replace q338 := eq_true q338
        have p339 : 0 ≤ (x5_1 : Int) := q_d
        have q339 : x5_1 < (l1.length : Int) := q_d
        obtain ⟨ad339, A339_0, c339_0, e339, hx339_0, hl339_0, hi339_0⟩ := at_L5 HR1.out x5_1 p339 q339
        have hw339_0 := hx339_0
        cases e339
        replace hx339_0 := q_x HB.out hx339_0
        have HR339_0 := am hi339_0
        have HC339_0 := am hl339_0
        clear hi339_0 hl339_0
        replace p339 := eq_true p339
        replace q339 := eq_true q339
        refine start_ (n := 10) (S := fun w' => w'.cell? (ad338.add (x5_1).toNat) = some (.slice A338_0 (rd_L5 l0 x5_1).length c338_0) ∧ w'.cell? (ad339.add (x5_1).toNat) = some (.slice A339_0 (rd_L5 l1 x5_1).length c339_0)) (ds := []) #[false, false, false, false, false, false, false, false, false, false] (by kernel_rfl) rfl rfl ⟨((HB.out.cell (wb hw338_0)).trans hw338_0), ((HB.out.cell (wb hw339_0)).trans hw339_0)⟩ (fun hHeld => ?_); refine with_tabW laws_eqRowSS.tab6 laws_eqRowSS.bits6 (fun HT_ HW_ => ?_)
        generalize wr.drew = w11 at HB HR338_0 HR339_0 hx338_0 hx339_0 hHeld ⊢
        refine q_p 0 (some 17) #[true, false, false, false, false, false, false, false, false, false] HT_.out ?_
        refine q_p 1 (some 18) #[true, true, false, false, false, false, false, false, false, false] HT_.out ?_
        refine q_p 2 (some 19) #[true, true, true, false, false, false, false, false, false, false] HT_.out ?_
        refine q_p 4 (some 21) #[true, true, true, false, true, false, false, false, false, false] HT_.out ?_
        refine q_p 5 (some 22) #[true, true, true, false, true, true, false, false, false, false] HT_.out ?_
        refine q_p 6 (some 23) #[true, true, true, false, true, true, true, false, false, false] HT_.out ?_
        refine q_t 3 (some 20) #[true, true, true, true, true, true, true, false, false, false] HT_.out HW_.out hHeld ?_
        refine q_t 7 (some 24) #[true, true, true, true, true, true, true, true, false, false] HT_.out HW_.out hHeld ?_
        refine one_ (i := 8) (N := some 25) #[true, true, true, true, true, true, true, true, true, false] rfl rfl (one_of HT_.out (by kernel_rfl)) (by decide) (fun K hK => ?_)
        refine goes_ Try.func19 (by kernel_rfl) rfl #[.slice A338_0 (rd_L5 l0 x5_1).length c338_0, .slice A339_0 (rd_L5 l1 x5_1).length c339_0] (by rfl) rfl rfl (by (try simp only [List.map_toArray, List.map_cons, List.map_nil]); first | done | rfl | (simp only [List.length_drop, List.length_take]; rfl)) ?_
        with_reducible refine (laws_eqRowS.calls k1 _ _ (rd_L5 l0 x5_1) _ _ (rd_L5 l1 x5_1) false _ ?side1 ?side2 ?side3 ?side4 A7.out).mono ?_
        (case side1 => exact q_c ((Kd.C_below HR338_0.out HB.out)))
        (case side2 => exact HC338_0.out)
        (case side3 => exact q_c ((Kd.C_below HR339_0.out HB.out)))
        (case side4 => exact HC339_0.out)
        rintro e w12 ⟨rfl, hb⟩
        refine ⟨_, rfl, ?_⟩
        have n0_ := am (below_step bq hb)
        clear HB
        have HB := n0_
        clear n0_
        (try clear hb)
        (try clear hb2)
        (try clear hk)
        (try clear hi)
        refine hK.out _ _ ⟨((HB.out.cell (wb hw338_0)).trans hw338_0), ((HB.out.cell (wb hw339_0)).trans hw339_0)⟩ (fun hHeld => ?_)
        clear hK K
        refine norm_ (a' := ?_) ?_ ?_
        rotate_left
        ·show Act.put _ (some 25) _ = _
         simp only [Act.put, List.setIfInBounds_toArray, List.set_cons_zero, List.set_cons_succ, i64_w, i32_w]
         rfl
        refine q_p 9 (some 26) #[true, true, true, true, true, true, true, true, true, true] HT_.out ?_
        refine done_ (done_of HT_.out (by kernel_rfl)) ?_
        try go_wp2
        go_ret
        exact ⟨q_e, bq⟩
      ·rw [if_neg c6] at H
       exact absurd H (by simp)
     ·rw [if_neg c5] at H
      exact absurd H (by simp)
    ·rw [if_neg c4] at H
     have c4b0 := decide_eq_false c4
     clear c4
     obtain rfl := Option.some.inj H
     go_wp2
     go_ret
     exact ⟨q_e, bq⟩
 ·rw [if_neg c3] at H
  have c3b0 : ((l0.length : Int) == (l1.length : Int)) = false := beq_eq_false_iff_ne.mpr c3
  have c3b1 : ((l0.length : Int) != (l1.length : Int)) = true := bne_iff_ne.mpr c3
  have c3b2 : (l0.length == l1.length) = false := by first | simpa using c3 | (simp at c3 ⊢; omega)
  obtain rfl := Option.some.inj H
  go_enter Try.func60, Try.ntmps60
  go_wp2
  go_ret
  exact ⟨q_e, bq⟩

/-! ### laws_markRowSS: function 61 -/
def laws_markRowSS.l0 : Nat → List (List (S49)) → Int → Int → Option (Int × List (List (S49)))
  | 0, _, _, _ => none
  | k + 1, x0, x1, x5 => if x5 < (x0.length : Int) then (if 0 ≤ x5 then ((laws_markRowS.f k (x0.getD x5.toNat []) x1).bind fun bt => (laws_markRowSS.l0 k (x0.set x5.toNat bt.2) bt.1 (wrap64 (x5 + 1)))) else (none)) else (some (x1, x0))
def laws_markRowSS.f (k : Nat) (l0 : List (List (S49))) (a1 : Int) : Option (Int × List (List (S49))) := laws_markRowSS.l0 k l0 a1 0
theorem laws_markRowSS.calls (k : Nat) (P0_ : Nat → Prop) (u9000_ : Value) (l0 : List (List (S49))) (a1 : Int) (r1 : Int) (r2 : List (List (S49))) (w0 w : World) (hB : Below w0.heap.size w0 w) (ho0 : Kd.S (Kd.slice 49 k49) 25 w w0.heap.size P0_ u9000_ l0) (h : laws_markRowSS.f k l0 a1 = some (r1, r2)) :
  Calls Try.prog 61 #[u9000_, .int .i64 a1] w fun e w' => e = .returned (.int .i64 r1) ∧ Kd.S (Kd.slice 49 k49) 25 w' w0.heap.size P0_ u9000_ r2 ∧ Below w0.heap.size w0 w' ∧ Kept w w' (fun k_ => P0_ k_) := by
 have HO0 := am ho0
 have HK := am (Kept.refl w (fun k_ => P0_ k_))
 have HB := am hB
 clear hB ho0
 have H' := am (show laws_markRowSS.l0 k l0 a1 0 = some (r1, r2) from h)
 clear h
 go_enter Try.func61, Try.ntmps61
 go_wp2
 go_loopg [1, 5] k (fun kq v1 v5 w' => ∃ (x0_1 : List (List (S49))) (x1_1 : Int) (x5_1 : Int), v1 = .int .i64 x1_1 ∧ v5 = .int .i64 x5_1 ∧ Aside0 (laws_markRowSS.l0 kq x0_1 x1_1 x5_1 = some (r1, r2)) ∧ Aside0 (kq ≤ k) ∧ Aside0 (Kd.S (Kd.slice 49 k49) 25 w' w0.heap.size P0_ u9000_ x0_1) ∧ Aside0 (Kept w w' (fun k_ => P0_ k_)) ∧ Aside0 (Below w0.heap.size w0 w'))
 case atStart => exact ⟨l0, a1, 0, rfl, rfl, H', ⟨Nat.le_refl _⟩, HO0, HK, HB⟩
 case round =>
  clear H'
  obtain ⟨x0_1, x1_1, x5_1, rfl, rfl, HA, HK1, HO_0, HK, HB⟩ := hrel
  cases gk with
  | zero => exact absurd HA.out (by simp [laws_markRowSS.l0])
  | succ k1 =>
   have H := HA.out
   clear HA
   simp only [laws_markRowSS.l0] at H
   by_cases c3 : x5_1 < (x0_1.length : Int)
   ·rw [if_pos c3] at H
    by_cases c4 : 0 ≤ x5_1
    ·rw [if_pos c4] at H
     obtain ⟨⟨t1, t2⟩, A10, H⟩ := ob H
     have A1 := am A10
     have H' := am (show laws_markRowSS.l0 k1 (x0_1.set x5_1.toNat t2) t1 (wrap64 (x5_1 + 1)) = some (r1, r2) from H)
     clear H A10
     obtain ⟨go5, co5, eo5, gb5, gl5, cl5, HG5⟩ := Kd.R_form (Kd.S_R HO_0.out) (by omega)
     subst eo5
     clear gb5 gl5 HG5
     obtain ⟨oki, cs_, hcl, hM, hcc, hfr, hoki, hH⟩ := Kd.S_elem HO_0.out [] x5_1 c4 c3
     obtain ⟨yi, hyi⟩ : ∃ y_ : (List (S49)), y_ = x0_1.getD x5_1.toNat [] := ⟨_, rfl⟩
     have A1 := am (show laws_markRowS.f k1 yi x1_1 = some (t1, t2) from by rw [hyi]; exact A1.out)
     rw [← hyi] at hM
     clear hyi
     obtain ⟨vi_, rfl, hR⟩ := hM
     have hx5_0 : wr.cell? ⟨go5, (x5_1 : Int).toNat, none⟩ = some vi_ := by have h_ := hcc 0 vi_ rfl; simpa [Kd.slice] using h_
     have hf5_0 : wr.frozen? ⟨go5, (x5_1 : Int).toNat, none⟩ = false := by have h_ := hfr 0; simpa [Kd.slice] using h_
     obtain ⟨Ai, ci, rfl⟩ := Kd.R_slice hR
     have HRI := am hR
     have HOK := am hoki
     have HH := am hH
     clear hR hoki hH hcc hfr hcl
     have c3b0 := decide_eq_true c3
     have c4b0 := decide_eq_true c4
     have p5 := eq_true c4
     have q5 := eq_true c3
     clear c3 c4
     go_wp2_with (first | ((with_reducible refine gate_callee (f := 33) rfl ?_); refine goesL_ (some 17) rfl rfl Try.func33 (by kernel_rfl) rfl #[.slice Ai yi.length ci, .int .i64 x1_1] rfl (by (try simp only [List.map_toArray, List.map_cons, List.map_nil]); first | done | rfl) ?_; (with_reducible refine (laws_markRowS.calls k1 oki _ _ x1_1 t1 t2 w0 _ ?side1 ?side2 A1.out).mono ?_); (case side1 => exact HB.out); (case side2 => exact HRI.out); rintro e w8 ⟨rfl, hy, hb, hkp⟩; refine ⟨_, rfl, ?_⟩; have n0_ := am (show Kd.S (Kd.slice 49 k49) 25 w8 w0.heap.size P0_ (.slice (some ⟨go5, 0, none⟩) x0_1.length co5) (x0_1.set x5_1.toNat t2) from Kd.H_back (Kd.H_kept HH.out hkp (fun _ _ hn hs => hn hs)) ⟨_, rfl, Kd.R_reok rfl hy (fun k_ e_ => HRI.out.1 k_ e_)⟩ (fun _ h_ => h_)); have n1_ := am (HK.out.then_ hkp (fun k_ hk => .inl (HOK.out k_ hk).1)); have n2_ := am hb; clear HO_0 HK HB HH; have HO_0 := n0_; have HK := n1_; have HB := n2_; clear n0_ n1_ n2_ hy hb hkp))
     go_roundg k1
     case measure => have := HK1.out; omega
     case rel => exact ⟨_, t1, (wrap64 (x5_1 + 1)), q_i, q_i, H', ⟨by have := HK1.out; omega⟩, HO_0, HK, HB⟩
    ·rw [if_neg c4] at H
     exact absurd H (by simp)
   ·rw [if_neg c3] at H
    have c3b0 := decide_eq_false c3
    clear c3
    simp only [Option.some.injEq, Prod.mk.injEq] at H
    obtain ⟨rfl, rfl⟩ := H
    obtain ⟨Ao9, co9, eo9⟩ := Kd.S_slice HO_0.out
    subst eo9
    go_wp2
    go_ret
    exact ⟨by first | rfl | (simp; done), HO_0.out, HB.out, HK.out⟩

/-! ### laws_FnExactMergeTables: function 14 -/
theorem q_nR {α : Type} {d : Kd α} {e : Nat} {w wp wj : World} {ok : Nat → Prop} {v : Value} {r : List α} (hb : Below w.heap.size w wp) (ho : Kd.R d e wj wp.heap.size ok v r) : Kd.R d e wj w.heap.size (fun k_ => wp.heap.size ≤ k_ ∧ k_ < wj.heap.size) v r := Kd.R_lower (Kd.R_mono (Kd.R_bound ho) (fun _ h => ⟨h.2.1, h.2.2.1⟩)) (below_size hb)
theorem q_nS {α : Type} {d : Kd α} {e : Nat} {w wp wj : World} {ok : Nat → Prop} {v : Value} {r : List α} (hb : Below w.heap.size w wp) (ho : Kd.S d e wj wp.heap.size ok v r) : Kd.S d e wj w.heap.size (fun k_ => wp.heap.size ≤ k_ ∧ k_ < wj.heap.size) v r := Kd.S_lower (Kd.S_mono (Kd.S_bound ho) (fun _ h => ⟨h.2.1, h.2.2.1⟩)) (below_size hb)
theorem q_nV {α : Type} {d : Kd α} {e : Nat} {w wp wj : World} {b : Nat} {v : Value} {r : List α} (_hb : Below w.heap.size w wp) (ho : Kd.V d e wj b (fun k_ => wp.heap.size ≤ k_) v r) : Kd.V d e wj w.heap.size (fun k_ => wp.heap.size ≤ k_ ∧ k_ < wj.heap.size) v r := Kd.V_bound ho
theorem q_lenV {α : Type} {d : Kd α} {e : Nat} {w : World} {b : Nat} {ok : Nat → Prop} {A : Option Addr} {n c : Nat} {xs : List α} (h : Kd.V d e w b ok (.slice A n c) xs) : d.C w A xs.length xs ∧ xs.length ≤ c ∧ n = xs.length := by have h_ := Kd.V_reads' h; exact ⟨h_.2.2, by rw [← h_.1]; exact h_.2.1, h_.1⟩
theorem q_iv {a b c d : Nat} (h : b ≤ c) (k : Nat) (h1 : a ≤ k ∧ k < b) (h2 : c ≤ k ∧ k < d) : False := by omega
theorem q_vi {a b c d : Nat} (h : d ≤ a) (k : Nat) (h1 : a ≤ k ∧ k < b) (h2 : c ≤ k ∧ k < d) : False := by omega
theorem q_ig {a b g : Nat} (h : b ≤ g) (k : Nat) (h1 : a ≤ k ∧ k < b) (h2 : k = g) : False := by omega
theorem q_if {c : Prop} [Decidable c] {α : Type} {a : Option α} {r : α} (h : (if c then a else none) = some r) : c ∧ a = some r := by
  by_cases hc : c
  · rw [if_pos hc] at h; exact ⟨hc, h⟩
  · rw [if_neg hc] at h; cases h
theorem q_fi {c : Prop} [Decidable c] {α : Type} {a : Option α} {r : α} (h : (if c then none else a) = some r) : ¬ c ∧ a = some r := by
  by_cases hc : c
  · rw [if_pos hc] at h; cases h
  · rw [if_neg hc] at h; exact ⟨hc, h⟩
theorem q_lenR {α : Type} {d : Kd α} {e : Nat} {w : World} {b : Nat} {ok : Nat → Prop} {A : Option Addr} {n c : Nat} {xs : List α} (h : Kd.R d e w b ok (.slice A n c) xs) : d.C w A xs.length xs ∧ xs.length ≤ c ∧ n = xs.length := by have h_ := Kd.R_reads' h; exact ⟨h_.2.2, by rw [← h_.1]; exact h_.2.1, h_.1⟩
theorem q_lenS {α : Type} {d : Kd α} {e : Nat} {w : World} {b : Nat} {ok : Nat → Prop} {A : Option Addr} {n c : Nat} {xs : List α} (h : Kd.S d e w b ok (.slice A n c) xs) : d.C w A xs.length xs ∧ xs.length ≤ c ∧ n = xs.length := q_lenR (Kd.S_R h)
def laws_FnExactMergeTables.f (k : Nat) (l0 : List (List (S84))) : Option (Bool) := (laws_szRowSS.f k l0 1048576).bind fun b1 => (if b1 < 0 then (some true) else (laws_toRowSS.f k l0).bind fun b2 => (spec_MergeTables.f k b2).bind fun b3 => (laws_toRowSS.f k l0).bind fun b6 => (impl_MergeTables.f k b6).bind fun b7 => (laws_eqRowsResult.f k b7.1 b7.2 b3.1 b3.2).bind fun b10 => (if b10 = true then (laws_toRowSS.f k l0).bind fun b11 => (laws_eqRowSS.f k b6 b11).bind fun b12 => (if b12 = true then (laws_markRowSS.f k b6 1).bind fun b13 => (if b13.1 < 0 then none else (laws_eqRowsResult.f k b7.1 b7.2 b3.1 b3.2).bind fun b14 => (if b14 = true then (laws_markRowsResult.f k b7.1 b7.2 1).bind fun b15 => (laws_heldRowsResult.f k b7.1 b15.2 1).bind fun b16 => (if b16 < 0 then none else (if b16 = b15.1 then (laws_toRowSS.f k l0).bind fun b17 => (impl_MergeTables.f k b17).bind fun b18 => (laws_eqRowsResult.f k b18.1 b18.2 b3.1 b3.2).bind fun b21 => (if b21 = true then (laws_heldRowsResult.f k b7.1 b15.2 1).bind fun b22 => (if b22 < 0 then none else (if b22 = b15.1 then (some true) else none)) else none) else none)) else none)) else none) else none))
set_option maxHeartbeats 40000000 in
theorem laws_FnExactMergeTables.calls (k : Nat) (A0 : Option Addr) (c0 : Nat) (l0 : List (List (S84))) (r : Bool) (w : World) (hr0 : Kd.C (Kd.slice 84 k84) w A0 l0.length l0) (hc0 : l0.length ≤ c0) (h : laws_FnExactMergeTables.f k l0 = some r) :
    Calls Try.prog 14 #[.slice A0 l0.length c0] w fun e w' => e = .returned (.bool r) ∧ Below w.heap.size w w' := by
  have HB := am (Below.refl w.heap.size w)
  have HR0 := am hr0
  have HC0 := am hc0
  clear hr0 hc0
  have hu46 := Try.underlying46
  unfold laws_FnExactMergeTables.f at h
  obtain ⟨t1, A10, h⟩ := Option.bind_eq_some_iff.mp h
  have A1 := am (show laws_szRowSS.f k l0 1048576 = some t1 from A10)
  clear A10
  by_cases c25 : t1 < 0
  · rw [if_pos c25] at h
    obtain rfl := Option.some.inj h
    have c25b := decide_eq_true (show t1 < 0 from c25)
    clear c25 h
    go_enter Try.func14, Try.ntmps14
    go_wp2_with (first | ((with_reducible refine gate_dst (N := 13) rfl ?_); refine goesL_ (some 13) rfl rfl Try.func58 (by kernel_rfl) rfl #[.slice A0 l0.length c0, .int .i64 1048576] rfl (by (try simp only [List.map_toArray, List.map_cons, List.map_nil]); first | done | rfl) ?_; (with_reducible refine (laws_szRowSS.calls k _ _ l0 1048576 t1 _ ?side1 ?side2 A1.out).mono ?_); (case side1 => exact Kd.C_below HR0.out HB.out); (case side2 => exact HC0.out); rintro e w1_ ⟨rfl, hb⟩; refine ⟨_, rfl, ?_⟩; replace HB := am (below_step HB.out hb); clear hb))
    go_ret
    exact ⟨by first | rfl | (simp; done), HB.out⟩
  · rw [if_neg c25] at h
    have c25b := decide_eq_false (show ¬ (t1 < 0) from c25)
    clear c25
    obtain ⟨t2, A20, h⟩ := Option.bind_eq_some_iff.mp h
    have A2 := am (show laws_toRowSS.f k l0 = some t2 from A20)
    clear A20
    obtain ⟨⟨t3, t4⟩, A30, h⟩ := Option.bind_eq_some_iff.mp h
    have A3 := am (show spec_MergeTables.f k t2 = some (t3, t4) from A30)
    clear A30
    obtain ⟨t6, A60, h⟩ := Option.bind_eq_some_iff.mp h
    have A6 := am (show laws_toRowSS.f k l0 = some t6 from A60)
    clear A60
    obtain ⟨⟨t7, t8⟩, A70, h⟩ := Option.bind_eq_some_iff.mp h
    have A7 := am (show impl_MergeTables.f k t6 = some (t7, t8) from A70)
    clear A70
    obtain ⟨t10, A100, h⟩ := Option.bind_eq_some_iff.mp h
    have A10 := am (show laws_eqRowsResult.f k t7 t8 t3 t4 = some t10 from A100)
    clear A100
    obtain ⟨c26, h⟩ := q_if h
    subst c26
    obtain ⟨t11, A110, h⟩ := Option.bind_eq_some_iff.mp h
    have A11 := am (show laws_toRowSS.f k l0 = some t11 from A110)
    clear A110
    obtain ⟨t12, A120, h⟩ := Option.bind_eq_some_iff.mp h
    have A12 := am (show laws_eqRowSS.f k t6 t11 = some t12 from A120)
    clear A120
    obtain ⟨c27, h⟩ := q_if h
    subst c27
    obtain ⟨⟨t13, t14⟩, A130, h⟩ := Option.bind_eq_some_iff.mp h
    have A13 := am (show laws_markRowSS.f k t6 1 = some (t13, t14) from A130)
    clear A130
    obtain ⟨c28, h⟩ := q_fi h
    have c28b := decide_eq_false c28
    clear c28
    obtain ⟨t15, A140, h⟩ := Option.bind_eq_some_iff.mp h
    have A14 := am (show laws_eqRowsResult.f k t7 t8 t3 t4 = some t15 from A140)
    clear A140
    obtain ⟨c29, h⟩ := q_if h
    subst c29
    obtain ⟨⟨t16, t17⟩, A150, h⟩ := Option.bind_eq_some_iff.mp h
    have A15 := am (show laws_markRowsResult.f k t7 t8 1 = some (t16, t17) from A150)
    clear A150
    obtain ⟨t18, A160, h⟩ := Option.bind_eq_some_iff.mp h
    have A16 := am (show laws_heldRowsResult.f k t7 t17 1 = some t18 from A160)
    clear A160
    obtain ⟨c30, h⟩ := q_fi h
    have c30b := decide_eq_false c30
    clear c30
    obtain ⟨c31, h⟩ := q_if h
    have c31b : (t18 == t16) = true := beq_iff_eq.mpr c31
    have c31n : (t18 != t16) = false := bne_eq_false_iff_eq.mpr c31
    clear c31
    obtain ⟨t19, A170, h⟩ := Option.bind_eq_some_iff.mp h
    have A17 := am (show laws_toRowSS.f k l0 = some t19 from A170)
    clear A170
    obtain ⟨⟨t20, t21⟩, A180, h⟩ := Option.bind_eq_some_iff.mp h
    have A18 := am (show impl_MergeTables.f k t19 = some (t20, t21) from A180)
    clear A180
    obtain ⟨t23, A210, h⟩ := Option.bind_eq_some_iff.mp h
    have A21 := am (show laws_eqRowsResult.f k t20 t21 t3 t4 = some t23 from A210)
    clear A210
    obtain ⟨c32, h⟩ := q_if h
    subst c32
    obtain ⟨t24, A220, h⟩ := Option.bind_eq_some_iff.mp h
    have A22 := am (show laws_heldRowsResult.f k t7 t17 1 = some t24 from A220)
    clear A220
    obtain ⟨c33, h⟩ := q_fi h
    have c33b := decide_eq_false c33
    clear c33
    obtain ⟨c34, h⟩ := q_if h
    have c34b : (t24 == t16) = true := beq_iff_eq.mpr c34
    have c34n : (t24 != t16) = false := bne_eq_false_iff_eq.mpr c34
    clear c34
    obtain rfl : true = r := Option.some.inj h
    clear h
    go_enter Try.func14, Try.ntmps14
    go_wp2_with (first | ((with_reducible refine gate_dst (N := 13) rfl ?_); refine goesL_ (some 13) rfl rfl Try.func58 (by kernel_rfl) rfl #[.slice A0 l0.length c0, .int .i64 1048576] rfl (by (try simp only [List.map_toArray, List.map_cons, List.map_nil]); first | done | rfl) ?_; (with_reducible refine (laws_szRowSS.calls k _ _ l0 1048576 t1 _ ?side1 ?side2 A1.out).mono ?_); (case side1 => exact Kd.C_below HR0.out HB.out); (case side2 => exact HC0.out); rintro e w1_ ⟨rfl, hb⟩; refine ⟨_, rfl, ?_⟩; replace HB := am (below_step HB.out hb); clear hb) | ((with_reducible refine gate_dst (N := 17) rfl ?_); refine goesL_ (some 17) rfl rfl Try.func59 (by kernel_rfl) rfl #[.slice A0 l0.length c0] rfl (by (try simp only [List.map_toArray, List.map_cons, List.map_nil]); first | done | rfl) ?_; (with_reducible refine (laws_toRowSS.calls k _ _ l0 t2 _ ?side1 ?side2 A2.out).mono ?_); (case side1 => exact Kd.C_below HR0.out HB.out); (case side2 => exact HC0.out); rintro e w2_ ⟨vO2, rfl, ho0, hb⟩; refine ⟨_, rfl, ?_⟩; have O2 := am (q_nS HB.out ho0); have UO2 := am (Nat.le_refl w2_.heap.size); replace HB := am (below_step HB.out hb); obtain ⟨A2_, c2_, eo_⟩ := Kd.S_slice O2.out; subst eo_; clear hb ho0) | ((with_reducible refine gate_dst (N := 18) rfl ?_); refine goesL_ (some 18) rfl rfl Try.func57 (by kernel_rfl) rfl #[.slice A2_ t2.length c2_] rfl (by (try simp only [List.map_toArray, List.map_cons, List.map_nil]); first | done | rfl) ?_; (with_reducible refine (spec_MergeTables.calls k _ _ t2 t3 t4 _ ?side1 ?side2 A3.out).mono ?_); (case side1 => exact (q_lenS O2.out).1); (case side2 => exact (q_lenS O2.out).2.1); rintro e w3_ ⟨vO4, rfl, ho0, hb⟩; refine ⟨_, rfl, ?_⟩; have O4 := am (q_nV HB.out ho0); have UO4 := am (Nat.le_refl w3_.heap.size); clear O2; replace HB := am (below_step HB.out hb); obtain ⟨A4_, c4_, eo_⟩ := Kd.V_slice O4.out; subst eo_; clear hb ho0) | ((with_reducible refine gate_dst (N := 4) rfl ?_); refine q_box (N := 4) (cs := #[.int .i64 0, .slice none 0 0]) (t := 46) ?_; intro g5 hg_ w4_ hbox hb; have GB5 := am (q_g hg_ HB.out); have DHB5_O4 := am (show _ ≤ g5 from by rw [hg_]; exact UO4.out); replace O4 := am (Kd.V_below O4.out hb); replace UO4 := am (Nat.le_trans UO4.out hb.size); replace HB := am (below_step HB.out hb); have B5 := am hbox; clear hb hbox hg_; obtain ⟨hcw4__0, hcw4__1, hfw4__0, hfw4__1⟩ := q_2 B5.out) | ((with_reducible refine gate_store (t := 46) (p := 4) rfl ?_); refine store_event (t := 46) (p := 4) (v := ?vo5) (w1 := ((w4_.setCell ⟨g5, 0, none⟩ (.int .i64 t3)).setCell ⟨g5, 1, none⟩ (.slice A4_ t4.length c4_))) ?hg ?ho ?hn ?hr ?_; (case ho => rfl); (case hg => rfl); (case hn => rfl); (case hr => first | (go_simp; done) | (go_simp; rfl)); intro w5_ hw_; have hk_ : Kept w4_ w5_ (fun k_ => k_ = g5) := (by rw [hw_]; exact (Kept.setCell (Kept.setCell (Kept.refl w4_ (fun k_ => k_ = g5)) (.inl rfl) _) (.inl rfl) _)); replace B5 := am (show w5_.heap[g5]? = some (.cells #[.int .i64 t3, .slice A4_ t4.length c4_] 46 (0, 0)) from by rw [hw_]; exact (blk_put (blk_put B5.out 0 _ rfl) 1 _ rfl)); replace O4 := am (Kd.V_kept O4.out hk_ (fun k_ h1_ h2_ => q_ig DHB5_O4.out k_ h1_ h2_)); replace UO4 := am (Nat.le_trans UO4.out hk_.1); replace HB := am (show Below w.heap.size w w5_ from by rw [hw_]; exact (below_set (below_set HB.out GB5.out) GB5.out)); clear hk_ hw_) | ((with_reducible refine gate_dst (N := 20) rfl ?_); refine goesL_ (some 20) rfl rfl Try.func59 (by kernel_rfl) rfl #[.slice A0 l0.length c0] rfl (by (try simp only [List.map_toArray, List.map_cons, List.map_nil]); first | done | rfl) ?_; (with_reducible refine (laws_toRowSS.calls k _ _ l0 t6 _ ?side1 ?side2 A6.out).mono ?_); (case side1 => exact Kd.C_below HR0.out HB.out); (case side2 => exact HC0.out); rintro e w6_ ⟨vO6, rfl, ho0, hb⟩; refine ⟨_, rfl, ?_⟩; have O6 := am (q_nS HB.out ho0); have UO6 := am (Nat.le_refl w6_.heap.size); have DO4_O6 := am UO4.out; have DGB5_O6 := am (blk_lt B5.out); replace O4 := am (Kd.V_below O4.out hb); replace UO4 := am (Nat.le_trans UO4.out hb.size); replace B5 := am (blk_below B5.out hb); replace HB := am (below_step HB.out hb); obtain ⟨A6_, c6_, eo_⟩ := Kd.S_slice O6.out; subst eo_; clear hb ho0) | ((with_reducible refine gate_dst (N := 22) rfl ?_); refine goesL_ (some 22) rfl rfl Try.func56 (by kernel_rfl) rfl #[.slice A6_ t6.length c6_] rfl (by (try simp only [List.map_toArray, List.map_cons, List.map_nil]); first | done | rfl) ?_; (with_reducible refine (impl_MergeTables.calls k _ _ t6 t7 t8 _ ?side1 ?side2 A7.out).mono ?_); (case side1 => exact (q_lenS O6.out).1); (case side2 => exact (q_lenS O6.out).2.1); rintro e w7_ ⟨vO8, rfl, ho0, hb⟩; refine ⟨_, rfl, ?_⟩; have O8 := am (q_nR HB.out ho0); have UO8 := am (Nat.le_refl w7_.heap.size); have DO4_O8 := am UO4.out; have DO6_O8 := am UO6.out; have DGB5_O8 := am (blk_lt B5.out); replace O4 := am (Kd.V_below O4.out hb); replace UO4 := am (Nat.le_trans UO4.out hb.size); replace O6 := am (Kd.S_below O6.out hb); replace UO6 := am (Nat.le_trans UO6.out hb.size); replace B5 := am (blk_below B5.out hb); replace HB := am (below_step HB.out hb); obtain ⟨A8_, c8_, eo_⟩ := Kd.R_slice O8.out; subst eo_; clear hb ho0) | ((with_reducible refine gate_dst (N := 6) rfl ?_); refine q_box (N := 6) (cs := #[.int .i64 0, .slice none 0 0]) (t := 46) ?_; intro g9 hg_ w8_ hbox hb; have NEB5_B9 := am (show g5 ≠ g9 from by rw [hg_]; exact Nat.ne_of_lt (blk_lt B5.out)); have GB9 := am (q_g hg_ HB.out); have DHB9_O4 := am (show _ ≤ g9 from by rw [hg_]; exact UO4.out); have DHB9_O6 := am (show _ ≤ g9 from by rw [hg_]; exact UO6.out); have DHB9_O8 := am (show _ ≤ g9 from by rw [hg_]; exact UO8.out); replace O4 := am (Kd.V_below O4.out hb); replace UO4 := am (Nat.le_trans UO4.out hb.size); replace O6 := am (Kd.S_below O6.out hb); replace UO6 := am (Nat.le_trans UO6.out hb.size); replace O8 := am (Kd.R_below O8.out hb); replace UO8 := am (Nat.le_trans UO8.out hb.size); replace B5 := am (blk_below B5.out hb); replace HB := am (below_step HB.out hb); have B9 := am hbox; clear hb hbox hg_; obtain ⟨hcw8__0, hcw8__1, hfw8__0, hfw8__1⟩ := q_2 B9.out) | ((with_reducible refine gate_store (t := 46) (p := 6) rfl ?_); refine store_event (t := 46) (p := 6) (v := ?vo9) (w1 := ((w8_.setCell ⟨g9, 0, none⟩ (.int .i64 t7)).setCell ⟨g9, 1, none⟩ (.slice A8_ t8.length c8_))) ?hg ?ho ?hn ?hr ?_; (case ho => rfl); (case hg => rfl); (case hn => rfl); (case hr => first | (go_simp; done) | (go_simp; rfl)); intro w9_ hw_; have hk_ : Kept w8_ w9_ (fun k_ => k_ = g9) := (by rw [hw_]; exact (Kept.setCell (Kept.setCell (Kept.refl w8_ (fun k_ => k_ = g9)) (.inl rfl) _) (.inl rfl) _)); replace B9 := am (show w9_.heap[g9]? = some (.cells #[.int .i64 t7, .slice A8_ t8.length c8_] 46 (0, 0)) from by rw [hw_]; exact (blk_put (blk_put B9.out 0 _ rfl) 1 _ rfl)); replace O4 := am (Kd.V_kept O4.out hk_ (fun k_ h1_ h2_ => q_ig DHB9_O4.out k_ h1_ h2_)); replace UO4 := am (Nat.le_trans UO4.out hk_.1); replace O6 := am (Kd.S_kept O6.out hk_ (fun k_ h1_ h2_ => q_ig DHB9_O6.out k_ h1_ h2_)); replace UO6 := am (Nat.le_trans UO6.out hk_.1); replace O8 := am (Kd.R_kept O8.out hk_ (fun k_ h1_ h2_ => q_ig DHB9_O8.out k_ h1_ h2_)); replace UO8 := am (Nat.le_trans UO8.out hk_.1); replace B5 := am (blk_kept B5.out hk_ (by intro h_; exact absurd h_ NEB5_B9.out)); replace HB := am (show Below w.heap.size w w9_ from by rw [hw_]; exact (below_set (below_set HB.out GB9.out) GB9.out)); clear hk_ hw_; obtain ⟨hcw9_B5_0, hcw9_B5_1, hfw9_B5_0, hfw9_B5_1⟩ := q_2 B5.out; obtain ⟨hcw9_B9_0, hcw9_B9_1, hfw9_B9_0, hfw9_B9_1⟩ := q_2 B9.out) | ((with_reducible refine gate_dst (N := 25) rfl ?_); refine goesL_ (some 25) rfl rfl Try.func32 (by kernel_rfl) rfl #[.agg #[.int .i64 t7, .slice A8_ t8.length c8_], .agg #[.int .i64 t3, .slice A4_ t4.length c4_]] rfl (by (try simp only [List.map_toArray, List.map_cons, List.map_nil]); first | done | rfl) ?_; (with_reducible refine (laws_eqRowsResult.calls k t7 _ _ t8 t3 _ _ t4 true _ ?side1 ?side2 ?side3 ?side4 A10.out).mono ?_); (case side1 => exact (q_lenR O8.out).1); (case side2 => exact (q_lenR O8.out).2.1); (case side3 => exact (q_lenV O4.out).1); (case side4 => exact (q_lenV O4.out).2.1); rintro e w10_ ⟨rfl, hb⟩; refine ⟨_, rfl, ?_⟩; replace O4 := am (Kd.V_below O4.out hb); replace UO4 := am (Nat.le_trans UO4.out hb.size); replace O6 := am (Kd.S_below O6.out hb); replace UO6 := am (Nat.le_trans UO6.out hb.size); replace O8 := am (Kd.R_below O8.out hb); replace UO8 := am (Nat.le_trans UO8.out hb.size); replace B5 := am (blk_below B5.out hb); replace B9 := am (blk_below B9.out hb); replace HB := am (below_step HB.out hb); clear hb) | ((with_reducible refine gate_dst (N := 29) rfl ?_); refine goesL_ (some 29) rfl rfl Try.func59 (by kernel_rfl) rfl #[.slice A0 l0.length c0] rfl (by (try simp only [List.map_toArray, List.map_cons, List.map_nil]); first | done | rfl) ?_; (with_reducible refine (laws_toRowSS.calls k _ _ l0 t11 _ ?side1 ?side2 A11.out).mono ?_); (case side1 => exact Kd.C_below HR0.out HB.out); (case side2 => exact HC0.out); rintro e w11_ ⟨vO11, rfl, ho0, hb⟩; refine ⟨_, rfl, ?_⟩; have O11 := am (q_nS HB.out ho0); have UO11 := am (Nat.le_refl w11_.heap.size); have DO6_O11 := am UO6.out; have DO8_O11 := am UO8.out; replace O4 := am (Kd.V_below O4.out hb); replace UO4 := am (Nat.le_trans UO4.out hb.size); replace O6 := am (Kd.S_below O6.out hb); replace UO6 := am (Nat.le_trans UO6.out hb.size); replace O8 := am (Kd.R_below O8.out hb); replace UO8 := am (Nat.le_trans UO8.out hb.size); replace B5 := am (blk_below B5.out hb); replace B9 := am (blk_below B9.out hb); replace HB := am (below_step HB.out hb); obtain ⟨A11_, c11_, eo_⟩ := Kd.S_slice O11.out; subst eo_; clear hb ho0) | ((with_reducible refine gate_dst (N := 30) rfl ?_); refine goesL_ (some 30) rfl rfl Try.func60 (by kernel_rfl) rfl #[.slice A6_ t6.length c6_, .slice A11_ t11.length c11_] rfl (by (try simp only [List.map_toArray, List.map_cons, List.map_nil]); first | done | rfl) ?_; (with_reducible refine (laws_eqRowSS.calls k _ _ t6 _ _ t11 true _ ?side1 ?side2 ?side3 ?side4 A12.out).mono ?_); (case side1 => exact (q_lenS O6.out).1); (case side2 => exact (q_lenS O6.out).2.1); (case side3 => exact (q_lenS O11.out).1); (case side4 => exact (q_lenS O11.out).2.1); rintro e w12_ ⟨rfl, hb⟩; refine ⟨_, rfl, ?_⟩; replace O4 := am (Kd.V_below O4.out hb); replace UO4 := am (Nat.le_trans UO4.out hb.size); replace O6 := am (Kd.S_below O6.out hb); replace UO6 := am (Nat.le_trans UO6.out hb.size); replace O8 := am (Kd.R_below O8.out hb); replace UO8 := am (Nat.le_trans UO8.out hb.size); clear O11; replace B5 := am (blk_below B5.out hb); replace B9 := am (blk_below B9.out hb); replace HB := am (below_step HB.out hb); clear hb) | ((with_reducible refine gate_dst (N := 34) rfl ?_); refine goesL_ (some 34) rfl rfl Try.func61 (by kernel_rfl) rfl #[.slice A6_ t6.length c6_, .int .i64 1] rfl (by (try simp only [List.map_toArray, List.map_cons, List.map_nil]); first | done | rfl) ?_; (with_reducible refine (laws_markRowSS.calls k (fun k_ => w5_.heap.size ≤ k_ ∧ k_ < w6_.heap.size) _ t6 1 t13 t14 w _ ?side1 ?side2 A13.out).mono ?_); (case side1 => exact HB.out); (case side2 => exact O6.out); rintro e w13_ ⟨rfl, hy0, hb, hkp⟩; refine ⟨_, rfl, ?_⟩; have hk_ := hkp; replace O4 := am (Kd.V_kept O4.out hk_ (fun k_ h1_ h2_ => q_iv DO4_O6.out k_ h1_ h2_)); replace UO4 := am (Nat.le_trans UO4.out hk_.1); replace O8 := am (Kd.R_kept O8.out hk_ (fun k_ h1_ h2_ => q_vi DO6_O8.out k_ h1_ h2_)); replace UO8 := am (Nat.le_trans UO8.out hk_.1); replace B5 := am (blk_kept B5.out hk_ (fun h_ => Nat.not_le_of_lt DGB5_O6.out h_.1)); replace B9 := am (blk_kept B9.out hk_ (fun h_ => Nat.not_lt_of_le DHB9_O6.out h_.2)); clear O6; replace HB := am hb; clear hb hkp hk_ hy0; obtain ⟨hcw13_B5_0, hcw13_B5_1, hfw13_B5_0, hfw13_B5_1⟩ := q_2 B5.out; obtain ⟨hcw13_B9_0, hcw13_B9_1, hfw13_B9_0, hfw13_B9_1⟩ := q_2 B9.out) | ((with_reducible refine gate_dst (N := 45) rfl ?_); refine goesL_ (some 45) rfl rfl Try.func34 (by kernel_rfl) rfl #[.agg #[.int .i64 t7, .slice A8_ t8.length c8_], .int .i64 1] rfl (by (try simp only [List.map_toArray, List.map_cons, List.map_nil]); first | done | rfl) ?_; (with_reducible refine (laws_markRowsResult.calls k t7 (fun k_ => w6_.heap.size ≤ k_ ∧ k_ < w7_.heap.size) _ t8 1 t16 t17 w _ ?side1 ?side2 A15.out).mono ?_); (case side1 => exact HB.out); (case side2 => exact O8.out); rintro e w15_ ⟨rfl, hy0, hb, hkp⟩; refine ⟨_, rfl, ?_⟩; have hk_ := hkp; replace O4 := am (Kd.V_kept O4.out hk_ (fun k_ h1_ h2_ => q_iv DO4_O8.out k_ h1_ h2_)); replace UO4 := am (Nat.le_trans UO4.out hk_.1); replace B5 := am (blk_kept B5.out hk_ (fun h_ => Nat.not_le_of_lt DGB5_O8.out h_.1)); replace B9 := am (blk_kept B9.out hk_ (fun h_ => Nat.not_lt_of_le DHB9_O8.out h_.2)); replace O8 := am (Kd.R_reok rfl hy0 (fun k_ e_ => O8.out.1 k_ e_)); replace UO8 := am (Nat.le_trans UO8.out hk_.1); replace HB := am hb; clear hb hkp hk_ hy0; obtain ⟨hcw15_B9_0, hcw15_B9_1, hfw15_B9_0, hfw15_B9_1⟩ := q_2 B9.out) | ((with_reducible refine gate_dst (N := 48) rfl ?_); refine goesL_ (some 48) rfl rfl Try.func35 (by kernel_rfl) rfl #[.agg #[.int .i64 t7, .slice A8_ t8.length c8_], .int .i64 1] rfl (by (try simp only [List.map_toArray, List.map_cons, List.map_nil]); first | done | rfl) ?_; refine calls_of_args (args' := #[.agg #[.int .i64 t7, .slice A8_ t17.length c8_], .int .i64 1]) (by rw [(q_lenR O8.out).2.2]) ?_; (with_reducible refine (laws_heldRowsResult.calls k t7 _ _ t17 1 t18 _ ?side1 ?side2 A16.out).mono ?_); (case side1 => exact (q_lenR O8.out).1); (case side2 => exact (q_lenR O8.out).2.1); rintro e w16_ ⟨rfl, hb⟩; refine ⟨_, rfl, ?_⟩; replace O4 := am (Kd.V_below O4.out hb); replace UO4 := am (Nat.le_trans UO4.out hb.size); replace O8 := am (Kd.R_below O8.out hb); replace UO8 := am (Nat.le_trans UO8.out hb.size); replace B5 := am (blk_below B5.out hb); replace B9 := am (blk_below B9.out hb); replace HB := am (below_step HB.out hb); clear hb) | ((with_reducible refine gate_dst (N := 55) rfl ?_); refine goesL_ (some 55) rfl rfl Try.func59 (by kernel_rfl) rfl #[.slice A0 l0.length c0] rfl (by (try simp only [List.map_toArray, List.map_cons, List.map_nil]); first | done | rfl) ?_; (with_reducible refine (laws_toRowSS.calls k _ _ l0 t19 _ ?side1 ?side2 A17.out).mono ?_); (case side1 => exact Kd.C_below HR0.out HB.out); (case side2 => exact HC0.out); rintro e w17_ ⟨vO19, rfl, ho0, hb⟩; refine ⟨_, rfl, ?_⟩; have O19 := am (q_nS HB.out ho0); have UO19 := am (Nat.le_refl w17_.heap.size); have DO8_O19 := am UO8.out; replace O4 := am (Kd.V_below O4.out hb); replace UO4 := am (Nat.le_trans UO4.out hb.size); replace O8 := am (Kd.R_below O8.out hb); replace UO8 := am (Nat.le_trans UO8.out hb.size); replace B5 := am (blk_below B5.out hb); replace B9 := am (blk_below B9.out hb); replace HB := am (below_step HB.out hb); obtain ⟨A19_, c19_, eo_⟩ := Kd.S_slice O19.out; subst eo_; clear hb ho0) | ((with_reducible refine gate_dst (N := 56) rfl ?_); refine goesL_ (some 56) rfl rfl Try.func56 (by kernel_rfl) rfl #[.slice A19_ t19.length c19_] rfl (by (try simp only [List.map_toArray, List.map_cons, List.map_nil]); first | done | rfl) ?_; (with_reducible refine (impl_MergeTables.calls k _ _ t19 t20 t21 _ ?side1 ?side2 A18.out).mono ?_); (case side1 => exact (q_lenS O19.out).1); (case side2 => exact (q_lenS O19.out).2.1); rintro e w18_ ⟨vO21, rfl, ho0, hb⟩; refine ⟨_, rfl, ?_⟩; have O21 := am (q_nR HB.out ho0); have UO21 := am (Nat.le_refl w18_.heap.size); have DO8_O21 := am UO8.out; replace O4 := am (Kd.V_below O4.out hb); replace UO4 := am (Nat.le_trans UO4.out hb.size); replace O8 := am (Kd.R_below O8.out hb); replace UO8 := am (Nat.le_trans UO8.out hb.size); clear O19; replace B5 := am (blk_below B5.out hb); replace B9 := am (blk_below B9.out hb); replace HB := am (below_step HB.out hb); obtain ⟨A21_, c21_, eo_⟩ := Kd.R_slice O21.out; subst eo_; clear hb ho0) | ((with_reducible refine gate_dst (N := 10) rfl ?_); refine q_box (N := 10) (cs := #[.int .i64 0, .slice none 0 0]) (t := 46) ?_; intro g22 hg_ w19_ hbox hb; have NEB5_B22 := am (show g5 ≠ g22 from by rw [hg_]; exact Nat.ne_of_lt (blk_lt B5.out)); have NEB9_B22 := am (show g9 ≠ g22 from by rw [hg_]; exact Nat.ne_of_lt (blk_lt B9.out)); have GB22 := am (q_g hg_ HB.out); have DHB22_O4 := am (show _ ≤ g22 from by rw [hg_]; exact UO4.out); have DHB22_O8 := am (show _ ≤ g22 from by rw [hg_]; exact UO8.out); have DHB22_O21 := am (show _ ≤ g22 from by rw [hg_]; exact UO21.out); replace O4 := am (Kd.V_below O4.out hb); replace UO4 := am (Nat.le_trans UO4.out hb.size); replace O8 := am (Kd.R_below O8.out hb); replace UO8 := am (Nat.le_trans UO8.out hb.size); replace O21 := am (Kd.R_below O21.out hb); replace UO21 := am (Nat.le_trans UO21.out hb.size); replace B5 := am (blk_below B5.out hb); replace B9 := am (blk_below B9.out hb); replace HB := am (below_step HB.out hb); have B22 := am hbox; clear hb hbox hg_; obtain ⟨hcw19__0, hcw19__1, hfw19__0, hfw19__1⟩ := q_2 B22.out) | ((with_reducible refine gate_store (t := 46) (p := 10) rfl ?_); refine store_event (t := 46) (p := 10) (v := ?vo20) (w1 := ((w19_.setCell ⟨g22, 0, none⟩ (.int .i64 t20)).setCell ⟨g22, 1, none⟩ (.slice A21_ t21.length c21_))) ?hg ?ho ?hn ?hr ?_; (case ho => rfl); (case hg => rfl); (case hn => rfl); (case hr => first | (go_simp; done) | (go_simp; rfl)); intro w20_ hw_; have hk_ : Kept w19_ w20_ (fun k_ => k_ = g22) := (by rw [hw_]; exact (Kept.setCell (Kept.setCell (Kept.refl w19_ (fun k_ => k_ = g22)) (.inl rfl) _) (.inl rfl) _)); replace B22 := am (show w20_.heap[g22]? = some (.cells #[.int .i64 t20, .slice A21_ t21.length c21_] 46 (0, 0)) from by rw [hw_]; exact (blk_put (blk_put B22.out 0 _ rfl) 1 _ rfl)); replace O4 := am (Kd.V_kept O4.out hk_ (fun k_ h1_ h2_ => q_ig DHB22_O4.out k_ h1_ h2_)); replace UO4 := am (Nat.le_trans UO4.out hk_.1); replace O8 := am (Kd.R_kept O8.out hk_ (fun k_ h1_ h2_ => q_ig DHB22_O8.out k_ h1_ h2_)); replace UO8 := am (Nat.le_trans UO8.out hk_.1); replace O21 := am (Kd.R_kept O21.out hk_ (fun k_ h1_ h2_ => q_ig DHB22_O21.out k_ h1_ h2_)); replace UO21 := am (Nat.le_trans UO21.out hk_.1); replace B5 := am (blk_kept B5.out hk_ (by intro h_; exact absurd h_ NEB5_B22.out)); replace B9 := am (blk_kept B9.out hk_ (by intro h_; exact absurd h_ NEB9_B22.out)); replace HB := am (show Below w.heap.size w w20_ from by rw [hw_]; exact (below_set (below_set HB.out GB22.out) GB22.out)); clear hk_ hw_; obtain ⟨hcw20_B5_0, hcw20_B5_1, hfw20_B5_0, hfw20_B5_1⟩ := q_2 B5.out; obtain ⟨hcw20_B22_0, hcw20_B22_1, hfw20_B22_0, hfw20_B22_1⟩ := q_2 B22.out) | ((with_reducible refine gate_dst (N := 59) rfl ?_); refine goesL_ (some 59) rfl rfl Try.func32 (by kernel_rfl) rfl #[.agg #[.int .i64 t20, .slice A21_ t21.length c21_], .agg #[.int .i64 t3, .slice A4_ t4.length c4_]] rfl (by (try simp only [List.map_toArray, List.map_cons, List.map_nil]); first | done | rfl) ?_; (with_reducible refine (laws_eqRowsResult.calls k t20 _ _ t21 t3 _ _ t4 true _ ?side1 ?side2 ?side3 ?side4 A21.out).mono ?_); (case side1 => exact (q_lenR O21.out).1); (case side2 => exact (q_lenR O21.out).2.1); (case side3 => exact (q_lenV O4.out).1); (case side4 => exact (q_lenV O4.out).2.1); rintro e w21_ ⟨rfl, hb⟩; refine ⟨_, rfl, ?_⟩; clear O4; replace O8 := am (Kd.R_below O8.out hb); replace UO8 := am (Nat.le_trans UO8.out hb.size); clear O21; clear B5; replace B9 := am (blk_below B9.out hb); clear B22; replace HB := am (below_step HB.out hb); clear hb; obtain ⟨hcw21_B9_0, hcw21_B9_1, hfw21_B9_0, hfw21_B9_1⟩ := q_2 B9.out) | ((with_reducible refine gate_dst (N := 63) rfl ?_); refine goesL_ (some 63) rfl rfl Try.func35 (by kernel_rfl) rfl #[.agg #[.int .i64 t7, .slice A8_ t8.length c8_], .int .i64 1] rfl (by (try simp only [List.map_toArray, List.map_cons, List.map_nil]); first | done | rfl) ?_; refine calls_of_args (args' := #[.agg #[.int .i64 t7, .slice A8_ t17.length c8_], .int .i64 1]) (by rw [(q_lenR O8.out).2.2]) ?_; (with_reducible refine (laws_heldRowsResult.calls k t7 _ _ t17 1 t24 _ ?side1 ?side2 A22.out).mono ?_); (case side1 => exact (q_lenR O8.out).1); (case side2 => exact (q_lenR O8.out).2.1); rintro e w22_ ⟨rfl, hb⟩; refine ⟨_, rfl, ?_⟩; clear O8; clear B9; replace HB := am (below_step HB.out hb); clear hb) | (go_at_call 32; (with_reducible refine (laws_eqRowsResult.calls k t7 _ _ t8 t3 _ _ t4 true _ ?side1 ?side2 ?side3 ?side4 A14.out).mono ?_); (case side1 => exact (q_lenR O8.out).1); (case side2 => exact (q_lenR O8.out).2.1); (case side3 => exact (q_lenV O4.out).1); (case side4 => exact (q_lenV O4.out).2.1); rintro e w14_ ⟨rfl, hb⟩; replace O4 := am (Kd.V_below O4.out hb); replace UO4 := am (Nat.le_trans UO4.out hb.size); replace O8 := am (Kd.R_below O8.out hb); replace UO8 := am (Nat.le_trans UO8.out hb.size); replace B5 := am (blk_below B5.out hb); replace B9 := am (blk_below B9.out hb); replace HB := am (below_step HB.out hb); clear hb; obtain ⟨hcw14_B9_0, hcw14_B9_1, hfw14_B9_0, hfw14_B9_1⟩ := q_2 B9.out))
    go_ret
    exact ⟨by first | rfl | (simp; done), HB.out⟩

end Go.Proofs.Ytdhlcnlcpjlliaa.PFnExactMergeTables
