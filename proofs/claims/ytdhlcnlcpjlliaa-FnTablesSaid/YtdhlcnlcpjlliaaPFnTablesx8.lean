/- Functions that a law reaches, as plain Lean functions, with the proof that the machine comes to their answers. No conditions. -/
import Derived.Test.YtdhlcnlcpjlliaaPFnTablesx0
namespace Go.Proofs.Ytdhlcnlcpjlliaa.PFnTables
open Go.RowKit Go.Proofs.YtdhlcnlcpjlliaaW.PrintWords Go.Proofs.YtdhlcnlcpjlliaaW.PrintLast Go.Proofs.YtdhlcnlcpjlliaaW.PrintMore
attribute [local go_sem] max2_int min2_int max_two min_two max_three min_three max_four min_four   -- for this text's walks alone
set_option linter.unusedVariables false
set_option linter.unusedSimpArgs false
set_option maxHeartbeats 8000000
set_option maxRecDepth 100000

/-! ### slices_swapRangeCmpFunc_impl_Row: function 140 -/
def slices_swapRangeCmpFunc_impl_Row.l0 : Nat → List (S49) → Int → Int → Int → Int → Option ((List (S49)))
  | 0, _, _, _, _, _ => none
  | k + 1, x0, x1, x2, x3, x10 => if x10 < x3 then (if 0 ≤ (wrap64 (x2 + x10)) then (if (wrap64 (x2 + x10)) < (x0.length : Int) then (if 0 ≤ (wrap64 (x1 + x10)) then (if (wrap64 (x1 + x10)) < (x0.length : Int) then (slices_swapRangeCmpFunc_impl_Row.l0 k ((x0.set ((wrap64 (x1 + x10)) : Int).toNat (⟨(rd_T49 x0 (wrap64 (x2 + x10))).f0, (rd_T49 x0 (wrap64 (x2 + x10))).f1, (rd_T49 x0 (wrap64 (x2 + x10))).f2, (rd_T49 x0 (wrap64 (x2 + x10))).f3⟩ : S49)).set ((wrap64 (x2 + x10)) : Int).toNat (⟨(rd_T49 x0 (wrap64 (x1 + x10))).f0, (rd_T49 x0 (wrap64 (x1 + x10))).f1, (rd_T49 x0 (wrap64 (x1 + x10))).f2, (rd_T49 x0 (wrap64 (x1 + x10))).f3⟩ : S49)) x1 x2 x3 (wrap64 (x10 + 1))) else (none)) else (none)) else (none)) else (none)) else (some x0)
def slices_swapRangeCmpFunc_impl_Row.f (k : Nat) (l0 : List (S49)) (a1 : Int) (a2 : Int) (a3 : Int) : Option ((List (S49))) := slices_swapRangeCmpFunc_impl_Row.l0 k l0 a1 a2 a3 0
def slices_swapRangeCmpFunc_impl_Row.T3 : Bool × List (List Nat × List Nat) := (true, [([], []), ([], []), ([], []), ([1, 2], [1, 2]), ([], []), ([], []), ([], []), ([5, 6], [5, 6]), ([], []), ([], []), ([], []), ([9, 10], [9, 10]), ([8, 11], [8, 11]), ([12], [12]), ([], []), ([], []), ([], []), ([15, 16], [15, 16]), ([14, 17], [14, 17]), ([18], [18]), ([0, 3, 0, 1, 2, 3, 8, 9, 10, 11, 12, 13, 19], [0, 3]), ([20, 13, 0, 1, 2, 3, 8, 9, 10, 11, 12, 13, 19], [13, 20]), ([4, 7, 0, 1, 2, 3, 4, 5, 6, 7, 8, 9, 10, 11, 12, 13, 14, 15, 16, 17, 18, 19, 20, 21], [4, 7]), ([22, 19, 21, 0, 1, 2, 3, 4, 5, 6, 7, 8, 9, 10, 11, 12, 13, 14, 15, 16, 17, 18, 19, 20, 21], [19, 22])])
def slices_swapRangeCmpFunc_impl_Row.B3 : List Nat := [0, 0, 0, 6, 0, 0, 0, 96, 0, 0, 0, 1536, 3840, 7936, 0, 0, 0, 98304, 245760, 507904, 1048335, 2096911, 4194303, 8388607]
theorem slices_swapRangeCmpFunc_impl_Row.tab3 : rtab .any (opsOf Try.f140 3) = slices_swapRangeCmpFunc_impl_Row.T3 := by kernel_rfl
theorem slices_swapRangeCmpFunc_impl_Row.bits3 : waitsOk slices_swapRangeCmpFunc_impl_Row.T3.2 slices_swapRangeCmpFunc_impl_Row.B3 = true := by kernel_rfl
theorem slices_swapRangeCmpFunc_impl_Row.calls (k : Nat) (P0_ : Nat → Prop) (u9000_ : Value) (l0 : List (S49)) (a1 : Int) (a2 : Int) (a3 : Int) (r : List (S49)) (w0 w : World) (hB : Below w0.heap.size w0 w) (ho0 : Kd.R k49 49 w w0.heap.size P0_ u9000_ l0) (h : slices_swapRangeCmpFunc_impl_Row.f k l0 a1 a2 a3 = some r) :
  Calls Try.prog 140 #[u9000_, .int .i64 a1, .int .i64 a2, .int .i64 a3, .func (.func 67) #[] #[]] w fun e w' => e = .returned (.tuple #[]) ∧ Kd.R k49 49 w' w0.heap.size (fun k_ => (P0_ k_ ∨ w.heap.size ≤ k_)) u9000_ r ∧ Below w0.heap.size w0 w' ∧ Kept w w' (fun k_ => P0_ k_) := by
 have hu49 := Try.underlying49
 have HO0 := am (show Kd.R k49 49 w w0.heap.size (fun k_ => (P0_ k_ ∨ w.heap.size ≤ k_)) u9000_ l0 from Kd.R_mono ho0 (fun k_ hk => (.inl hk)))
 have HK := am (Kept.refl w (fun k_ => P0_ k_))
 have HW0 := am hB.size
 have HB := am hB
 clear hB
 have H : (slices_swapRangeCmpFunc_impl_Row.l0 k l0 a1 a2 a3 0) = some r := h
 clear h
 have H' := am H
 clear H
 go_enter Try.func140, Try.ntmps140
 go_wp2
 go_loopg [10] k (fun kq v10 w' => ∃ (x0_1 : List (S49)) (x10_1 : Int), v10 = .int .i64 x10_1 ∧ Aside0 (slices_swapRangeCmpFunc_impl_Row.l0 kq x0_1 a1 a2 a3 x10_1 = some r) ∧ Aside0 (kq ≤ k) ∧ Aside0 (Kd.R k49 49 w' w0.heap.size (fun k_ => (P0_ k_ ∨ w.heap.size ≤ k_)) u9000_ x0_1) ∧ Aside0 (Kept w w' (fun k_ => P0_ k_)) ∧ Aside0 (Below w0.heap.size w0 w'))
 case atStart => exact ⟨(l0), (0), q_i, H', ⟨Nat.le_refl _⟩, ⟨q_r (HO0.out)⟩, ⟨q_k⟩, ⟨bq⟩⟩
 case round =>
  clear H'
  (try clear c1); (try clear p2)
  obtain ⟨x0_1, x10_1, rfl, HA, HK1, HO_0, HK, HB⟩ := hrel
  cases gk with
  | zero => exact absurd HA.out (by simp [slices_swapRangeCmpFunc_impl_Row.l0])
  | succ k1 =>
   have H := HA.out
   clear HA
   simp only [slices_swapRangeCmpFunc_impl_Row.l0] at H
   by_cases c5 : x10_1 < a3
   ·rw [if_pos c5] at H
    have c5b0 := decide_eq_true c5
    clear c5
    obtain ⟨ji6, hji6⟩ : ∃ j_ : Int, (wrap64 (a2 + x10_1)) = j_ := ⟨_, rfl⟩
    replace H : (if 0 ≤ (ji6) then (if (ji6) < (x0_1.length : Int) then (if 0 ≤ (wrap64 (a1 + x10_1)) then (if (wrap64 (a1 + x10_1)) < (x0_1.length : Int) then (slices_swapRangeCmpFunc_impl_Row.l0 k1 ((x0_1.set ((wrap64 (a1 + x10_1)) : Int).toNat (⟨(rd_T49 x0_1 (ji6)).f0, (rd_T49 x0_1 (ji6)).f1, (rd_T49 x0_1 (ji6)).f2, (rd_T49 x0_1 (ji6)).f3⟩ : S49)).set ((ji6) : Int).toNat (⟨(rd_T49 x0_1 (wrap64 (a1 + x10_1))).f0, (rd_T49 x0_1 (wrap64 (a1 + x10_1))).f1, (rd_T49 x0_1 (wrap64 (a1 + x10_1))).f2, (rd_T49 x0_1 (wrap64 (a1 + x10_1))).f3⟩ : S49)) a1 a2 a3 (wrap64 (x10_1 + 1))) else (none)) else (none)) else (none)) else (none)) = some r := by first | (rw [hji6] at H; exact H) | (simp only [hji6] at H ⊢; exact H)
    have hji6w : (IntKind.i64.wrap (a2 + x10_1)) = ji6 := (i64_w _).trans hji6
    by_cases c7 : 0 ≤ (ji6)
    ·rw [if_pos c7] at H
     have c7b0 := decide_eq_true c7
     clear c7
     by_cases c8 : (ji6) < (x0_1.length : Int)
     ·rw [if_pos c8] at H
      have c8b0 := decide_eq_true c8
      clear c8
      obtain ⟨ji9, hji9⟩ : ∃ j_ : Int, (wrap64 (a1 + x10_1)) = j_ := ⟨_, rfl⟩
      replace H : (if 0 ≤ (ji9) then (if (ji9) < (x0_1.length : Int) then (slices_swapRangeCmpFunc_impl_Row.l0 k1 ((x0_1.set ((ji9) : Int).toNat (⟨(rd_T49 x0_1 (ji6)).f0, (rd_T49 x0_1 (ji6)).f1, (rd_T49 x0_1 (ji6)).f2, (rd_T49 x0_1 (ji6)).f3⟩ : S49)).set ((ji6) : Int).toNat (⟨(rd_T49 x0_1 (ji9)).f0, (rd_T49 x0_1 (ji9)).f1, (rd_T49 x0_1 (ji9)).f2, (rd_T49 x0_1 (ji9)).f3⟩ : S49)) a1 a2 a3 (wrap64 (x10_1 + 1))) else (none)) else (none)) = some r := by first | (rw [hji9] at H; exact H) | (simp only [hji9] at H ⊢; exact H)
      have hji9w : (IntKind.i64.wrap (a1 + x10_1)) = ji9 := (i64_w _).trans hji9
      by_cases c10 : 0 ≤ (ji9)
      ·rw [if_pos c10] at H
       have c10b0 := decide_eq_true c10
       clear c10
       by_cases c11 : (ji9) < (x0_1.length : Int)
       ·rw [if_pos c11] at H
        have c11b0 := decide_eq_true c11
        clear c11
        obtain ⟨y291, hy291⟩ : ∃ y_ : List (S49), y_ = (x0_1.set ((ji9) : Int).toNat (⟨(rd_T49 x0_1 (ji6)).f0, (rd_T49 x0_1 (ji6)).f1, (rd_T49 x0_1 (ji6)).f2, (rd_T49 x0_1 (ji6)).f3⟩ : S49)) := ⟨_, rfl⟩
        replace H : (slices_swapRangeCmpFunc_impl_Row.l0 k1 (y291.set ((ji6) : Int).toNat (⟨(rd_T49 x0_1 (ji9)).f0, (rd_T49 x0_1 (ji9)).f1, (rd_T49 x0_1 (ji9)).f2, (rd_T49 x0_1 (ji9)).f3⟩ : S49)) a1 a2 a3 (wrap64 (x10_1 + 1))) = some r := q_h hy291 H
        have Ny291 := am hy291
        clear hy291
        obtain ⟨y292, hy292⟩ : ∃ y_ : List (S49), y_ = (y291.set ((ji6) : Int).toNat (⟨(rd_T49 x0_1 (ji9)).f0, (rd_T49 x0_1 (ji9)).f1, (rd_T49 x0_1 (ji9)).f2, (rd_T49 x0_1 (ji9)).f3⟩ : S49)) := ⟨_, rfl⟩
        replace H : (slices_swapRangeCmpFunc_impl_Row.l0 k1 y292 a1 a2 a3 (wrap64 (x10_1 + 1))) = some r := q_h hy292 H
        have Ny292 := am hy292
        clear hy292
        have H' := am H
        clear H
        try go_wp2
        have n0_ := am (Kd.R_drew HO_0.out)
        have n1_ := am (Kept.drew HK.out)
        have n2_ := am (below_drew1 HB.out)
        clear HO_0
        clear HK
        clear HB
        have HO_0 := n0_
        have HK := n1_
        have HB := n2_
        clear n0_ n1_ n2_
        obtain ⟨Ao15, co15, eo15⟩ := Kd.R_slice HO_0.out
        (first | subst eo15 | (injection eo15 with f1_ f2_ f3_; have f4_ := f1_.symm; have f5_ := f3_.symm; clear f1_ f2_ f3_; subst f4_; subst f5_))
        have p289 : 0 ≤ ((ji6) : Int) := q_d
        have q289 : (ji6) < (x0_1.length : Int) := q_d
        obtain ⟨ad289, e289, hx289_0, hx289_1, hx289_2, hx289_3⟩ := at_T49 (Kd.R_reads' HO_0.out).2.2 (ji6) p289 q289
        cases e289
        replace p289 := eq_true p289
        replace q289 := eq_true q289
        have p290 : 0 ≤ ((ji9) : Int) := q_d
        have q290 : (ji9) < (x0_1.length : Int) := q_d
        obtain ⟨ad290, e290, hx290_0, hx290_1, hx290_2, hx290_3⟩ := at_T49 (Kd.R_reads' HO_0.out).2.2 (ji9) p290 q290
        obtain rfl : ad289 = ad290 := (by injection e290)
        replace p290 := eq_true p290
        replace q290 := eq_true q290
        have p12 : 0 ≤ ((ji9) : Int) := q_d
        have q12 : ((ji9) : Int) < ((x0_1.length : Int) : Int) := q_d
        obtain ⟨go12, co12, eo12, gb12, gl12, cl12, HG12⟩ := Kd.R_form HO_0.out (by omega)
        (first | cases eo12 | (injection eo12 with ea_ en_ ec_; (first | subst ea_ | (injection ea_ with ea_; subst ea_)); subst ec_; clear en_))
        have GB12 := am gb12
        have GG12 := am HG12
        clear gb12 gl12 HG12
        have HMgo12 := am (show (P0_ go12 ∨ w.heap.size ≤ go12) from (HO_0.out.1 _ rfl))
        (first | simp only [add_plain] at hx289_0 | skip)
        (first | simp only [add_plain] at hx289_1 | skip)
        (first | simp only [add_plain] at hx289_2 | skip)
        (first | simp only [add_plain] at hx289_3 | skip)
        (first | simp only [add_plain] at hx290_0 | skip)
        (first | simp only [add_plain] at hx290_1 | skip)
        (first | simp only [add_plain] at hx290_2 | skip)
        (first | simp only [add_plain] at hx290_3 | skip)
        obtain ⟨ce12, hcl12, hM12, hcc12, hfr12⟩ := Kd.R_elem HO_0.out z49 ((ji9) : Int) p12 q12
        obtain rfl := k49_openM hM12
        have hx12_0 : World.cell? _ ⟨go12, ((ji9) : Int).toNat * 4, none⟩ = some (.string ((rd_T49 x0_1 (ji9)).f0)) := hcc12 0 _ rfl
        have hx12_1 : World.cell? _ ⟨go12, ((ji9) : Int).toNat * 4 + 1, none⟩ = some (.int .i64 ((rd_T49 x0_1 (ji9)).f1)) := hcc12 1 _ rfl
        have hx12_2 : World.cell? _ ⟨go12, ((ji9) : Int).toNat * 4 + 2, none⟩ = some (.string ((rd_T49 x0_1 (ji9)).f2)) := hcc12 2 _ rfl
        have hx12_3 : World.cell? _ ⟨go12, ((ji9) : Int).toNat * 4 + 3, none⟩ = some (.bool ((rd_T49 x0_1 (ji9)).f3)) := hcc12 3 _ rfl
        have hf12_0 : World.frozen? _ ⟨go12, ((ji9) : Int).toNat * 4, none⟩ = false := hfr12 0
        have hf12_1 : World.frozen? _ ⟨go12, ((ji9) : Int).toNat * 4 + 1, none⟩ = false := hfr12 1
        have hf12_2 : World.frozen? _ ⟨go12, ((ji9) : Int).toNat * 4 + 2, none⟩ = false := hfr12 2
        have hf12_3 : World.frozen? _ ⟨go12, ((ji9) : Int).toNat * 4 + 3, none⟩ = false := hfr12 3
        clear hcl12 hcc12 hfr12; (try clear hM12)
        replace p12 := eq_true p12
        replace q12 := eq_true q12
        obtain ⟨ce16, hcl16, hM16, hcc16, hfr16⟩ := Kd.R_elem HO_0.out z49 ((ji9) : Int) q_d (by have h_ : ((ji9) : Int) < ((x0_1.length : Int) : Int) := q_d; first | exact h_ | (have e_ := (Kd.R_reads' HO_0.out).1; omega) | simpa using h_)
        obtain rfl := k49_openM hM16
        have HP16 := (Kd.R_seg HO_0.out ((ji9) : Int) q_d (by have h_ : ((ji9) : Int) < ((x0_1.length : Int) : Int) := q_d; first | exact h_ | (have e_ := (Kd.R_reads' HO_0.out).1; omega) | simpa using h_) (seg := [.string ((rd_T49 x0_1 (ji6)).f0), .int .i64 ((rd_T49 x0_1 (ji6)).f1), .string ((rd_T49 x0_1 (ji6)).f2), .bool ((rd_T49 x0_1 (ji6)).f3)]) (j := 0) hcl16 hcc16 (show 4 ≤ 4 from by decide) (x' := (⟨(rd_T49 x0_1 (ji6)).f0, (rd_T49 x0_1 (ji6)).f1, (rd_T49 x0_1 (ji6)).f2, (rd_T49 x0_1 (ji6)).f3⟩ : S49)) (k49_mkM _ _ _ (⟨(rd_T49 x0_1 (ji6)).f0, (rd_T49 x0_1 (ji6)).f1, (rd_T49 x0_1 (ji6)).f2, (rd_T49 x0_1 (ji6)).f3⟩ : S49) ) (fun _ hk => hk)).1
        rw [← Ny291.out] at HP16
        have HQ16 := am HP16
        clear hcl16 hcc16 hfr16 HP16; (try clear hM16)
        have p13 : 0 ≤ ((ji6) : Int) := q_d
        have q13 : ((ji6) : Int) < ((x0_1.length : Int) : Int) := q_d
        obtain ⟨ce13, hcl13, hM13, hcc13, hfr13⟩ := Kd.R_elem HQ16.out z49 ((ji6) : Int) p13 q13
        obtain rfl := k49_openM hM13
        have hx13_0 : World.cell? _ ⟨go12, ((ji6) : Int).toNat * 4, none⟩ = some (.string ((rd_T49 y291 (ji6)).f0)) := hcc13 0 _ rfl
        have hx13_1 : World.cell? _ ⟨go12, ((ji6) : Int).toNat * 4 + 1, none⟩ = some (.int .i64 ((rd_T49 y291 (ji6)).f1)) := hcc13 1 _ rfl
        have hx13_2 : World.cell? _ ⟨go12, ((ji6) : Int).toNat * 4 + 2, none⟩ = some (.string ((rd_T49 y291 (ji6)).f2)) := hcc13 2 _ rfl
        have hx13_3 : World.cell? _ ⟨go12, ((ji6) : Int).toNat * 4 + 3, none⟩ = some (.bool ((rd_T49 y291 (ji6)).f3)) := hcc13 3 _ rfl
        have hf13_0 : World.frozen? _ ⟨go12, ((ji6) : Int).toNat * 4, none⟩ = false := hfr13 0
        have hf13_1 : World.frozen? _ ⟨go12, ((ji6) : Int).toNat * 4 + 1, none⟩ = false := hfr13 1
        have hf13_2 : World.frozen? _ ⟨go12, ((ji6) : Int).toNat * 4 + 2, none⟩ = false := hfr13 2
        have hf13_3 : World.frozen? _ ⟨go12, ((ji6) : Int).toNat * 4 + 3, none⟩ = false := hfr13 3
        clear hcl13 hcc13 hfr13; (try clear hM13)
        replace p13 := eq_true p13
        replace q13 := eq_true q13
        obtain ⟨ce17, hcl17, hM17, hcc17, hfr17⟩ := Kd.R_elem HQ16.out z49 ((ji6) : Int) q_d (by have h_ : ((ji6) : Int) < ((x0_1.length : Int) : Int) := q_d; first | exact h_ | (have e_ := (Kd.R_reads' HO_0.out).1; omega) | simpa using h_)
        obtain rfl := k49_openM hM17
        have HP17 := (Kd.R_seg HQ16.out ((ji6) : Int) q_d (by have h_ : ((ji6) : Int) < ((x0_1.length : Int) : Int) := q_d; first | exact h_ | (have e_ := (Kd.R_reads' HO_0.out).1; omega) | simpa using h_) (seg := [.string ((rd_T49 x0_1 (ji9)).f0), .int .i64 ((rd_T49 x0_1 (ji9)).f1), .string ((rd_T49 x0_1 (ji9)).f2), .bool ((rd_T49 x0_1 (ji9)).f3)]) (j := 0) hcl17 hcc17 (show 4 ≤ 4 from by decide) (x' := (⟨(rd_T49 x0_1 (ji9)).f0, (rd_T49 x0_1 (ji9)).f1, (rd_T49 x0_1 (ji9)).f2, (rd_T49 x0_1 (ji9)).f3⟩ : S49)) (k49_mkM _ _ _ (⟨(rd_T49 x0_1 (ji9)).f0, (rd_T49 x0_1 (ji9)).f1, (rd_T49 x0_1 (ji9)).f2, (rd_T49 x0_1 (ji9)).f3⟩ : S49) ) (fun _ hk => hk)).1
        rw [← Ny292.out] at HP17
        have HQ17 := am HP17
        clear hcl17 hcc17 hfr17 HP17; (try clear hM17)
        refine start_ (n := 24) (S := fun w' => w'.cell? ⟨go12, ((ji6)).toNat * 4, none⟩ = some (.string ((rd_T49 x0_1 (ji6)).f0)) ∧ w'.cell? ⟨go12, ((ji6)).toNat * 4 + 1, none⟩ = some (.int .i64 ((rd_T49 x0_1 (ji6)).f1)) ∧ w'.cell? ⟨go12, ((ji6)).toNat * 4 + 2, none⟩ = some (.string ((rd_T49 x0_1 (ji6)).f2)) ∧ w'.cell? ⟨go12, ((ji6)).toNat * 4 + 3, none⟩ = some (.bool ((rd_T49 x0_1 (ji6)).f3)) ∧ w'.cell? ⟨go12, ((ji9)).toNat * 4, none⟩ = some (.string ((rd_T49 x0_1 (ji9)).f0)) ∧ w'.cell? ⟨go12, ((ji9)).toNat * 4 + 1, none⟩ = some (.int .i64 ((rd_T49 x0_1 (ji9)).f1)) ∧ w'.cell? ⟨go12, ((ji9)).toNat * 4 + 2, none⟩ = some (.string ((rd_T49 x0_1 (ji9)).f2)) ∧ w'.cell? ⟨go12, ((ji9)).toNat * 4 + 3, none⟩ = some (.bool ((rd_T49 x0_1 (ji9)).f3))) (ds := [21, 23]) #[false, false, false, false, false, false, false, false, false, false, false, false, false, false, false, false, false, false, false, false, false, false, false, false] (by kernel_rfl) rfl rfl ⟨hx289_0, hx289_1, hx289_2, hx289_3, hx290_0, hx290_1, hx290_2, hx290_3⟩ (fun hHeld => ?_); refine with_tabW slices_swapRangeCmpFunc_impl_Row.tab3 slices_swapRangeCmpFunc_impl_Row.bits3 (fun HT_ HW_ => ?_)
        generalize wr.drew = w14 at HO_0 HK HB GG12 HQ16 HQ17 hf12_0 hf12_1 hf12_2 hf12_3 hf13_0 hf13_1 hf13_2 hf13_3 hx12_0 hx12_1 hx12_2 hx12_3 hx13_0 hx13_1 hx13_2 hx13_3 hx289_0 hx289_1 hx289_2 hx289_3 hx290_0 hx290_1 hx290_2 hx290_3 hHeld ⊢
        refine q_p 0 (some 16) #[true, false, false, false, false, false, false, false, false, false, false, false, false, false, false, false, false, false, false, false, false, false, false, false] HT_.out ?_
        refine q_p 1 (some 17) #[true, true, false, false, false, false, false, false, false, false, false, false, false, false, false, false, false, false, false, false, false, false, false, false] HT_.out ?_
        refine q_p 2 (some 18) #[true, true, true, false, false, false, false, false, false, false, false, false, false, false, false, false, false, false, false, false, false, false, false, false] HT_.out ?_
        refine q_p 3 (some 19) #[true, true, true, true, false, false, false, false, false, false, false, false, false, false, false, false, false, false, false, false, false, false, false, false] HT_.out ?_
        refine q_p 4 (some 20) #[true, true, true, true, true, false, false, false, false, false, false, false, false, false, false, false, false, false, false, false, false, false, false, false] HT_.out ?_
        refine q_p 5 (some 21) #[true, true, true, true, true, true, false, false, false, false, false, false, false, false, false, false, false, false, false, false, false, false, false, false] HT_.out ?_
        refine q_p 6 (some 22) #[true, true, true, true, true, true, true, false, false, false, false, false, false, false, false, false, false, false, false, false, false, false, false, false] HT_.out ?_
        refine q_p 7 (some 23) #[true, true, true, true, true, true, true, true, false, false, false, false, false, false, false, false, false, false, false, false, false, false, false, false] HT_.out ?_
        refine q_p 8 (some 24) #[true, true, true, true, true, true, true, true, true, false, false, false, false, false, false, false, false, false, false, false, false, false, false, false] HT_.out ?_
        refine q_p 9 (some 25) #[true, true, true, true, true, true, true, true, true, true, false, false, false, false, false, false, false, false, false, false, false, false, false, false] HT_.out ?_
        refine q_p 10 (some 26) #[true, true, true, true, true, true, true, true, true, true, true, false, false, false, false, false, false, false, false, false, false, false, false, false] HT_.out ?_
        refine q_p 11 (some 27) #[true, true, true, true, true, true, true, true, true, true, true, true, false, false, false, false, false, false, false, false, false, false, false, false] HT_.out ?_
        refine q_p 12 (some 28) #[true, true, true, true, true, true, true, true, true, true, true, true, true, false, false, false, false, false, false, false, false, false, false, false] HT_.out ?_
        refine q_p 14 (some 30) #[true, true, true, true, true, true, true, true, true, true, true, true, true, false, true, false, false, false, false, false, false, false, false, false] HT_.out ?_
        refine q_p 15 (some 31) #[true, true, true, true, true, true, true, true, true, true, true, true, true, false, true, true, false, false, false, false, false, false, false, false] HT_.out ?_
        refine q_p 16 (some 32) #[true, true, true, true, true, true, true, true, true, true, true, true, true, false, true, true, true, false, false, false, false, false, false, false] HT_.out ?_
        refine q_p 17 (some 33) #[true, true, true, true, true, true, true, true, true, true, true, true, true, false, true, true, true, true, false, false, false, false, false, false] HT_.out ?_
        refine q_p 18 (some 34) #[true, true, true, true, true, true, true, true, true, true, true, true, true, false, true, true, true, true, true, false, false, false, false, false] HT_.out ?_
        refine q_t 13 (some 29) #[true, true, true, true, true, true, true, true, true, true, true, true, true, true, true, true, true, true, true, false, false, false, false, false] HT_.out HW_.out hHeld ?_
        refine q_t 19 (some 35) #[true, true, true, true, true, true, true, true, true, true, true, true, true, true, true, true, true, true, true, true, false, false, false, false] HT_.out HW_.out hHeld ?_
        refine q_p 20 (some 36) #[true, true, true, true, true, true, true, true, true, true, true, true, true, true, true, true, true, true, true, true, true, false, false, false] HT_.out ?_
        refine last_ (i := 21) (N := none) #[true, true, true, true, true, true, true, true, true, true, true, true, true, true, true, true, true, true, true, true, true, true, false, false] rfl rfl (one_of HT_.out (by kernel_rfl)) (by decide) (fun K hK => ?_)
        refine skip_ (w1 := ?_) (by rfl) rfl ?_ ?_
        rotate_left
        ·go_simp
         rfl
        refine hK.out _ _ ?_
        clear hK K
        refine q_p 22 (some 37) #[true, true, true, true, true, true, true, true, true, true, true, true, true, true, true, true, true, true, true, true, true, true, true, false] HT_.out ?_
        refine last_ (i := 23) (N := none) #[true, true, true, true, true, true, true, true, true, true, true, true, true, true, true, true, true, true, true, true, true, true, true, true] rfl rfl (one_of HT_.out (by kernel_rfl)) (by decide) (fun K hK => ?_)
        have hz13_0 := (show ((((w14.setCell ⟨go12, ((ji9) : Int).toNat * 4, none⟩ (.string ((rd_T49 x0_1 (ji6)).f0))).setCell ⟨go12, ((ji9) : Int).toNat * 4 + 1, none⟩ (.int .i64 ((rd_T49 x0_1 (ji6)).f1))).setCell ⟨go12, ((ji9) : Int).toNat * 4 + 2, none⟩ (.string ((rd_T49 x0_1 (ji6)).f2))).setCell ⟨go12, ((ji9) : Int).toNat * 4 + 3, none⟩ (.bool ((rd_T49 x0_1 (ji6)).f3))).cell? ⟨go12, ((ji6) : Int).toNat * 4, none⟩ = _ from hx13_0)
        have hzf13_0 := (show ((((w14.setCell ⟨go12, ((ji9) : Int).toNat * 4, none⟩ (.string ((rd_T49 x0_1 (ji6)).f0))).setCell ⟨go12, ((ji9) : Int).toNat * 4 + 1, none⟩ (.int .i64 ((rd_T49 x0_1 (ji6)).f1))).setCell ⟨go12, ((ji9) : Int).toNat * 4 + 2, none⟩ (.string ((rd_T49 x0_1 (ji6)).f2))).setCell ⟨go12, ((ji9) : Int).toNat * 4 + 3, none⟩ (.bool ((rd_T49 x0_1 (ji6)).f3))).frozen? ⟨go12, ((ji6) : Int).toNat * 4, none⟩ = false from hf13_0)
        have hz13_1 := (show ((((w14.setCell ⟨go12, ((ji9) : Int).toNat * 4, none⟩ (.string ((rd_T49 x0_1 (ji6)).f0))).setCell ⟨go12, ((ji9) : Int).toNat * 4 + 1, none⟩ (.int .i64 ((rd_T49 x0_1 (ji6)).f1))).setCell ⟨go12, ((ji9) : Int).toNat * 4 + 2, none⟩ (.string ((rd_T49 x0_1 (ji6)).f2))).setCell ⟨go12, ((ji9) : Int).toNat * 4 + 3, none⟩ (.bool ((rd_T49 x0_1 (ji6)).f3))).cell? ⟨go12, ((ji6) : Int).toNat * 4 + 1, none⟩ = _ from hx13_1)
        have hzf13_1 := (show ((((w14.setCell ⟨go12, ((ji9) : Int).toNat * 4, none⟩ (.string ((rd_T49 x0_1 (ji6)).f0))).setCell ⟨go12, ((ji9) : Int).toNat * 4 + 1, none⟩ (.int .i64 ((rd_T49 x0_1 (ji6)).f1))).setCell ⟨go12, ((ji9) : Int).toNat * 4 + 2, none⟩ (.string ((rd_T49 x0_1 (ji6)).f2))).setCell ⟨go12, ((ji9) : Int).toNat * 4 + 3, none⟩ (.bool ((rd_T49 x0_1 (ji6)).f3))).frozen? ⟨go12, ((ji6) : Int).toNat * 4 + 1, none⟩ = false from hf13_1)
        have hz13_2 := (show ((((w14.setCell ⟨go12, ((ji9) : Int).toNat * 4, none⟩ (.string ((rd_T49 x0_1 (ji6)).f0))).setCell ⟨go12, ((ji9) : Int).toNat * 4 + 1, none⟩ (.int .i64 ((rd_T49 x0_1 (ji6)).f1))).setCell ⟨go12, ((ji9) : Int).toNat * 4 + 2, none⟩ (.string ((rd_T49 x0_1 (ji6)).f2))).setCell ⟨go12, ((ji9) : Int).toNat * 4 + 3, none⟩ (.bool ((rd_T49 x0_1 (ji6)).f3))).cell? ⟨go12, ((ji6) : Int).toNat * 4 + 2, none⟩ = _ from hx13_2)
        have hzf13_2 := (show ((((w14.setCell ⟨go12, ((ji9) : Int).toNat * 4, none⟩ (.string ((rd_T49 x0_1 (ji6)).f0))).setCell ⟨go12, ((ji9) : Int).toNat * 4 + 1, none⟩ (.int .i64 ((rd_T49 x0_1 (ji6)).f1))).setCell ⟨go12, ((ji9) : Int).toNat * 4 + 2, none⟩ (.string ((rd_T49 x0_1 (ji6)).f2))).setCell ⟨go12, ((ji9) : Int).toNat * 4 + 3, none⟩ (.bool ((rd_T49 x0_1 (ji6)).f3))).frozen? ⟨go12, ((ji6) : Int).toNat * 4 + 2, none⟩ = false from hf13_2)
        have hz13_3 := (show ((((w14.setCell ⟨go12, ((ji9) : Int).toNat * 4, none⟩ (.string ((rd_T49 x0_1 (ji6)).f0))).setCell ⟨go12, ((ji9) : Int).toNat * 4 + 1, none⟩ (.int .i64 ((rd_T49 x0_1 (ji6)).f1))).setCell ⟨go12, ((ji9) : Int).toNat * 4 + 2, none⟩ (.string ((rd_T49 x0_1 (ji6)).f2))).setCell ⟨go12, ((ji9) : Int).toNat * 4 + 3, none⟩ (.bool ((rd_T49 x0_1 (ji6)).f3))).cell? ⟨go12, ((ji6) : Int).toNat * 4 + 3, none⟩ = _ from hx13_3)
        have hzf13_3 := (show ((((w14.setCell ⟨go12, ((ji9) : Int).toNat * 4, none⟩ (.string ((rd_T49 x0_1 (ji6)).f0))).setCell ⟨go12, ((ji9) : Int).toNat * 4 + 1, none⟩ (.int .i64 ((rd_T49 x0_1 (ji6)).f1))).setCell ⟨go12, ((ji9) : Int).toNat * 4 + 2, none⟩ (.string ((rd_T49 x0_1 (ji6)).f2))).setCell ⟨go12, ((ji9) : Int).toNat * 4 + 3, none⟩ (.bool ((rd_T49 x0_1 (ji6)).f3))).frozen? ⟨go12, ((ji6) : Int).toNat * 4 + 3, none⟩ = false from hf13_3)
        refine skip_ (w1 := ?_) (by rfl) rfl ?_ ?_
        rotate_left
        ·go_simp
         rfl
        refine hK.out _ _ ?_
        clear hK K
        refine done_ (done_of HT_.out (by kernel_rfl)) ?_
        try go_wp2
        go_roundg k1
        case measure => have := HK1.out; omega
        case rel => exact ⟨(y292), (wrap64 (x10_1 + 1)), q_i, H', ⟨by have := HK1.out; omega⟩, ⟨q_r (HQ17.out)⟩, ⟨by repeat (first | (with_reducible first | exact HK.out | apply Kept.alloc | apply Kept.drewN | apply Kept.drew | refine Kept.setCell ?_ HMgo12.out _ | refine Kept.setCell ?_ HMgo12.out _ | refine Kept.setCell ?_ HMgo12.out _ | refine Kept.setCell ?_ HMgo12.out _ | refine Kept.setCell ?_ HMgo12.out _ | refine Kept.setCell ?_ HMgo12.out _ | refine Kept.setCell ?_ HMgo12.out _ | refine Kept.setCell ?_ HMgo12.out _) | exact HK.out)⟩, ⟨bq⟩⟩
       ·rw [if_neg c11] at H
        exact absurd H (by simp)
      ·rw [if_neg c10] at H
       exact absurd H (by simp)
     ·rw [if_neg c8] at H
      exact absurd H (by simp)
    ·rw [if_neg c7] at H
     exact absurd H (by simp)
   ·rw [if_neg c5] at H
    have c5b0 := decide_eq_false c5
    clear c5
    obtain rfl := Option.some.inj H
    go_wp2
    first | go_end0 | ((try simp only [Exit.inBlock, Exit.then]); refine bodyPost_ret (results_none rfl _ _ _) rfl ?_)
    exact ⟨q_e, q_r (HO_0.out), bq, q_k⟩

/-! ### slices_rotateCmpFunc_impl_Row: function 139 -/
def slices_rotateCmpFunc_impl_Row.l0 : Nat → List (S49) → Int → Int → Int → Option ((List (S49)))
  | 0, _, _, _, _ => none
  | k + 1, x0, x2, x10, x11 => if x10 = x11 then ((slices_swapRangeCmpFunc_impl_Row.f k x0 (wrap64 (x2 - x10)) x2 x10).bind fun t293 => (some t293)) else (if x10 > x11 then ((slices_swapRangeCmpFunc_impl_Row.f k x0 (wrap64 (x2 - x10)) x2 x11).bind fun t294 => (slices_rotateCmpFunc_impl_Row.l0 k t294 x2 (wrap64 (x10 - x11)) x11)) else ((slices_swapRangeCmpFunc_impl_Row.f k x0 (wrap64 (x2 - x10)) (wrap64 ((wrap64 (x2 + x11)) - x10)) x10).bind fun t295 => (slices_rotateCmpFunc_impl_Row.l0 k t295 x2 x10 (wrap64 (x11 - x10)))))
def slices_rotateCmpFunc_impl_Row.f (k : Nat) (l0 : List (S49)) (a1 : Int) (a2 : Int) (a3 : Int) : Option ((List (S49))) := slices_rotateCmpFunc_impl_Row.l0 k l0 a2 (wrap64 (a2 - a1)) (wrap64 (a3 - a2))
theorem slices_rotateCmpFunc_impl_Row.calls (k : Nat) (P0_ : Nat → Prop) (u9000_ : Value) (l0 : List (S49)) (a1 : Int) (a2 : Int) (a3 : Int) (r : List (S49)) (w0 w : World) (hB : Below w0.heap.size w0 w) (ho0 : Kd.R k49 49 w w0.heap.size P0_ u9000_ l0) (h : slices_rotateCmpFunc_impl_Row.f k l0 a1 a2 a3 = some r) :
  Calls Try.prog 139 #[u9000_, .int .i64 a1, .int .i64 a2, .int .i64 a3, .func (.func 67) #[] #[]] w fun e w' => e = .returned (.tuple #[]) ∧ Kd.R k49 49 w' w0.heap.size (fun k_ => (P0_ k_ ∨ w.heap.size ≤ k_)) u9000_ r ∧ Below w0.heap.size w0 w' ∧ Kept w w' (fun k_ => P0_ k_) := by
 have HO0 := am (show Kd.R k49 49 w w0.heap.size (fun k_ => (P0_ k_ ∨ w.heap.size ≤ k_)) u9000_ l0 from Kd.R_mono ho0 (fun k_ hk => (.inl hk)))
 have HK := am (Kept.refl w (fun k_ => P0_ k_))
 have HW0 := am hB.size
 have HB := am hB
 clear hB
 have H : (slices_rotateCmpFunc_impl_Row.l0 k l0 a2 (wrap64 (a2 - a1)) (wrap64 (a3 - a2))) = some r := h
 clear h
 have H' := am H
 clear H
 go_enter Try.func139, Try.ntmps139
 go_wp2
 go_loopg [10, 11] k (fun kq v10 v11 w' => ∃ (x0_1 : List (S49)) (x10_1 : Int) (x11_1 : Int), v10 = .int .i64 x10_1 ∧ v11 = .int .i64 x11_1 ∧ Aside0 (slices_rotateCmpFunc_impl_Row.l0 kq x0_1 a2 x10_1 x11_1 = some r) ∧ Aside0 (kq ≤ k) ∧ Aside0 (Kd.R k49 49 w' w0.heap.size (fun k_ => (P0_ k_ ∨ w.heap.size ≤ k_)) u9000_ x0_1) ∧ Aside0 (Kept w w' (fun k_ => P0_ k_)) ∧ Aside0 (Below w0.heap.size w0 w'))
 case atStart => exact ⟨(l0), (wrap64 (a2 - a1)), (wrap64 (a3 - a2)), q_i, q_i, H', ⟨Nat.le_refl _⟩, ⟨q_r (HO0.out)⟩, ⟨q_k⟩, ⟨bq⟩⟩
 case round =>
  clear H'
  (try clear c1); (try clear p2)
  obtain ⟨x0_1, x10_1, x11_1, rfl, rfl, HA, HK1, HO_0, HK, HB⟩ := hrel
  cases gk with
  | zero => exact absurd HA.out (by simp [slices_rotateCmpFunc_impl_Row.l0])
  | succ k1 =>
   have H := HA.out
   clear HA
   simp only [slices_rotateCmpFunc_impl_Row.l0] at H
   by_cases c5 : x10_1 = x11_1
   ·rw [if_pos c5] at H
    have c5b0 : (x10_1 == x11_1) = true := beq_iff_eq.mpr c5
    have c5b1 : (x10_1 != x11_1) = false := bne_eq_false_iff_eq.mpr c5
    clear c5
    replace H := ob H
    obtain ⟨t293, A60, H⟩ := H
    replace H : (some t293) = some r := H
    have A6 := am A60
    clear A60
    obtain rfl := Option.some.inj H
    obtain ⟨Ao7, co7, eo7⟩ := Kd.R_slice HO_0.out
    subst eo7
    go_wp2_with (first | ((with_reducible refine gate_callee (f := 140) rfl ?_); refine goesLq (some 57) rfl rfl Try.func140 (by kernel_rfl) rfl #[.slice Ao7 x0_1.length co7, .int .i64 (wrap64 (a2 - x10_1)), .int .i64 a2, .int .i64 x10_1, .func (.func 67) #[] #[]] rfl ?_; (with_reducible refine (slices_swapRangeCmpFunc_impl_Row.calls k1 (fun k_ => some k_ = (.slice Ao7 x0_1.length co7 : Value).ownBlock) (.slice Ao7 x0_1.length co7) x0_1 (wrap64 (a2 - x10_1)) a2 x10_1 t293 w0 _ ?side1 ?side2 A6.out).mono ?_); (case side1 => repeat (first | (with_reducible first | exact HB.out | apply below_alloc | apply pw_below_drewN | apply below_drew1) | exact HB.out)); (case side2 => exact Kd.R_tight rfl HO_0.out); rintro e w8 ⟨rfl, hy0, hb, hkp⟩; refine ⟨_, rfl, ?_⟩; have n0_ := am (Kd.R_reok rfl hy0 (fun k_ e_ => HO_0.out.1 k_ e_)); have n1_ := am (Kept.then_ (S := (fun k_ => P0_ k_)) q_k hkp (fun k_ hs_ => (fun e_ => (HO_0.out.1 k_ e_.symm)) hs_)); have n2_ := am (hb); revert n0_ n1_ n2_; clear HO_0 HK HB; intro HO_0 HK HB; (try clear hb); (try clear hkp); (try clear hy0)))
    first | go_end0 | ((try simp only [Exit.inBlock, Exit.then]); refine bodyPost_ret (results_none rfl _ _ _) rfl ?_)
    exact ⟨q_e, q_r (HO_0.out), bq, q_k⟩
   ·rw [if_neg c5] at H
    have c5b0 : (x10_1 == x11_1) = false := beq_eq_false_iff_ne.mpr c5
    have c5b1 : (x10_1 != x11_1) = true := bne_iff_ne.mpr c5
    by_cases c9 : x10_1 > x11_1
    ·rw [if_pos c9] at H
     have c9b0 := decide_eq_true c9
     clear c9
     replace H := ob H
     obtain ⟨t294, A100, H⟩ := H
     replace H : (slices_rotateCmpFunc_impl_Row.l0 k1 t294 a2 (wrap64 (x10_1 - x11_1)) x11_1) = some r := H
     have A10 := am A100
     clear A100
     have H' := am H
     clear H
     obtain ⟨Ao11, co11, eo11⟩ := Kd.R_slice HO_0.out
     subst eo11
     go_wp2_with (first | ((with_reducible refine gate_callee (f := 140) rfl ?_); refine goesLq (some 31) rfl rfl Try.func140 (by kernel_rfl) rfl #[.slice Ao11 x0_1.length co11, .int .i64 (wrap64 (a2 - x10_1)), .int .i64 a2, .int .i64 x11_1, .func (.func 67) #[] #[]] rfl ?_; (with_reducible refine (slices_swapRangeCmpFunc_impl_Row.calls k1 (fun k_ => some k_ = (.slice Ao11 x0_1.length co11 : Value).ownBlock) (.slice Ao11 x0_1.length co11) x0_1 (wrap64 (a2 - x10_1)) a2 x11_1 t294 w0 _ ?side1 ?side2 A10.out).mono ?_); (case side1 => repeat (first | (with_reducible first | exact HB.out | apply below_alloc | apply pw_below_drewN | apply below_drew1) | exact HB.out)); (case side2 => exact Kd.R_tight rfl HO_0.out); rintro e w12 ⟨rfl, hy0, hb, hkp⟩; refine ⟨_, rfl, ?_⟩; have n0_ := am (Kd.R_reok rfl hy0 (fun k_ e_ => HO_0.out.1 k_ e_)); have n1_ := am (Kept.then_ (S := (fun k_ => P0_ k_)) q_k hkp (fun k_ hs_ => (fun e_ => (HO_0.out.1 k_ e_.symm)) hs_)); have n2_ := am (hb); revert n0_ n1_ n2_; clear HO_0 HK HB; intro HO_0 HK HB; (try clear hb); (try clear hkp); (try clear hy0)))
     go_roundg k1
     case measure => have := HK1.out; omega
     case rel => exact ⟨(t294), (wrap64 (x10_1 - x11_1)), (x11_1), q_i, q_i, H', ⟨by have := HK1.out; omega⟩, ⟨q_r (HO_0.out)⟩, ⟨q_k⟩, ⟨bq⟩⟩
    ·rw [if_neg c9] at H
     have c9b0 := decide_eq_false c9
     clear c9
     replace H := ob H
     obtain ⟨t295, A130, H⟩ := H
     replace H : (slices_rotateCmpFunc_impl_Row.l0 k1 t295 a2 x10_1 (wrap64 (x11_1 - x10_1))) = some r := H
     have A13 := am A130
     clear A130
     have H' := am H
     clear H
     obtain ⟨Ao14, co14, eo14⟩ := Kd.R_slice HO_0.out
     subst eo14
     go_wp2_with (first | ((with_reducible refine gate_callee (f := 140) rfl ?_); refine goesLq (some 46) rfl rfl Try.func140 (by kernel_rfl) rfl #[.slice Ao14 x0_1.length co14, .int .i64 (wrap64 (a2 - x10_1)), .int .i64 (wrap64 ((wrap64 (a2 + x11_1)) - x10_1)), .int .i64 x10_1, .func (.func 67) #[] #[]] rfl ?_; (with_reducible refine (slices_swapRangeCmpFunc_impl_Row.calls k1 (fun k_ => some k_ = (.slice Ao14 x0_1.length co14 : Value).ownBlock) (.slice Ao14 x0_1.length co14) x0_1 (wrap64 (a2 - x10_1)) (wrap64 ((wrap64 (a2 + x11_1)) - x10_1)) x10_1 t295 w0 _ ?side1 ?side2 A13.out).mono ?_); (case side1 => repeat (first | (with_reducible first | exact HB.out | apply below_alloc | apply pw_below_drewN | apply below_drew1) | exact HB.out)); (case side2 => exact Kd.R_tight rfl HO_0.out); rintro e w15 ⟨rfl, hy0, hb, hkp⟩; refine ⟨_, rfl, ?_⟩; have n0_ := am (Kd.R_reok rfl hy0 (fun k_ e_ => HO_0.out.1 k_ e_)); have n1_ := am (Kept.then_ (S := (fun k_ => P0_ k_)) q_k hkp (fun k_ hs_ => (fun e_ => (HO_0.out.1 k_ e_.symm)) hs_)); have n2_ := am (hb); revert n0_ n1_ n2_; clear HO_0 HK HB; intro HO_0 HK HB; (try clear hb); (try clear hkp); (try clear hy0)))
     go_roundg k1
     case measure => have := HK1.out; omega
     case rel => exact ⟨(t295), (x10_1), (wrap64 (x11_1 - x10_1)), q_i, q_i, H', ⟨by have := HK1.out; omega⟩, ⟨q_r (HO_0.out)⟩, ⟨q_k⟩, ⟨bq⟩⟩

end Go.Proofs.Ytdhlcnlcpjlliaa.PFnTables
