/- Functions that a law reaches, as plain Lean functions, with the proof that the machine comes to their answers. No conditions. -/
import Derived.Test.YtanegggacfmkcaaPFnExactSettleAllx0
import Derived.Test.YtanegggacfmkcaaPFnExactSettleAllx2
import Derived.Test.YtanegggacfmkcaaPFnExactSettleAllx5
import Derived.Test.YtanegggacfmkcaaPFnExactSettleAllx7
namespace Go.Proofs.Ytanegggacfmkcaa.PFnExactSettleAll
open Go.RowKit Go.Proofs.YtanegggacfmkcaaW.PrintWords Go.Proofs.YtanegggacfmkcaaW.PrintLast Go.Proofs.YtanegggacfmkcaaW.PrintMore
attribute [local go_sem] max2_int min2_int max_two min_two max_three min_three max_four min_four   -- for this text's walks alone
set_option linter.unusedVariables false
set_option linter.unusedSimpArgs false
set_option maxHeartbeats 8000000
set_option maxRecDepth 100000

/-! ### impl_added: function 102 -/
def impl_added.f (k : Nat) (l0 : List (S104)) (a1_0 : Int) (a1_1 : Int) (a1_2 : Int) (a1_3 : Int) : Option ((List (S104))) := (slices_Clone_impl_Balance.f l0).bind fun t184 => ((slices_BinarySearchFunc_impl_Balance.f k t184 a1_1 a1_2 0).bind fun bt187 => (if bt187.2 = true then (if 0 ≤ bt187.1 then (if bt187.1 < (t184.length : Int) then ((some (t184.set (bt187.1 : Int).toNat (⟨(rd_T104 t184 bt187.1).f0, (rd_T104 t184 bt187.1).f1, wrap64 (((rd_T104 t184 bt187.1).f2) + a1_3)⟩ : S104) : List (S104))).bind fun y190 => (if (wrap64 (((rd_T104 t184 bt187.1).f2) + a1_3)) = 0 then ((slices_Delete_impl_Balance.f y190 bt187.1 (wrap64 (bt187.1 + 1))).bind fun t192 => (some t192)) else (some y190))) else (none)) else (none)) else ((slices_Insert_impl_Balance.f t184 bt187.1 (([(⟨a1_1, a1_2, 0⟩ : S104)] : List (S104)))).bind fun t198 => (if 0 ≤ bt187.1 then (if bt187.1 < (t198.length : Int) then ((some (t198.set (bt187.1 : Int).toNat (⟨(rd_T104 t198 bt187.1).f0, (rd_T104 t198 bt187.1).f1, wrap64 (((rd_T104 t198 bt187.1).f2) + a1_3)⟩ : S104) : List (S104))).bind fun y202 => (if (wrap64 (((rd_T104 t198 bt187.1).f2) + a1_3)) = 0 then ((slices_Delete_impl_Balance.f y202 bt187.1 (wrap64 (bt187.1 + 1))).bind fun t204 => (some t204)) else (some y202))) else (none)) else (none)))))
def impl_added.T5 : Bool × List (List Nat × List Nat) := (true, [([], []), ([], []), ([0, 1], [0, 1]), ([2], [2]), ([3], [3]), ([], []), ([5], [5]), ([4, 6], [4, 6]), ([0, 1, 0, 1, 2, 3, 4, 5, 6, 7], [0, 1]), ([8, 0, 1, 2, 3, 4, 5, 6, 7], [8]), ([9, 7, 0, 1, 2, 3, 4, 5, 6, 7], [7, 9])])
def impl_added.B5 : List Nat := [0, 0, 3, 7, 15, 0, 32, 127, 255, 511, 1023]
theorem impl_added.tab5 : rtab .any (opsOf Try.f102 5) = impl_added.T5 := by kernel_rfl
theorem impl_added.bits5 : waitsOk impl_added.T5.2 impl_added.B5 = true := by kernel_rfl
theorem impl_added.calls (k : Nat) (A0 : Option Addr) (c0 : Nat) (l0 : List (S104)) (a1_0 : Int) (a1_1 : Int) (a1_2 : Int) (a1_3 : Int) (r : List (S104)) (w : World) (hr0 : Kd.C k104 w A0 l0.length l0) (hc0 : l0.length ≤ c0) (h : impl_added.f k l0 a1_0 a1_1 a1_2 a1_3 = some r) :
  Calls Try.prog 102 #[.slice A0 l0.length c0, .agg #[.int .i64 a1_0, .int .i64 a1_1, .int .i64 a1_2, .int .i64 a1_3]] w fun e w' => ∃ v0_ : Value, e = .returned (v0_) ∧ Kd.R k104 104 w' w.heap.size (fun _ => True) v0_ r ∧ Below w.heap.size w w' := by
 have hu86 := Try.underlying86
 have hu104 := Try.underlying104
 have HR0 := am hr0
 have HC0 := am hc0
 clear hr0 hc0
 have HB := am (Below.refl w.heap.size w)
 have H : ((slices_Clone_impl_Balance.f l0).bind fun t184 => ((slices_BinarySearchFunc_impl_Balance.f k t184 a1_1 a1_2 0).bind fun bt187 => (if bt187.2 = true then (if 0 ≤ bt187.1 then (if bt187.1 < (t184.length : Int) then ((some (t184.set (bt187.1 : Int).toNat (⟨(rd_T104 t184 bt187.1).f0, (rd_T104 t184 bt187.1).f1, wrap64 (((rd_T104 t184 bt187.1).f2) + a1_3)⟩ : S104) : List (S104))).bind fun y190 => (if (wrap64 (((rd_T104 t184 bt187.1).f2) + a1_3)) = 0 then ((slices_Delete_impl_Balance.f y190 bt187.1 (wrap64 (bt187.1 + 1))).bind fun t192 => (some t192)) else (some y190))) else (none)) else (none)) else ((slices_Insert_impl_Balance.f t184 bt187.1 (([(⟨a1_1, a1_2, 0⟩ : S104)] : List (S104)))).bind fun t198 => (if 0 ≤ bt187.1 then (if bt187.1 < (t198.length : Int) then ((some (t198.set (bt187.1 : Int).toNat (⟨(rd_T104 t198 bt187.1).f0, (rd_T104 t198 bt187.1).f1, wrap64 (((rd_T104 t198 bt187.1).f2) + a1_3)⟩ : S104) : List (S104))).bind fun y202 => (if (wrap64 (((rd_T104 t198 bt187.1).f2) + a1_3)) = 0 then ((slices_Delete_impl_Balance.f y202 bt187.1 (wrap64 (bt187.1 + 1))).bind fun t204 => (some t204)) else (some y202))) else (none)) else (none)))))) = some r := h
 clear h
 replace H := ob H
 obtain ⟨t184, A30, H⟩ := H
 replace H : ((slices_BinarySearchFunc_impl_Balance.f k t184 a1_1 a1_2 0).bind fun bt187 => (if bt187.2 = true then (if 0 ≤ bt187.1 then (if bt187.1 < (t184.length : Int) then ((some (t184.set (bt187.1 : Int).toNat (⟨(rd_T104 t184 bt187.1).f0, (rd_T104 t184 bt187.1).f1, wrap64 (((rd_T104 t184 bt187.1).f2) + a1_3)⟩ : S104) : List (S104))).bind fun y190 => (if (wrap64 (((rd_T104 t184 bt187.1).f2) + a1_3)) = 0 then ((slices_Delete_impl_Balance.f y190 bt187.1 (wrap64 (bt187.1 + 1))).bind fun t192 => (some t192)) else (some y190))) else (none)) else (none)) else ((slices_Insert_impl_Balance.f t184 bt187.1 (([(⟨a1_1, a1_2, 0⟩ : S104)] : List (S104)))).bind fun t198 => (if 0 ≤ bt187.1 then (if bt187.1 < (t198.length : Int) then ((some (t198.set (bt187.1 : Int).toNat (⟨(rd_T104 t198 bt187.1).f0, (rd_T104 t198 bt187.1).f1, wrap64 (((rd_T104 t198 bt187.1).f2) + a1_3)⟩ : S104) : List (S104))).bind fun y202 => (if (wrap64 (((rd_T104 t198 bt187.1).f2) + a1_3)) = 0 then ((slices_Delete_impl_Balance.f y202 bt187.1 (wrap64 (bt187.1 + 1))).bind fun t204 => (some t204)) else (some y202))) else (none)) else (none))))) = some r := H
 have A3 := am A30
 clear A30
 replace H := ob H
 obtain ⟨⟨t187, t188⟩, A40, H⟩ := H
 replace H : (if t188 = true then (if 0 ≤ t187 then (if t187 < (t184.length : Int) then ((some (t184.set (t187 : Int).toNat (⟨(rd_T104 t184 t187).f0, (rd_T104 t184 t187).f1, wrap64 (((rd_T104 t184 t187).f2) + a1_3)⟩ : S104) : List (S104))).bind fun y190 => (if (wrap64 (((rd_T104 t184 t187).f2) + a1_3)) = 0 then ((slices_Delete_impl_Balance.f y190 t187 (wrap64 (t187 + 1))).bind fun t192 => (some t192)) else (some y190))) else (none)) else (none)) else ((slices_Insert_impl_Balance.f t184 t187 (([(⟨a1_1, a1_2, 0⟩ : S104)] : List (S104)))).bind fun t198 => (if 0 ≤ t187 then (if t187 < (t198.length : Int) then ((some (t198.set (t187 : Int).toNat (⟨(rd_T104 t198 t187).f0, (rd_T104 t198 t187).f1, wrap64 (((rd_T104 t198 t187).f2) + a1_3)⟩ : S104) : List (S104))).bind fun y202 => (if (wrap64 (((rd_T104 t198 t187).f2) + a1_3)) = 0 then ((slices_Delete_impl_Balance.f y202 t187 (wrap64 (t187 + 1))).bind fun t204 => (some t204)) else (some y202))) else (none)) else (none)))) = some r := H
 have A4 := am A40
 clear A40
 by_cases c5 : t188 = true
 ·subst c5
  have H1 : (if 0 ≤ t187 then (if t187 < (t184.length : Int) then ((some (t184.set (t187 : Int).toNat (⟨(rd_T104 t184 t187).f0, (rd_T104 t184 t187).f1, wrap64 (((rd_T104 t184 t187).f2) + a1_3)⟩ : S104) : List (S104))).bind fun y190 => (if (wrap64 (((rd_T104 t184 t187).f2) + a1_3)) = 0 then ((slices_Delete_impl_Balance.f y190 t187 (wrap64 (t187 + 1))).bind fun t192 => (some t192)) else (some y190))) else (none)) else (none)) = some r := by rw [if_pos rfl] at H; exact H
  clear H
  have H := H1
  clear H1
  by_cases c6 : 0 ≤ t187
  ·rw [if_pos c6] at H
   have c6b0 := decide_eq_true c6
   clear c6
   by_cases c7 : t187 < (t184.length : Int)
   ·rw [if_pos c7] at H
    have c7b0 := decide_eq_true c7
    clear c7
    obtain ⟨y190, hy190⟩ : ∃ y_ : List (S104), y_ = (t184.set (t187 : Int).toNat (⟨(rd_T104 t184 t187).f0, (rd_T104 t184 t187).f1, wrap64 (((rd_T104 t184 t187).f2) + a1_3)⟩ : S104)) := ⟨_, rfl⟩
    replace H : (if (wrap64 (((rd_T104 t184 t187).f2) + a1_3)) = 0 then ((slices_Delete_impl_Balance.f y190 t187 (wrap64 (t187 + 1))).bind fun t192 => (some t192)) else (some y190)) = some r := q_h hy190 H
    have Ny190 := am hy190
    clear hy190
    by_cases c10 : (wrap64 (((rd_T104 t184 t187).f2) + a1_3)) = 0
    ·rw [if_pos c10] at H
     have c10b0 : ((wrap64 (((rd_T104 t184 t187).f2) + a1_3)) == 0) = true := beq_iff_eq.mpr c10
     have c10b1 : ((wrap64 (((rd_T104 t184 t187).f2) + a1_3)) != 0) = false := bne_eq_false_iff_eq.mpr c10
     clear c10
     replace H := ob H
     obtain ⟨t192, A110, H⟩ := H
     replace H : (some t192) = some r := H
     have A11 := am A110
     clear A110
     obtain rfl := Option.some.inj H
     go_enter Try.func102, Try.ntmps102
     try go_wp2_with (first | ((with_reducible refine gate_dst (N := 3) rfl ?_); refine q_box (N := 3) (cs := #[.int .i64 a1_0, .int .i64 a1_1, .int .i64 a1_2, .int .i64 a1_3]) (t := 86) ?_; intro gb183 hg w12 hbox hb; have n0_ := am (below_step bq hb); have n1_ := am (hbox); have n2_ := am ((q_g hg bq : w.heap.size ≤ gb183)); have n3_ := n2_; revert n0_ n1_ n2_ n3_; clear HB; intro HB BK183 GW183 GE183; clear hb hbox hg) | ((with_reducible refine gate_callee (f := 98) rfl ?_); refine goesLq (some 9) rfl rfl Try.func98 (by kernel_rfl) rfl #[.slice A0 l0.length c0] rfl ?_; (with_reducible refine (slices_Clone_impl_Balance.calls _ _ l0 t184 _ ?side1 ?side2 A3.out).mono ?_); (case side1 => exact q_c ((Kd.C_below HR0.out HB.out))); (case side2 => exact HC0.out); rintro e w13 ⟨v185, rfl, ho0, hb⟩; refine ⟨_, rfl, ?_⟩; have n0_ := am (Kd.R_lower ho0 (below_size bq)); have n1_ := am (blk_below (q_b BK183.out) hb); have n2_ := am (below_step bq hb); revert n0_ n1_ n2_; clear BK183 HB; intro HO186 BK183 HB; (try clear hb); (try clear hb2); (try clear hk); (try clear hi); (try clear ho0); obtain ⟨hcz14_0, hcz14_1, hcz14_2, hcz14_3, hfz14_0, hfz14_1, hfz14_2, hfz14_3⟩ := q_4 BK183.out; obtain ⟨Ao15, co15, eo15⟩ := Kd.R_slice HO186.out; subst eo15) | ((with_reducible refine gate_callee (f := 113) rfl ?_); refine goesLq (some 17) rfl rfl Try.func113 (by kernel_rfl) rfl #[.slice Ao15 t184.length co15, .agg #[.int .i64 a1_1, .int .i64 a1_2, .int .i64 0], .func (.func 84) #[] #[]] rfl ?_; (with_reducible refine (slices_BinarySearchFunc_impl_Balance.calls k _ _ t184 a1_1 a1_2 0 t187 true _ ?side1 ?side2 A4.out).mono ?_); (case side1 => exact q_c ((Kd.R_reads' HO186.out).2.2)); (case side2 => exact (Kd.R_reads' HO186.out).2.1); rintro e w16 ⟨rfl, hb⟩; refine ⟨_, rfl, ?_⟩; have n0_ := am (Kd.R_below (q_r (HO186.out)) hb); have n1_ := am (blk_below (q_b BK183.out) hb); have n2_ := am (below_step bq hb); revert n0_ n1_ n2_; clear HO186 BK183 HB; intro HO186 BK183 HB; (try clear hb); (try clear hb2); (try clear hk); (try clear hi)))
     have n0_ := am (Kd.R_drew HO186.out)
     have n1_ := am (blk_drew BK183.out)
     have n2_ := am (below_drew1 HB.out)
     clear HO186
     clear BK183
     clear HB
     have HO186 := n0_
     have BK183 := n1_
     have HB := n2_
     clear n0_ n1_ n2_
     have p189 : 0 ≤ (t187 : Int) := q_d
     have q189 : t187 < (t184.length : Int) := q_d
     obtain ⟨ad189, e189, hx189_0, hx189_1, hx189_2⟩ := at_T104 (Kd.R_reads' HO186.out).2.2 t187 p189 q189
     cases e189
     replace p189 := eq_true p189
     replace q189 := eq_true q189
     have p8 : 0 ≤ (t187 : Int) := q_d
     have q8 : (t187 : Int) < ((t184.length : Int) : Int) := q_d
     obtain ⟨go8, co8, eo8, gb8, gl8, cl8, HG8⟩ := Kd.R_form HO186.out (by omega)
     (first | cases eo8 | (injection eo8 with ea_ en_ ec_; (first | subst ea_ | (injection ea_ with ea_; subst ea_)); subst ec_; clear en_))
     have GB8 := am gb8
     have GG8 := am HG8
     clear gb8 gl8 HG8
     (first | simp only [add_plain] at hx189_0 | skip)
     (first | simp only [add_plain] at hx189_1 | skip)
     (first | simp only [add_plain] at hx189_2 | skip)
     obtain ⟨ce8, hcl8, hM8, hcc8, hfr8⟩ := Kd.R_elem HO186.out z104 (t187 : Int) p8 q8
     obtain rfl := k104_openM hM8
     have hx8_0 : World.cell? _ ⟨go8, (t187 : Int).toNat * 3, none⟩ = some (.int .i64 ((rd_T104 t184 t187).f0)) := hcc8 0 _ rfl
     have hx8_1 : World.cell? _ ⟨go8, (t187 : Int).toNat * 3 + 1, none⟩ = some (.int .i64 ((rd_T104 t184 t187).f1)) := hcc8 1 _ rfl
     have hx8_2 : World.cell? _ ⟨go8, (t187 : Int).toNat * 3 + 2, none⟩ = some (.int .i64 ((rd_T104 t184 t187).f2)) := hcc8 2 _ rfl
     have hf8_0 : World.frozen? _ ⟨go8, (t187 : Int).toNat * 3, none⟩ = false := hfr8 0
     have hf8_1 : World.frozen? _ ⟨go8, (t187 : Int).toNat * 3 + 1, none⟩ = false := hfr8 1
     have hf8_2 : World.frozen? _ ⟨go8, (t187 : Int).toNat * 3 + 2, none⟩ = false := hfr8 2
     clear hcl8 hcc8 hfr8; (try clear hM8)
     replace p8 := eq_true p8
     replace q8 := eq_true q8
     obtain ⟨ce18, hcl18, hM18, hcc18, hfr18⟩ := Kd.R_elem HO186.out z104 (t187 : Int) q_d (by have h_ : (t187 : Int) < ((t184.length : Int) : Int) := q_d; first | exact h_ | (have e_ := (Kd.R_reads' HO186.out).1; omega) | simpa using h_)
     obtain rfl := k104_openM hM18
     have HP18 := (Kd.R_seg HO186.out (t187 : Int) q_d (by have h_ : (t187 : Int) < ((t184.length : Int) : Int) := q_d; first | exact h_ | (have e_ := (Kd.R_reads' HO186.out).1; omega) | simpa using h_) (seg := [.int .i64 (wrap64 (((rd_T104 t184 t187).f2) + a1_3))]) (j := 2) hcl18 hcc18 (show 3 ≤ 3 from by decide) (x' := (⟨(rd_T104 t184 t187).f0, (rd_T104 t184 t187).f1, wrap64 (((rd_T104 t184 t187).f2) + a1_3)⟩ : S104)) (k104_mkM _ _ _ (⟨(rd_T104 t184 t187).f0, (rd_T104 t184 t187).f1, wrap64 (((rd_T104 t184 t187).f2) + a1_3)⟩ : S104) ) (fun _ hk => hk)).1
     rw [← Ny190.out] at HP18
     have HQ18 := am HP18
     clear hcl18 hcc18 hfr18 HP18; (try clear hM18)
     refine start_ (n := 11) (S := fun w' => w'.cell? ⟨gb183, 0, none⟩ = some (.int .i64 a1_0) ∧ w'.cell? ⟨gb183, 1, none⟩ = some (.int .i64 a1_1) ∧ w'.cell? ⟨gb183, 2, none⟩ = some (.int .i64 a1_2) ∧ w'.cell? ⟨gb183, 3, none⟩ = some (.int .i64 a1_3) ∧ w'.cell? ⟨go8, ((t187).toNat * 3), none⟩ = some (.int .i64 ((rd_T104 t184 t187).f0)) ∧ w'.cell? ⟨go8, ((t187).toNat * 3) + 1, none⟩ = some (.int .i64 ((rd_T104 t184 t187).f1)) ∧ w'.cell? ⟨go8, ((t187).toNat * 3) + 2, none⟩ = some (.int .i64 ((rd_T104 t184 t187).f2))) (ds := [10]) #[false, false, false, false, false, false, false, false, false, false, false] (by kernel_rfl) rfl rfl ⟨q_z BK183.out 0, q_z BK183.out 1, q_z BK183.out 2, q_z BK183.out 3, hx189_0, hx189_1, hx189_2⟩ (fun hHeld => ?_); refine with_tabW impl_added.tab5 impl_added.bits5 (fun HT_ HW_ => ?_)
     generalize w16.drew = w17 at HO186 BK183 HB GG8 HQ18 hf8_0 hf8_1 hf8_2 hx189_0 hx189_1 hx189_2 hx8_0 hx8_1 hx8_2 hHeld ⊢
     refine q_p 0 (some 31) #[true, false, false, false, false, false, false, false, false, false, false] HT_.out ?_
     refine q_p 1 (some 32) #[true, true, false, false, false, false, false, false, false, false, false] HT_.out ?_
     refine q_p 2 (some 33) #[true, true, true, false, false, false, false, false, false, false, false] HT_.out ?_
     refine q_p 3 (some 34) #[true, true, true, true, false, false, false, false, false, false, false] HT_.out ?_
     refine q_p 5 (some 36) #[true, true, true, true, false, true, false, false, false, false, false] HT_.out ?_
     refine q_t 4 (some 35) #[true, true, true, true, true, true, false, false, false, false, false] HT_.out HW_.out hHeld ?_
     refine q_t 6 (some 37) #[true, true, true, true, true, true, true, false, false, false, false] HT_.out HW_.out hHeld ?_
     refine q_p 7 (some 38) #[true, true, true, true, true, true, true, true, false, false, false] HT_.out ?_
     refine q_p 8 (some 39) #[true, true, true, true, true, true, true, true, true, false, false] HT_.out ?_
     refine q_p 9 (some 40) #[true, true, true, true, true, true, true, true, true, true, false] HT_.out ?_
     refine last_ (i := 10) (N := none) #[true, true, true, true, true, true, true, true, true, true, true] rfl rfl (one_of HT_.out (by kernel_rfl)) (by decide) (fun K hK => ?_)
     refine skip_ (w1 := ?_) (by rfl) rfl ?_ ?_
     rotate_left
     ·go_simp
      rfl
     refine hK.out _ _ ?_
     clear hK K
     refine done_ (done_of HT_.out (by kernel_rfl)) ?_
     have n0_ : Aside0 (Kd.R k104 104 (w17.setCell ⟨go8, (t187 : Int).toNat * 3 + 2, none⟩ (.int .i64 (wrap64 (((rd_T104 t184 t187).f2) + a1_3)))) w.heap.size (fun _ => True) (.slice (some ⟨go8, 0, none⟩) t184.length co15) y190) := ⟨q_r (HQ18.out)⟩
     have n1_ : Aside0 ((w17.setCell ⟨go8, (t187 : Int).toNat * 3 + 2, none⟩ (.int .i64 (wrap64 (((rd_T104 t184 t187).f2) + a1_3)))).heap[gb183]? = some (.cells #[.int .i64 a1_0, .int .i64 a1_1, .int .i64 a1_2, .int .i64 a1_3] 86 (0, 0))) := ⟨by (with_reducible repeat (first | refine blk_drewN ?_ _ | refine blk_drew ?_ | refine blk_alloc ?_ _)); refine blk_far ?_ (by have h_ := Kd.R_ne HO186.out BK183.out (by decide); intro e_; exact h_ (by rw [e_]; rfl)) _; (with_reducible repeat (first | refine blk_drewN ?_ _ | refine blk_drew ?_ | refine blk_alloc ?_ _)); exact BK183.out⟩
     have n2_ : Aside0 (Below w.heap.size w (w17.setCell ⟨go8, (t187 : Int).toNat * 3 + 2, none⟩ (.int .i64 (wrap64 (((rd_T104 t184 t187).f2) + a1_3))))) := ⟨bq⟩
     (try clear HO186)
     (try clear BK183)
     (try clear HB)
     have hst_ : (w17.setCell ⟨go8, (t187 : Int).toNat * 3 + 2, none⟩ (.int .i64 (wrap64 (((rd_T104 t184 t187).f2) + a1_3)))).cell? ⟨go8, (t187 : Int).toNat * 3 + 2, none⟩ = some (.int .i64 (wrap64 (((rd_T104 t184 t187).f2) + a1_3))) := World.cell?_setCell_same _ _ _ (by assumption)
     generalize (w17.setCell ⟨go8, (t187 : Int).toNat * 3 + 2, none⟩ (.int .i64 (wrap64 (((rd_T104 t184 t187).f2) + a1_3)))) = w19 at n0_ n1_ n2_ hst_ ⊢
     have HO186 := n0_
     have BK183 := n1_
     have HB := n2_
     clear n0_ n1_ n2_
     have p9 : 0 ≤ (t187 : Int) := q_d
     have q9 : (t187 : Int) < ((t184.length : Int) : Int) := q_d
     replace p9 := eq_true p9
     replace q9 := eq_true q9
     try go_wp2_with (first | ((with_reducible refine gate_callee (f := 122) rfl ?_); refine goesLq (some 51) rfl rfl Try.func122 (by kernel_rfl) rfl #[.slice (some ⟨go8, 0, none⟩) t184.length co15, .int .i64 t187, .int .i64 (wrap64 (t187 + 1))] rfl ?_; (with_reducible refine (slices_Delete_impl_Balance.calls (fun k_ => some k_ = (.slice (some ⟨go8, 0, none⟩) t184.length co15 : Value).ownBlock) (.slice (some ⟨go8, 0, none⟩) t184.length co15) y190 t187 (wrap64 (t187 + 1)) t192 w _ ?side1 ?side2 A11.out).mono ?_); (case side1 => repeat (first | (with_reducible first | exact HB.out | apply below_alloc | apply pw_below_drewN | apply below_drew1 | refine below_set ?_ GE183.out) | exact HB.out)); (case side2 => exact Kd.R_tight rfl HO186.out); rintro e w20 ⟨v193, rfl, ho0, hb, hkp⟩; refine ⟨_, rfl, ?_⟩; have n0_ := am (blk_kept kq hkp (fun hs_ => (fun e_ => (Kd.R_ne HO186.out BK183.out (by decide)) e_) hs_)); have n1_ := am (Kd.R_mono (ok' := fun k_ => True) ho0 (fun k_ hk_ => trivial)); have n2_ := am (hb); revert n0_ n1_ n2_; clear BK183 HB HO186; intro BK183 HO194 HB; (try clear hb); (try clear hkp); (try clear ho0)))
     go_ret
     exact ⟨_, q_e, q_r (HO194.out), bq⟩
    ·rw [if_neg c10] at H
     have c10b0 : ((wrap64 (((rd_T104 t184 t187).f2) + a1_3)) == 0) = false := beq_eq_false_iff_ne.mpr c10
     have c10b1 : ((wrap64 (((rd_T104 t184 t187).f2) + a1_3)) != 0) = true := bne_iff_ne.mpr c10
     obtain rfl := Option.some.inj H
     go_enter Try.func102, Try.ntmps102
     try go_wp2_with (first | ((with_reducible refine gate_dst (N := 3) rfl ?_); refine q_box (N := 3) (cs := #[.int .i64 a1_0, .int .i64 a1_1, .int .i64 a1_2, .int .i64 a1_3]) (t := 86) ?_; intro gb183 hg w21 hbox hb; have n0_ := am (below_step bq hb); have n1_ := am (hbox); have n2_ := am ((q_g hg bq : w.heap.size ≤ gb183)); have n3_ := n2_; revert n0_ n1_ n2_ n3_; clear HB; intro HB BK183 GW183 GE183; clear hb hbox hg) | ((with_reducible refine gate_callee (f := 98) rfl ?_); refine goesLq (some 9) rfl rfl Try.func98 (by kernel_rfl) rfl #[.slice A0 l0.length c0] rfl ?_; (with_reducible refine (slices_Clone_impl_Balance.calls _ _ l0 t184 _ ?side1 ?side2 A3.out).mono ?_); (case side1 => exact q_c ((Kd.C_below HR0.out HB.out))); (case side2 => exact HC0.out); rintro e w22 ⟨v185, rfl, ho0, hb⟩; refine ⟨_, rfl, ?_⟩; have n0_ := am (Kd.R_lower ho0 (below_size bq)); have n1_ := am (blk_below (q_b BK183.out) hb); have n2_ := am (below_step bq hb); revert n0_ n1_ n2_; clear BK183 HB; intro HO186 BK183 HB; (try clear hb); (try clear hb2); (try clear hk); (try clear hi); (try clear ho0); obtain ⟨hcz23_0, hcz23_1, hcz23_2, hcz23_3, hfz23_0, hfz23_1, hfz23_2, hfz23_3⟩ := q_4 BK183.out; obtain ⟨Ao24, co24, eo24⟩ := Kd.R_slice HO186.out; subst eo24) | ((with_reducible refine gate_callee (f := 113) rfl ?_); refine goesLq (some 17) rfl rfl Try.func113 (by kernel_rfl) rfl #[.slice Ao24 t184.length co24, .agg #[.int .i64 a1_1, .int .i64 a1_2, .int .i64 0], .func (.func 84) #[] #[]] rfl ?_; (with_reducible refine (slices_BinarySearchFunc_impl_Balance.calls k _ _ t184 a1_1 a1_2 0 t187 true _ ?side1 ?side2 A4.out).mono ?_); (case side1 => exact q_c ((Kd.R_reads' HO186.out).2.2)); (case side2 => exact (Kd.R_reads' HO186.out).2.1); rintro e w25 ⟨rfl, hb⟩; refine ⟨_, rfl, ?_⟩; have n0_ := am (Kd.R_below (q_r (HO186.out)) hb); have n1_ := am (blk_below (q_b BK183.out) hb); have n2_ := am (below_step bq hb); revert n0_ n1_ n2_; clear HO186 BK183 HB; intro HO186 BK183 HB; (try clear hb); (try clear hb2); (try clear hk); (try clear hi)))
     have n0_ := am (Kd.R_drew HO186.out)
     have n1_ := am (blk_drew BK183.out)
     have n2_ := am (below_drew1 HB.out)
     clear HO186
     clear BK183
     clear HB
     have HO186 := n0_
     have BK183 := n1_
     have HB := n2_
     clear n0_ n1_ n2_
     have p189 : 0 ≤ (t187 : Int) := q_d
     have q189 : t187 < (t184.length : Int) := q_d
     obtain ⟨ad189, e189, hx189_0, hx189_1, hx189_2⟩ := at_T104 (Kd.R_reads' HO186.out).2.2 t187 p189 q189
     cases e189
     replace p189 := eq_true p189
     replace q189 := eq_true q189
     have p8 : 0 ≤ (t187 : Int) := q_d
     have q8 : (t187 : Int) < ((t184.length : Int) : Int) := q_d
     obtain ⟨go8, co8, eo8, gb8, gl8, cl8, HG8⟩ := Kd.R_form HO186.out (by omega)
     (first | cases eo8 | (injection eo8 with ea_ en_ ec_; (first | subst ea_ | (injection ea_ with ea_; subst ea_)); subst ec_; clear en_))
     have GB8 := am gb8
     have GG8 := am HG8
     clear gb8 gl8 HG8
     (first | simp only [add_plain] at hx189_0 | skip)
     (first | simp only [add_plain] at hx189_1 | skip)
     (first | simp only [add_plain] at hx189_2 | skip)
     obtain ⟨ce8, hcl8, hM8, hcc8, hfr8⟩ := Kd.R_elem HO186.out z104 (t187 : Int) p8 q8
     obtain rfl := k104_openM hM8
     have hx8_0 : World.cell? _ ⟨go8, (t187 : Int).toNat * 3, none⟩ = some (.int .i64 ((rd_T104 t184 t187).f0)) := hcc8 0 _ rfl
     have hx8_1 : World.cell? _ ⟨go8, (t187 : Int).toNat * 3 + 1, none⟩ = some (.int .i64 ((rd_T104 t184 t187).f1)) := hcc8 1 _ rfl
     have hx8_2 : World.cell? _ ⟨go8, (t187 : Int).toNat * 3 + 2, none⟩ = some (.int .i64 ((rd_T104 t184 t187).f2)) := hcc8 2 _ rfl
     have hf8_0 : World.frozen? _ ⟨go8, (t187 : Int).toNat * 3, none⟩ = false := hfr8 0
     have hf8_1 : World.frozen? _ ⟨go8, (t187 : Int).toNat * 3 + 1, none⟩ = false := hfr8 1
     have hf8_2 : World.frozen? _ ⟨go8, (t187 : Int).toNat * 3 + 2, none⟩ = false := hfr8 2
     clear hcl8 hcc8 hfr8; (try clear hM8)
     replace p8 := eq_true p8
     replace q8 := eq_true q8
     obtain ⟨ce27, hcl27, hM27, hcc27, hfr27⟩ := Kd.R_elem HO186.out z104 (t187 : Int) q_d (by have h_ : (t187 : Int) < ((t184.length : Int) : Int) := q_d; first | exact h_ | (have e_ := (Kd.R_reads' HO186.out).1; omega) | simpa using h_)
     obtain rfl := k104_openM hM27
     have HP27 := (Kd.R_seg HO186.out (t187 : Int) q_d (by have h_ : (t187 : Int) < ((t184.length : Int) : Int) := q_d; first | exact h_ | (have e_ := (Kd.R_reads' HO186.out).1; omega) | simpa using h_) (seg := [.int .i64 (wrap64 (((rd_T104 t184 t187).f2) + a1_3))]) (j := 2) hcl27 hcc27 (show 3 ≤ 3 from by decide) (x' := (⟨(rd_T104 t184 t187).f0, (rd_T104 t184 t187).f1, wrap64 (((rd_T104 t184 t187).f2) + a1_3)⟩ : S104)) (k104_mkM _ _ _ (⟨(rd_T104 t184 t187).f0, (rd_T104 t184 t187).f1, wrap64 (((rd_T104 t184 t187).f2) + a1_3)⟩ : S104) ) (fun _ hk => hk)).1
     rw [← Ny190.out] at HP27
     have HQ27 := am HP27
     clear hcl27 hcc27 hfr27 HP27; (try clear hM27)
     refine start_ (n := 11) (S := fun w' => w'.cell? ⟨gb183, 0, none⟩ = some (.int .i64 a1_0) ∧ w'.cell? ⟨gb183, 1, none⟩ = some (.int .i64 a1_1) ∧ w'.cell? ⟨gb183, 2, none⟩ = some (.int .i64 a1_2) ∧ w'.cell? ⟨gb183, 3, none⟩ = some (.int .i64 a1_3) ∧ w'.cell? ⟨go8, ((t187).toNat * 3), none⟩ = some (.int .i64 ((rd_T104 t184 t187).f0)) ∧ w'.cell? ⟨go8, ((t187).toNat * 3) + 1, none⟩ = some (.int .i64 ((rd_T104 t184 t187).f1)) ∧ w'.cell? ⟨go8, ((t187).toNat * 3) + 2, none⟩ = some (.int .i64 ((rd_T104 t184 t187).f2))) (ds := [10]) #[false, false, false, false, false, false, false, false, false, false, false] (by kernel_rfl) rfl rfl ⟨q_z BK183.out 0, q_z BK183.out 1, q_z BK183.out 2, q_z BK183.out 3, hx189_0, hx189_1, hx189_2⟩ (fun hHeld => ?_); refine with_tabW impl_added.tab5 impl_added.bits5 (fun HT_ HW_ => ?_)
     generalize w25.drew = w26 at HO186 BK183 HB GG8 HQ27 hf8_0 hf8_1 hf8_2 hx189_0 hx189_1 hx189_2 hx8_0 hx8_1 hx8_2 hHeld ⊢
     refine q_p 0 (some 31) #[true, false, false, false, false, false, false, false, false, false, false] HT_.out ?_
     refine q_p 1 (some 32) #[true, true, false, false, false, false, false, false, false, false, false] HT_.out ?_
     refine q_p 2 (some 33) #[true, true, true, false, false, false, false, false, false, false, false] HT_.out ?_
     refine q_p 3 (some 34) #[true, true, true, true, false, false, false, false, false, false, false] HT_.out ?_
     refine q_p 5 (some 36) #[true, true, true, true, false, true, false, false, false, false, false] HT_.out ?_
     refine q_t 4 (some 35) #[true, true, true, true, true, true, false, false, false, false, false] HT_.out HW_.out hHeld ?_
     refine q_t 6 (some 37) #[true, true, true, true, true, true, true, false, false, false, false] HT_.out HW_.out hHeld ?_
     refine q_p 7 (some 38) #[true, true, true, true, true, true, true, true, false, false, false] HT_.out ?_
     refine q_p 8 (some 39) #[true, true, true, true, true, true, true, true, true, false, false] HT_.out ?_
     refine q_p 9 (some 40) #[true, true, true, true, true, true, true, true, true, true, false] HT_.out ?_
     refine last_ (i := 10) (N := none) #[true, true, true, true, true, true, true, true, true, true, true] rfl rfl (one_of HT_.out (by kernel_rfl)) (by decide) (fun K hK => ?_)
     refine skip_ (w1 := ?_) (by rfl) rfl ?_ ?_
     rotate_left
     ·go_simp
      rfl
     refine hK.out _ _ ?_
     clear hK K
     refine done_ (done_of HT_.out (by kernel_rfl)) ?_
     have p9 : 0 ≤ (t187 : Int) := q_d
     have q9 : (t187 : Int) < ((t184.length : Int) : Int) := q_d
     replace p9 := eq_true p9
     replace q9 := eq_true q9
     try go_wp2
     go_ret
     exact ⟨_, q_e, q_r (HQ27.out), bq⟩
   ·rw [if_neg c7] at H
    exact absurd H (by simp)
  ·rw [if_neg c6] at H
   exact absurd H (by simp)
 ·replace c5 := Bool.eq_false_iff.mpr c5
  subst c5
  have H1 : ((slices_Insert_impl_Balance.f t184 t187 (([(⟨a1_1, a1_2, 0⟩ : S104)] : List (S104)))).bind fun t198 => (if 0 ≤ t187 then (if t187 < (t198.length : Int) then ((some (t198.set (t187 : Int).toNat (⟨(rd_T104 t198 t187).f0, (rd_T104 t198 t187).f1, wrap64 (((rd_T104 t198 t187).f2) + a1_3)⟩ : S104) : List (S104))).bind fun y202 => (if (wrap64 (((rd_T104 t198 t187).f2) + a1_3)) = 0 then ((slices_Delete_impl_Balance.f y202 t187 (wrap64 (t187 + 1))).bind fun t204 => (some t204)) else (some y202))) else (none)) else (none))) = some r := by rw [if_neg (show ¬ (false = true) by decide)] at H; exact H
  clear H
  have H := H1
  clear H1
  obtain ⟨y195, hy195⟩ : ∃ y_ : List (S104), y_ = (([(⟨a1_1, a1_2, 0⟩ : S104)] : List (S104))) := ⟨_, rfl⟩
  replace H : ((slices_Insert_impl_Balance.f t184 t187 y195).bind fun t198 => (if 0 ≤ t187 then (if t187 < (t198.length : Int) then ((some (t198.set (t187 : Int).toNat (⟨(rd_T104 t198 t187).f0, (rd_T104 t198 t187).f1, wrap64 (((rd_T104 t198 t187).f2) + a1_3)⟩ : S104) : List (S104))).bind fun y202 => (if (wrap64 (((rd_T104 t198 t187).f2) + a1_3)) = 0 then ((slices_Delete_impl_Balance.f y202 t187 (wrap64 (t187 + 1))).bind fun t204 => (some t204)) else (some y202))) else (none)) else (none))) = some r := q_h hy195 H
  have Ny195 := am hy195
  clear hy195
  replace H := ob H
  obtain ⟨t198, A280, H⟩ := H
  replace H : (if 0 ≤ t187 then (if t187 < (t198.length : Int) then ((some (t198.set (t187 : Int).toNat (⟨(rd_T104 t198 t187).f0, (rd_T104 t198 t187).f1, wrap64 (((rd_T104 t198 t187).f2) + a1_3)⟩ : S104) : List (S104))).bind fun y202 => (if (wrap64 (((rd_T104 t198 t187).f2) + a1_3)) = 0 then ((slices_Delete_impl_Balance.f y202 t187 (wrap64 (t187 + 1))).bind fun t204 => (some t204)) else (some y202))) else (none)) else (none)) = some r := H
  have A28 := am A280
  clear A280
  by_cases c29 : 0 ≤ t187
  ·rw [if_pos c29] at H
   have c29b0 := decide_eq_true c29
   clear c29
   by_cases c30 : t187 < (t198.length : Int)
   ·rw [if_pos c30] at H
    have c30b0 := decide_eq_true c30
    clear c30
    obtain ⟨y202, hy202⟩ : ∃ y_ : List (S104), y_ = (t198.set (t187 : Int).toNat (⟨(rd_T104 t198 t187).f0, (rd_T104 t198 t187).f1, wrap64 (((rd_T104 t198 t187).f2) + a1_3)⟩ : S104)) := ⟨_, rfl⟩
    replace H : (if (wrap64 (((rd_T104 t198 t187).f2) + a1_3)) = 0 then ((slices_Delete_impl_Balance.f y202 t187 (wrap64 (t187 + 1))).bind fun t204 => (some t204)) else (some y202)) = some r := q_h hy202 H
    have Ny202 := am hy202
    clear hy202
    by_cases c33 : (wrap64 (((rd_T104 t198 t187).f2) + a1_3)) = 0
    ·rw [if_pos c33] at H
     have c33b0 : ((wrap64 (((rd_T104 t198 t187).f2) + a1_3)) == 0) = true := beq_iff_eq.mpr c33
     have c33b1 : ((wrap64 (((rd_T104 t198 t187).f2) + a1_3)) != 0) = false := bne_eq_false_iff_eq.mpr c33
     clear c33
     replace H := ob H
     obtain ⟨t204, A340, H⟩ := H
     replace H : (some t204) = some r := H
     have A34 := am A340
     clear A340
     obtain rfl := Option.some.inj H
     go_enter Try.func102, Try.ntmps102
     try go_wp2_with (first | ((with_reducible refine gate_dst (N := 3) rfl ?_); refine q_box (N := 3) (cs := #[.int .i64 a1_0, .int .i64 a1_1, .int .i64 a1_2, .int .i64 a1_3]) (t := 86) ?_; intro gb183 hg w35 hbox hb; have n0_ := am (below_step bq hb); have n1_ := am (hbox); have n2_ := am ((q_g hg bq : w.heap.size ≤ gb183)); have n3_ := n2_; revert n0_ n1_ n2_ n3_; clear HB; intro HB BK183 GW183 GE183; clear hb hbox hg) | ((with_reducible refine gate_callee (f := 98) rfl ?_); refine goesLq (some 9) rfl rfl Try.func98 (by kernel_rfl) rfl #[.slice A0 l0.length c0] rfl ?_; (with_reducible refine (slices_Clone_impl_Balance.calls _ _ l0 t184 _ ?side1 ?side2 A3.out).mono ?_); (case side1 => exact q_c ((Kd.C_below HR0.out HB.out))); (case side2 => exact HC0.out); rintro e w36 ⟨v185, rfl, ho0, hb⟩; refine ⟨_, rfl, ?_⟩; have n0_ := am (Kd.R_lower ho0 (below_size bq)); have n1_ := am (blk_below (q_b BK183.out) hb); have n2_ := am (below_step bq hb); revert n0_ n1_ n2_; clear BK183 HB; intro HO186 BK183 HB; (try clear hb); (try clear hb2); (try clear hk); (try clear hi); (try clear ho0); obtain ⟨hcz37_0, hcz37_1, hcz37_2, hcz37_3, hfz37_0, hfz37_1, hfz37_2, hfz37_3⟩ := q_4 BK183.out; obtain ⟨Ao38, co38, eo38⟩ := Kd.R_slice HO186.out; subst eo38) | ((with_reducible refine gate_callee (f := 113) rfl ?_); refine goesLq (some 17) rfl rfl Try.func113 (by kernel_rfl) rfl #[.slice Ao38 t184.length co38, .agg #[.int .i64 a1_1, .int .i64 a1_2, .int .i64 0], .func (.func 84) #[] #[]] rfl ?_; (with_reducible refine (slices_BinarySearchFunc_impl_Balance.calls k _ _ t184 a1_1 a1_2 0 t187 false _ ?side1 ?side2 A4.out).mono ?_); (case side1 => exact q_c ((Kd.R_reads' HO186.out).2.2)); (case side2 => exact (Kd.R_reads' HO186.out).2.1); rintro e w39 ⟨rfl, hb⟩; refine ⟨_, rfl, ?_⟩; have n0_ := am (Kd.R_below (q_r (HO186.out)) hb); have n1_ := am (blk_below (q_b BK183.out) hb); have n2_ := am (below_step bq hb); revert n0_ n1_ n2_; clear HO186 BK183 HB; intro HO186 BK183 HB; (try clear hb); (try clear hb2); (try clear hk); (try clear hi); obtain ⟨hcz40_0, hcz40_1, hcz40_2, hcz40_3, hfz40_0, hfz40_1, hfz40_2, hfz40_3⟩ := q_4 BK183.out) | ((with_reducible refine gate_dst (N := 29) rfl ?_); refine Kd.R_lit k104 _ 104 ?hg (N := 29) ?hd (xs := ([(⟨a1_1, a1_2, 0⟩ : S104)] : List (S104))) (inner := [.int .i64 a1_1, .int .i64 a1_2, .int .i64 0]) (ok := fun _ => True) (okp := fun _ => True) ?hr ?hp (fun _ hk => hk) trivial (Below.refl _ _) (Nat.le_refl _) (by simp) ?_; (case hd => rfl); (case hg => rfl); (case hr => first | (go_simp; done) | (go_simp; rfl)); (case hp => exact (Reps.c3 (show Kd.M k104 _ _ _ (⟨a1_1, a1_2, 0⟩ : S104) [.int .i64 a1_1, .int .i64 a1_2, .int .i64 0] from (k104_mkM _ _ _ (⟨a1_1, a1_2, 0⟩ : S104) )) (Reps.none _ _))); intro v196 w41 ho42 hb hg_ hnew_; clear hg_ hnew_; (first | rw [← Ny195.out] at ho42 | (simp only [Int.reduceToNat] at ho42; rw [← Ny195.out] at ho42)); have n0_ := am (Kd.R_elder' (q_r (HO186.out)) (Kd.R_base ho42) hb); have n1_ := am (Kd.R_lower (Kd.R_new' ho42 (Kd.R_lt (q_r (HO186.out)))) (below_size bq)); have n2_ := am (blk_below (q_b BK183.out) hb); have n3_ := am (below_step bq hb); revert n0_ n1_ n2_ n3_; clear HO186 BK183 HB; intro HO186 HO197 BK183 HB; clear hb ho42; obtain ⟨Ao43, co43, eo43⟩ := Kd.R_slice HO197.out; subst eo43) | ((with_reducible refine gate_callee (f := 121) rfl ?_); refine goesLq (some 30) rfl rfl Try.func121 (by kernel_rfl) rfl #[.slice Ao38 t184.length co38, .int .i64 t187, .slice Ao43 y195.length co43] rfl ?_; (with_reducible refine (slices_Insert_impl_Balance.calls (fun k_ => some k_ = (.slice Ao38 t184.length co38 : Value).ownBlock) (.slice Ao38 t184.length co38) t184 t187 (fun k_ => some k_ = (.slice Ao43 y195.length co43 : Value).ownBlock) (.slice Ao43 y195.length co43) y195 t198 w _ ?side1 ?side2 ?side3 ?side4 ?side5 A28.out).mono ?_); (case side1 => repeat (first | (with_reducible first | exact HB.out | apply below_alloc | apply pw_below_drewN | apply below_drew1 | refine below_set ?_ GE183.out) | exact HB.out)); (case side2 => exact Kd.R_tight rfl HO186.out); (case side3 => exact fun k_ e_ => (HO186.out.1 k_ e_.symm).2); (case side4 => exact Kd.R_tight rfl HO197.out); (case side5 => exact fun k_ e_ => (HO197.out.1 k_ e_.symm).2); rintro e w44 ⟨v199, rfl, ho0, hb, hkp⟩; refine ⟨_, rfl, ?_⟩; have n0_ := am (blk_kept kq hkp (fun hs_ => Or.elim hs_ (fun e_ => (fun e_ => (Kd.R_ne HO186.out BK183.out (by decide)) e_) e_) (fun e_ => (fun e_ => (Kd.R_ne HO197.out BK183.out (by decide)) e_) e_))); have n1_ := am (Kd.R_mono (ok' := fun k_ => True) ho0 (fun k_ hk_ => trivial)); have n2_ := am (hb); revert n0_ n1_ n2_; clear BK183 HB HO186 HO197; intro BK183 HO200 HB; (try clear hb); (try clear hkp); (try clear ho0)))
     have n0_ := am (Kd.R_drew HO200.out)
     have n1_ := am (blk_drew BK183.out)
     have n2_ := am (below_drew1 HB.out)
     clear HO200
     clear BK183
     clear HB
     have HO200 := n0_
     have BK183 := n1_
     have HB := n2_
     clear n0_ n1_ n2_
     obtain ⟨Ao46, co46, eo46⟩ := Kd.R_slice HO200.out
     (first | subst eo46 | (injection eo46 with f1_ f2_ f3_; have f4_ := f1_.symm; have f5_ := f3_.symm; clear f1_ f2_ f3_; subst f4_; subst f5_))
     have p201 : 0 ≤ (t187 : Int) := q_d
     have q201 : t187 < (t198.length : Int) := q_d
     obtain ⟨ad201, e201, hx201_0, hx201_1, hx201_2⟩ := at_T104 (Kd.R_reads' HO200.out).2.2 t187 p201 q201
     cases e201
     replace p201 := eq_true p201
     replace q201 := eq_true q201
     have p31 : 0 ≤ (t187 : Int) := q_d
     have q31 : (t187 : Int) < ((t198.length : Int) : Int) := q_d
     obtain ⟨go31, co31, eo31, gb31, gl31, cl31, HG31⟩ := Kd.R_form HO200.out (by omega)
     (first | cases eo31 | (injection eo31 with ea_ en_ ec_; (first | subst ea_ | (injection ea_ with ea_; subst ea_)); subst ec_; clear en_))
     have GB31 := am gb31
     have GG31 := am HG31
     clear gb31 gl31 HG31
     (first | simp only [add_plain] at hx201_0 | skip)
     (first | simp only [add_plain] at hx201_1 | skip)
     (first | simp only [add_plain] at hx201_2 | skip)
     obtain ⟨ce31, hcl31, hM31, hcc31, hfr31⟩ := Kd.R_elem HO200.out z104 (t187 : Int) p31 q31
     obtain rfl := k104_openM hM31
     have hx31_0 : World.cell? _ ⟨go31, (t187 : Int).toNat * 3, none⟩ = some (.int .i64 ((rd_T104 t198 t187).f0)) := hcc31 0 _ rfl
     have hx31_1 : World.cell? _ ⟨go31, (t187 : Int).toNat * 3 + 1, none⟩ = some (.int .i64 ((rd_T104 t198 t187).f1)) := hcc31 1 _ rfl
     have hx31_2 : World.cell? _ ⟨go31, (t187 : Int).toNat * 3 + 2, none⟩ = some (.int .i64 ((rd_T104 t198 t187).f2)) := hcc31 2 _ rfl
     have hf31_0 : World.frozen? _ ⟨go31, (t187 : Int).toNat * 3, none⟩ = false := hfr31 0
     have hf31_1 : World.frozen? _ ⟨go31, (t187 : Int).toNat * 3 + 1, none⟩ = false := hfr31 1
     have hf31_2 : World.frozen? _ ⟨go31, (t187 : Int).toNat * 3 + 2, none⟩ = false := hfr31 2
     clear hcl31 hcc31 hfr31; (try clear hM31)
     replace p31 := eq_true p31
     replace q31 := eq_true q31
     obtain ⟨ce47, hcl47, hM47, hcc47, hfr47⟩ := Kd.R_elem HO200.out z104 (t187 : Int) q_d (by have h_ : (t187 : Int) < ((t198.length : Int) : Int) := q_d; first | exact h_ | (have e_ := (Kd.R_reads' HO200.out).1; omega) | simpa using h_)
     obtain rfl := k104_openM hM47
     have HP47 := (Kd.R_seg HO200.out (t187 : Int) q_d (by have h_ : (t187 : Int) < ((t198.length : Int) : Int) := q_d; first | exact h_ | (have e_ := (Kd.R_reads' HO200.out).1; omega) | simpa using h_) (seg := [.int .i64 (wrap64 (((rd_T104 t198 t187).f2) + a1_3))]) (j := 2) hcl47 hcc47 (show 3 ≤ 3 from by decide) (x' := (⟨(rd_T104 t198 t187).f0, (rd_T104 t198 t187).f1, wrap64 (((rd_T104 t198 t187).f2) + a1_3)⟩ : S104)) (k104_mkM _ _ _ (⟨(rd_T104 t198 t187).f0, (rd_T104 t198 t187).f1, wrap64 (((rd_T104 t198 t187).f2) + a1_3)⟩ : S104) ) (fun _ hk => hk)).1
     rw [← Ny202.out] at HP47
     have HQ47 := am HP47
     clear hcl47 hcc47 hfr47 HP47; (try clear hM47)
     refine start_ (n := 11) (S := fun w' => w'.cell? ⟨gb183, 0, none⟩ = some (.int .i64 a1_0) ∧ w'.cell? ⟨gb183, 1, none⟩ = some (.int .i64 a1_1) ∧ w'.cell? ⟨gb183, 2, none⟩ = some (.int .i64 a1_2) ∧ w'.cell? ⟨gb183, 3, none⟩ = some (.int .i64 a1_3) ∧ w'.cell? ⟨go31, ((t187).toNat * 3), none⟩ = some (.int .i64 ((rd_T104 t198 t187).f0)) ∧ w'.cell? ⟨go31, ((t187).toNat * 3) + 1, none⟩ = some (.int .i64 ((rd_T104 t198 t187).f1)) ∧ w'.cell? ⟨go31, ((t187).toNat * 3) + 2, none⟩ = some (.int .i64 ((rd_T104 t198 t187).f2))) (ds := [10]) #[false, false, false, false, false, false, false, false, false, false, false] (by kernel_rfl) rfl rfl ⟨q_z BK183.out 0, q_z BK183.out 1, q_z BK183.out 2, q_z BK183.out 3, hx201_0, hx201_1, hx201_2⟩ (fun hHeld => ?_); refine with_tabW impl_added.tab5 impl_added.bits5 (fun HT_ HW_ => ?_)
     generalize w44.drew = w45 at HO200 BK183 HB GG31 HQ47 hf31_0 hf31_1 hf31_2 hx201_0 hx201_1 hx201_2 hx31_0 hx31_1 hx31_2 hHeld ⊢
     refine q_p 0 (some 31) #[true, false, false, false, false, false, false, false, false, false, false] HT_.out ?_
     refine q_p 1 (some 32) #[true, true, false, false, false, false, false, false, false, false, false] HT_.out ?_
     refine q_p 2 (some 33) #[true, true, true, false, false, false, false, false, false, false, false] HT_.out ?_
     refine q_p 3 (some 34) #[true, true, true, true, false, false, false, false, false, false, false] HT_.out ?_
     refine q_p 5 (some 36) #[true, true, true, true, false, true, false, false, false, false, false] HT_.out ?_
     refine q_t 4 (some 35) #[true, true, true, true, true, true, false, false, false, false, false] HT_.out HW_.out hHeld ?_
     refine q_t 6 (some 37) #[true, true, true, true, true, true, true, false, false, false, false] HT_.out HW_.out hHeld ?_
     refine q_p 7 (some 38) #[true, true, true, true, true, true, true, true, false, false, false] HT_.out ?_
     refine q_p 8 (some 39) #[true, true, true, true, true, true, true, true, true, false, false] HT_.out ?_
     refine q_p 9 (some 40) #[true, true, true, true, true, true, true, true, true, true, false] HT_.out ?_
     refine last_ (i := 10) (N := none) #[true, true, true, true, true, true, true, true, true, true, true] rfl rfl (one_of HT_.out (by kernel_rfl)) (by decide) (fun K hK => ?_)
     refine skip_ (w1 := ?_) (by rfl) rfl ?_ ?_
     rotate_left
     ·go_simp
      rfl
     refine hK.out _ _ ?_
     clear hK K
     refine done_ (done_of HT_.out (by kernel_rfl)) ?_
     have n0_ : Aside0 (Kd.R k104 104 (w45.setCell ⟨go31, (t187 : Int).toNat * 3 + 2, none⟩ (.int .i64 (wrap64 (((rd_T104 t198 t187).f2) + a1_3)))) w.heap.size (fun _ => True) (.slice (some ⟨go31, 0, none⟩) t198.length co46) y202) := ⟨q_r (HQ47.out)⟩
     have n1_ : Aside0 ((w45.setCell ⟨go31, (t187 : Int).toNat * 3 + 2, none⟩ (.int .i64 (wrap64 (((rd_T104 t198 t187).f2) + a1_3)))).heap[gb183]? = some (.cells #[.int .i64 a1_0, .int .i64 a1_1, .int .i64 a1_2, .int .i64 a1_3] 86 (0, 0))) := ⟨by (with_reducible repeat (first | refine blk_drewN ?_ _ | refine blk_drew ?_ | refine blk_alloc ?_ _)); refine blk_far ?_ (by have h_ := Kd.R_ne HO200.out BK183.out (by decide); intro e_; exact h_ (by rw [e_]; rfl)) _; (with_reducible repeat (first | refine blk_drewN ?_ _ | refine blk_drew ?_ | refine blk_alloc ?_ _)); exact BK183.out⟩
     have n2_ : Aside0 (Below w.heap.size w (w45.setCell ⟨go31, (t187 : Int).toNat * 3 + 2, none⟩ (.int .i64 (wrap64 (((rd_T104 t198 t187).f2) + a1_3))))) := ⟨bq⟩
     (try clear HO200)
     (try clear BK183)
     (try clear HB)
     have hst_ : (w45.setCell ⟨go31, (t187 : Int).toNat * 3 + 2, none⟩ (.int .i64 (wrap64 (((rd_T104 t198 t187).f2) + a1_3)))).cell? ⟨go31, (t187 : Int).toNat * 3 + 2, none⟩ = some (.int .i64 (wrap64 (((rd_T104 t198 t187).f2) + a1_3))) := World.cell?_setCell_same _ _ _ (by assumption)
     generalize (w45.setCell ⟨go31, (t187 : Int).toNat * 3 + 2, none⟩ (.int .i64 (wrap64 (((rd_T104 t198 t187).f2) + a1_3)))) = w48 at n0_ n1_ n2_ hst_ ⊢
     have HO200 := n0_
     have BK183 := n1_
     have HB := n2_
     clear n0_ n1_ n2_
     have p32 : 0 ≤ (t187 : Int) := q_d
     have q32 : (t187 : Int) < ((t198.length : Int) : Int) := q_d
     replace p32 := eq_true p32
     replace q32 := eq_true q32
     try go_wp2_with (first | ((with_reducible refine gate_callee (f := 122) rfl ?_); refine goesLq (some 51) rfl rfl Try.func122 (by kernel_rfl) rfl #[.slice (some ⟨go31, 0, none⟩) t198.length co46, .int .i64 t187, .int .i64 (wrap64 (t187 + 1))] rfl ?_; (with_reducible refine (slices_Delete_impl_Balance.calls (fun k_ => some k_ = (.slice (some ⟨go31, 0, none⟩) t198.length co46 : Value).ownBlock) (.slice (some ⟨go31, 0, none⟩) t198.length co46) y202 t187 (wrap64 (t187 + 1)) t204 w _ ?side1 ?side2 A34.out).mono ?_); (case side1 => repeat (first | (with_reducible first | exact HB.out | apply below_alloc | apply pw_below_drewN | apply below_drew1 | refine below_set ?_ GE183.out) | exact HB.out)); (case side2 => exact Kd.R_tight rfl HO200.out); rintro e w49 ⟨v205, rfl, ho0, hb, hkp⟩; refine ⟨_, rfl, ?_⟩; have n0_ := am (blk_kept kq hkp (fun hs_ => (fun e_ => (Kd.R_ne HO200.out BK183.out (by decide)) e_) hs_)); have n1_ := am (Kd.R_mono (ok' := fun k_ => True) ho0 (fun k_ hk_ => trivial)); have n2_ := am (hb); revert n0_ n1_ n2_; clear BK183 HB HO200; intro BK183 HO206 HB; (try clear hb); (try clear hkp); (try clear ho0)))
     go_ret
     exact ⟨_, q_e, q_r (HO206.out), bq⟩
    ·rw [if_neg c33] at H
     have c33b0 : ((wrap64 (((rd_T104 t198 t187).f2) + a1_3)) == 0) = false := beq_eq_false_iff_ne.mpr c33
     have c33b1 : ((wrap64 (((rd_T104 t198 t187).f2) + a1_3)) != 0) = true := bne_iff_ne.mpr c33
     obtain rfl := Option.some.inj H
     go_enter Try.func102, Try.ntmps102
     try go_wp2_with (first | ((with_reducible refine gate_dst (N := 3) rfl ?_); refine q_box (N := 3) (cs := #[.int .i64 a1_0, .int .i64 a1_1, .int .i64 a1_2, .int .i64 a1_3]) (t := 86) ?_; intro gb183 hg w50 hbox hb; have n0_ := am (below_step bq hb); have n1_ := am (hbox); have n2_ := am ((q_g hg bq : w.heap.size ≤ gb183)); have n3_ := n2_; revert n0_ n1_ n2_ n3_; clear HB; intro HB BK183 GW183 GE183; clear hb hbox hg) | ((with_reducible refine gate_callee (f := 98) rfl ?_); refine goesLq (some 9) rfl rfl Try.func98 (by kernel_rfl) rfl #[.slice A0 l0.length c0] rfl ?_; (with_reducible refine (slices_Clone_impl_Balance.calls _ _ l0 t184 _ ?side1 ?side2 A3.out).mono ?_); (case side1 => exact q_c ((Kd.C_below HR0.out HB.out))); (case side2 => exact HC0.out); rintro e w51 ⟨v185, rfl, ho0, hb⟩; refine ⟨_, rfl, ?_⟩; have n0_ := am (Kd.R_lower ho0 (below_size bq)); have n1_ := am (blk_below (q_b BK183.out) hb); have n2_ := am (below_step bq hb); revert n0_ n1_ n2_; clear BK183 HB; intro HO186 BK183 HB; (try clear hb); (try clear hb2); (try clear hk); (try clear hi); (try clear ho0); obtain ⟨hcz52_0, hcz52_1, hcz52_2, hcz52_3, hfz52_0, hfz52_1, hfz52_2, hfz52_3⟩ := q_4 BK183.out; obtain ⟨Ao53, co53, eo53⟩ := Kd.R_slice HO186.out; subst eo53) | ((with_reducible refine gate_callee (f := 113) rfl ?_); refine goesLq (some 17) rfl rfl Try.func113 (by kernel_rfl) rfl #[.slice Ao53 t184.length co53, .agg #[.int .i64 a1_1, .int .i64 a1_2, .int .i64 0], .func (.func 84) #[] #[]] rfl ?_; (with_reducible refine (slices_BinarySearchFunc_impl_Balance.calls k _ _ t184 a1_1 a1_2 0 t187 false _ ?side1 ?side2 A4.out).mono ?_); (case side1 => exact q_c ((Kd.R_reads' HO186.out).2.2)); (case side2 => exact (Kd.R_reads' HO186.out).2.1); rintro e w54 ⟨rfl, hb⟩; refine ⟨_, rfl, ?_⟩; have n0_ := am (Kd.R_below (q_r (HO186.out)) hb); have n1_ := am (blk_below (q_b BK183.out) hb); have n2_ := am (below_step bq hb); revert n0_ n1_ n2_; clear HO186 BK183 HB; intro HO186 BK183 HB; (try clear hb); (try clear hb2); (try clear hk); (try clear hi); obtain ⟨hcz55_0, hcz55_1, hcz55_2, hcz55_3, hfz55_0, hfz55_1, hfz55_2, hfz55_3⟩ := q_4 BK183.out) | ((with_reducible refine gate_dst (N := 29) rfl ?_); refine Kd.R_lit k104 _ 104 ?hg (N := 29) ?hd (xs := ([(⟨a1_1, a1_2, 0⟩ : S104)] : List (S104))) (inner := [.int .i64 a1_1, .int .i64 a1_2, .int .i64 0]) (ok := fun _ => True) (okp := fun _ => True) ?hr ?hp (fun _ hk => hk) trivial (Below.refl _ _) (Nat.le_refl _) (by simp) ?_; (case hd => rfl); (case hg => rfl); (case hr => first | (go_simp; done) | (go_simp; rfl)); (case hp => exact (Reps.c3 (show Kd.M k104 _ _ _ (⟨a1_1, a1_2, 0⟩ : S104) [.int .i64 a1_1, .int .i64 a1_2, .int .i64 0] from (k104_mkM _ _ _ (⟨a1_1, a1_2, 0⟩ : S104) )) (Reps.none _ _))); intro v196 w56 ho57 hb hg_ hnew_; clear hg_ hnew_; (first | rw [← Ny195.out] at ho57 | (simp only [Int.reduceToNat] at ho57; rw [← Ny195.out] at ho57)); have n0_ := am (Kd.R_elder' (q_r (HO186.out)) (Kd.R_base ho57) hb); have n1_ := am (Kd.R_lower (Kd.R_new' ho57 (Kd.R_lt (q_r (HO186.out)))) (below_size bq)); have n2_ := am (blk_below (q_b BK183.out) hb); have n3_ := am (below_step bq hb); revert n0_ n1_ n2_ n3_; clear HO186 BK183 HB; intro HO186 HO197 BK183 HB; clear hb ho57; obtain ⟨Ao58, co58, eo58⟩ := Kd.R_slice HO197.out; subst eo58) | ((with_reducible refine gate_callee (f := 121) rfl ?_); refine goesLq (some 30) rfl rfl Try.func121 (by kernel_rfl) rfl #[.slice Ao53 t184.length co53, .int .i64 t187, .slice Ao58 y195.length co58] rfl ?_; (with_reducible refine (slices_Insert_impl_Balance.calls (fun k_ => some k_ = (.slice Ao53 t184.length co53 : Value).ownBlock) (.slice Ao53 t184.length co53) t184 t187 (fun k_ => some k_ = (.slice Ao58 y195.length co58 : Value).ownBlock) (.slice Ao58 y195.length co58) y195 t198 w _ ?side1 ?side2 ?side3 ?side4 ?side5 A28.out).mono ?_); (case side1 => repeat (first | (with_reducible first | exact HB.out | apply below_alloc | apply pw_below_drewN | apply below_drew1 | refine below_set ?_ GE183.out) | exact HB.out)); (case side2 => exact Kd.R_tight rfl HO186.out); (case side3 => exact fun k_ e_ => (HO186.out.1 k_ e_.symm).2); (case side4 => exact Kd.R_tight rfl HO197.out); (case side5 => exact fun k_ e_ => (HO197.out.1 k_ e_.symm).2); rintro e w59 ⟨v199, rfl, ho0, hb, hkp⟩; refine ⟨_, rfl, ?_⟩; have n0_ := am (blk_kept kq hkp (fun hs_ => Or.elim hs_ (fun e_ => (fun e_ => (Kd.R_ne HO186.out BK183.out (by decide)) e_) e_) (fun e_ => (fun e_ => (Kd.R_ne HO197.out BK183.out (by decide)) e_) e_))); have n1_ := am (Kd.R_mono (ok' := fun k_ => True) ho0 (fun k_ hk_ => trivial)); have n2_ := am (hb); revert n0_ n1_ n2_; clear BK183 HB HO186 HO197; intro BK183 HO200 HB; (try clear hb); (try clear hkp); (try clear ho0)))
     have n0_ := am (Kd.R_drew HO200.out)
     have n1_ := am (blk_drew BK183.out)
     have n2_ := am (below_drew1 HB.out)
     clear HO200
     clear BK183
     clear HB
     have HO200 := n0_
     have BK183 := n1_
     have HB := n2_
     clear n0_ n1_ n2_
     obtain ⟨Ao61, co61, eo61⟩ := Kd.R_slice HO200.out
     (first | subst eo61 | (injection eo61 with f1_ f2_ f3_; have f4_ := f1_.symm; have f5_ := f3_.symm; clear f1_ f2_ f3_; subst f4_; subst f5_))
     have p201 : 0 ≤ (t187 : Int) := q_d
     have q201 : t187 < (t198.length : Int) := q_d
     obtain ⟨ad201, e201, hx201_0, hx201_1, hx201_2⟩ := at_T104 (Kd.R_reads' HO200.out).2.2 t187 p201 q201
     cases e201
     replace p201 := eq_true p201
     replace q201 := eq_true q201
     have p31 : 0 ≤ (t187 : Int) := q_d
     have q31 : (t187 : Int) < ((t198.length : Int) : Int) := q_d
     obtain ⟨go31, co31, eo31, gb31, gl31, cl31, HG31⟩ := Kd.R_form HO200.out (by omega)
     (first | cases eo31 | (injection eo31 with ea_ en_ ec_; (first | subst ea_ | (injection ea_ with ea_; subst ea_)); subst ec_; clear en_))
     have GB31 := am gb31
     have GG31 := am HG31
     clear gb31 gl31 HG31
     (first | simp only [add_plain] at hx201_0 | skip)
     (first | simp only [add_plain] at hx201_1 | skip)
     (first | simp only [add_plain] at hx201_2 | skip)
     obtain ⟨ce31, hcl31, hM31, hcc31, hfr31⟩ := Kd.R_elem HO200.out z104 (t187 : Int) p31 q31
     obtain rfl := k104_openM hM31
     have hx31_0 : World.cell? _ ⟨go31, (t187 : Int).toNat * 3, none⟩ = some (.int .i64 ((rd_T104 t198 t187).f0)) := hcc31 0 _ rfl
     have hx31_1 : World.cell? _ ⟨go31, (t187 : Int).toNat * 3 + 1, none⟩ = some (.int .i64 ((rd_T104 t198 t187).f1)) := hcc31 1 _ rfl
     have hx31_2 : World.cell? _ ⟨go31, (t187 : Int).toNat * 3 + 2, none⟩ = some (.int .i64 ((rd_T104 t198 t187).f2)) := hcc31 2 _ rfl
     have hf31_0 : World.frozen? _ ⟨go31, (t187 : Int).toNat * 3, none⟩ = false := hfr31 0
     have hf31_1 : World.frozen? _ ⟨go31, (t187 : Int).toNat * 3 + 1, none⟩ = false := hfr31 1
     have hf31_2 : World.frozen? _ ⟨go31, (t187 : Int).toNat * 3 + 2, none⟩ = false := hfr31 2
     clear hcl31 hcc31 hfr31; (try clear hM31)
     replace p31 := eq_true p31
     replace q31 := eq_true q31
     obtain ⟨ce62, hcl62, hM62, hcc62, hfr62⟩ := Kd.R_elem HO200.out z104 (t187 : Int) q_d (by have h_ : (t187 : Int) < ((t198.length : Int) : Int) := q_d; first | exact h_ | (have e_ := (Kd.R_reads' HO200.out).1; omega) | simpa using h_)
     obtain rfl := k104_openM hM62
     have HP62 := (Kd.R_seg HO200.out (t187 : Int) q_d (by have h_ : (t187 : Int) < ((t198.length : Int) : Int) := q_d; first | exact h_ | (have e_ := (Kd.R_reads' HO200.out).1; omega) | simpa using h_) (seg := [.int .i64 (wrap64 (((rd_T104 t198 t187).f2) + a1_3))]) (j := 2) hcl62 hcc62 (show 3 ≤ 3 from by decide) (x' := (⟨(rd_T104 t198 t187).f0, (rd_T104 t198 t187).f1, wrap64 (((rd_T104 t198 t187).f2) + a1_3)⟩ : S104)) (k104_mkM _ _ _ (⟨(rd_T104 t198 t187).f0, (rd_T104 t198 t187).f1, wrap64 (((rd_T104 t198 t187).f2) + a1_3)⟩ : S104) ) (fun _ hk => hk)).1
     rw [← Ny202.out] at HP62
     have HQ62 := am HP62
     clear hcl62 hcc62 hfr62 HP62; (try clear hM62)
     refine start_ (n := 11) (S := fun w' => w'.cell? ⟨gb183, 0, none⟩ = some (.int .i64 a1_0) ∧ w'.cell? ⟨gb183, 1, none⟩ = some (.int .i64 a1_1) ∧ w'.cell? ⟨gb183, 2, none⟩ = some (.int .i64 a1_2) ∧ w'.cell? ⟨gb183, 3, none⟩ = some (.int .i64 a1_3) ∧ w'.cell? ⟨go31, ((t187).toNat * 3), none⟩ = some (.int .i64 ((rd_T104 t198 t187).f0)) ∧ w'.cell? ⟨go31, ((t187).toNat * 3) + 1, none⟩ = some (.int .i64 ((rd_T104 t198 t187).f1)) ∧ w'.cell? ⟨go31, ((t187).toNat * 3) + 2, none⟩ = some (.int .i64 ((rd_T104 t198 t187).f2))) (ds := [10]) #[false, false, false, false, false, false, false, false, false, false, false] (by kernel_rfl) rfl rfl ⟨q_z BK183.out 0, q_z BK183.out 1, q_z BK183.out 2, q_z BK183.out 3, hx201_0, hx201_1, hx201_2⟩ (fun hHeld => ?_); refine with_tabW impl_added.tab5 impl_added.bits5 (fun HT_ HW_ => ?_)
     generalize w59.drew = w60 at HO200 BK183 HB GG31 HQ62 hf31_0 hf31_1 hf31_2 hx201_0 hx201_1 hx201_2 hx31_0 hx31_1 hx31_2 hHeld ⊢
     refine q_p 0 (some 31) #[true, false, false, false, false, false, false, false, false, false, false] HT_.out ?_
     refine q_p 1 (some 32) #[true, true, false, false, false, false, false, false, false, false, false] HT_.out ?_
     refine q_p 2 (some 33) #[true, true, true, false, false, false, false, false, false, false, false] HT_.out ?_
     refine q_p 3 (some 34) #[true, true, true, true, false, false, false, false, false, false, false] HT_.out ?_
     refine q_p 5 (some 36) #[true, true, true, true, false, true, false, false, false, false, false] HT_.out ?_
     refine q_t 4 (some 35) #[true, true, true, true, true, true, false, false, false, false, false] HT_.out HW_.out hHeld ?_
     refine q_t 6 (some 37) #[true, true, true, true, true, true, true, false, false, false, false] HT_.out HW_.out hHeld ?_
     refine q_p 7 (some 38) #[true, true, true, true, true, true, true, true, false, false, false] HT_.out ?_
     refine q_p 8 (some 39) #[true, true, true, true, true, true, true, true, true, false, false] HT_.out ?_
     refine q_p 9 (some 40) #[true, true, true, true, true, true, true, true, true, true, false] HT_.out ?_
     refine last_ (i := 10) (N := none) #[true, true, true, true, true, true, true, true, true, true, true] rfl rfl (one_of HT_.out (by kernel_rfl)) (by decide) (fun K hK => ?_)
     refine skip_ (w1 := ?_) (by rfl) rfl ?_ ?_
     rotate_left
     ·go_simp
      rfl
     refine hK.out _ _ ?_
     clear hK K
     refine done_ (done_of HT_.out (by kernel_rfl)) ?_
     have p32 : 0 ≤ (t187 : Int) := q_d
     have q32 : (t187 : Int) < ((t198.length : Int) : Int) := q_d
     replace p32 := eq_true p32
     replace q32 := eq_true q32
     try go_wp2
     go_ret
     exact ⟨_, q_e, q_r (HQ62.out), bq⟩
   ·rw [if_neg c30] at H
    exact absurd H (by simp)
  ·rw [if_neg c29] at H
   exact absurd H (by simp)

end Go.Proofs.Ytanegggacfmkcaa.PFnExactSettleAll
