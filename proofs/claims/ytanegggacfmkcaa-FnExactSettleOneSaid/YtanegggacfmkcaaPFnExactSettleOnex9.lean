/- The functions that a law reaches, each as a plain Lean function with the proof that the machine comes to its answer: written by program (the kit's print, turned by wip/gen). No conditions. -/
import Derived.Test.YtanegggacfmkcaaPFnExactSettleOnex0
import Derived.Test.YtanegggacfmkcaaPFnExactSettleOnex5
import Derived.Test.YtanegggacfmkcaaPFnExactSettleOnex7
import Derived.Test.YtanegggacfmkcaaPFnExactSettleOnex8
namespace Go.Proofs.Ytanegggacfmkcaa.PFnExactSettleOne
open Go.RowKit Go.Proofs.YtanegggacfmkcaaW.PrintWords Go.Proofs.YtanegggacfmkcaaW.PrintLast Go.Proofs.YtanegggacfmkcaaW.PrintMore
attribute [local go_sem] max2_int min2_int max_two min_two max_three min_three max_four min_four   -- for this text's walks alone
set_option linter.unusedVariables false
set_option linter.unusedSimpArgs false

/-! ### impl_added: function 102 -/
def impl_added.f (k : Nat) (l0 : List (S104)) (a1_0 : Int) (a1_1 : Int) (a1_2 : Int) (a1_3 : Int) : Option ((List (S104))) := (slices_Clone_impl_Balance.f l0).bind fun t193 => ((slices_BinarySearchFunc_impl_Balance.f k t193 a1_1 a1_2 0).bind fun bt196 => (if bt196.2 = true then (if 0 ≤ bt196.1 then (if bt196.1 < (t193.length : Int) then ((some (t193.set (bt196.1 : Int).toNat (⟨(rd_T104 t193 bt196.1).f0, (rd_T104 t193 bt196.1).f1, wrap64 (((rd_T104 t193 bt196.1).f2) + a1_3)⟩ : S104) : List (S104))).bind fun y199 => (if (wrap64 (((rd_T104 t193 bt196.1).f2) + a1_3)) = 0 then ((slices_Delete_impl_Balance.f y199 bt196.1 (wrap64 (bt196.1 + 1))).bind fun t201 => (some t201)) else (some y199))) else (none)) else (none)) else ((slices_Insert_impl_Balance.f t193 bt196.1 (([(⟨a1_1, a1_2, 0⟩ : S104)] : List (S104)))).bind fun t207 => (if 0 ≤ bt196.1 then (if bt196.1 < (t207.length : Int) then ((some (t207.set (bt196.1 : Int).toNat (⟨(rd_T104 t207 bt196.1).f0, (rd_T104 t207 bt196.1).f1, wrap64 (((rd_T104 t207 bt196.1).f2) + a1_3)⟩ : S104) : List (S104))).bind fun y211 => (if (wrap64 (((rd_T104 t207 bt196.1).f2) + a1_3)) = 0 then ((slices_Delete_impl_Balance.f y211 bt196.1 (wrap64 (bt196.1 + 1))).bind fun t213 => (some t213)) else (some y211))) else (none)) else (none)))))
def impl_added.T5 : Bool × List (List Nat × List Nat) := (true, [([], []), ([], []), ([0, 1], [0, 1]), ([2], [2]), ([3], [3]), ([], []), ([5], [5]), ([4, 6], [4, 6]), ([0, 1, 0, 1, 2, 3, 4, 5, 6, 7], [0, 1]), ([8, 0, 1, 2, 3, 4, 5, 6, 7], [8]), ([9, 7, 0, 1, 2, 3, 4, 5, 6, 7], [7, 9])])
def impl_added.B5 : List Nat := [0, 0, 3, 7, 15, 0, 32, 127, 255, 511, 1023]
theorem impl_added.tab5 : rtab .any (opsOf Try.f102 5) = impl_added.T5 := by kernel_rfl
theorem impl_added.bits5 : waitsOk impl_added.T5.2 impl_added.B5 = true := by kernel_rfl
set_option maxHeartbeats 8000000 in
set_option maxRecDepth 100000 in
theorem impl_added.calls (k : Nat) (A0 : Option Addr) (c0 : Nat) (l0 : List (S104)) (a1_0 : Int) (a1_1 : Int) (a1_2 : Int) (a1_3 : Int) (r : List (S104)) (w : World) (hr0 : Kd.C k104 w A0 l0.length l0) (hc0 : l0.length ≤ c0) (h : impl_added.f k l0 a1_0 a1_1 a1_2 a1_3 = some r) :
  Calls Try.prog 102 #[.slice A0 l0.length c0, .agg #[.int .i64 a1_0, .int .i64 a1_1, .int .i64 a1_2, .int .i64 a1_3]] w fun e w' => ∃ v0_ : Value, e = .returned (v0_) ∧ Kd.R k104 104 w' w.heap.size (fun _ => True) v0_ r ∧ Below w.heap.size w w' := by
 have hu86 := Try.underlying86
 have hu104 := Try.underlying104
 have HR0 := Aside0.mk hr0
 have HC0 := Aside0.mk hc0
 clear hr0 hc0
 have HB := Aside0.mk (Below.refl w.heap.size w)
 have H : ((slices_Clone_impl_Balance.f l0).bind fun t193 => ((slices_BinarySearchFunc_impl_Balance.f k t193 a1_1 a1_2 0).bind fun bt196 => (if bt196.2 = true then (if 0 ≤ bt196.1 then (if bt196.1 < (t193.length : Int) then ((some (t193.set (bt196.1 : Int).toNat (⟨(rd_T104 t193 bt196.1).f0, (rd_T104 t193 bt196.1).f1, wrap64 (((rd_T104 t193 bt196.1).f2) + a1_3)⟩ : S104) : List (S104))).bind fun y199 => (if (wrap64 (((rd_T104 t193 bt196.1).f2) + a1_3)) = 0 then ((slices_Delete_impl_Balance.f y199 bt196.1 (wrap64 (bt196.1 + 1))).bind fun t201 => (some t201)) else (some y199))) else (none)) else (none)) else ((slices_Insert_impl_Balance.f t193 bt196.1 (([(⟨a1_1, a1_2, 0⟩ : S104)] : List (S104)))).bind fun t207 => (if 0 ≤ bt196.1 then (if bt196.1 < (t207.length : Int) then ((some (t207.set (bt196.1 : Int).toNat (⟨(rd_T104 t207 bt196.1).f0, (rd_T104 t207 bt196.1).f1, wrap64 (((rd_T104 t207 bt196.1).f2) + a1_3)⟩ : S104) : List (S104))).bind fun y211 => (if (wrap64 (((rd_T104 t207 bt196.1).f2) + a1_3)) = 0 then ((slices_Delete_impl_Balance.f y211 bt196.1 (wrap64 (bt196.1 + 1))).bind fun t213 => (some t213)) else (some y211))) else (none)) else (none)))))) = some r := h
 clear h
 replace H := Option.bind_eq_some_iff.mp H
 obtain ⟨t193, A30, H⟩ := H
 replace H : ((slices_BinarySearchFunc_impl_Balance.f k t193 a1_1 a1_2 0).bind fun bt196 => (if bt196.2 = true then (if 0 ≤ bt196.1 then (if bt196.1 < (t193.length : Int) then ((some (t193.set (bt196.1 : Int).toNat (⟨(rd_T104 t193 bt196.1).f0, (rd_T104 t193 bt196.1).f1, wrap64 (((rd_T104 t193 bt196.1).f2) + a1_3)⟩ : S104) : List (S104))).bind fun y199 => (if (wrap64 (((rd_T104 t193 bt196.1).f2) + a1_3)) = 0 then ((slices_Delete_impl_Balance.f y199 bt196.1 (wrap64 (bt196.1 + 1))).bind fun t201 => (some t201)) else (some y199))) else (none)) else (none)) else ((slices_Insert_impl_Balance.f t193 bt196.1 (([(⟨a1_1, a1_2, 0⟩ : S104)] : List (S104)))).bind fun t207 => (if 0 ≤ bt196.1 then (if bt196.1 < (t207.length : Int) then ((some (t207.set (bt196.1 : Int).toNat (⟨(rd_T104 t207 bt196.1).f0, (rd_T104 t207 bt196.1).f1, wrap64 (((rd_T104 t207 bt196.1).f2) + a1_3)⟩ : S104) : List (S104))).bind fun y211 => (if (wrap64 (((rd_T104 t207 bt196.1).f2) + a1_3)) = 0 then ((slices_Delete_impl_Balance.f y211 bt196.1 (wrap64 (bt196.1 + 1))).bind fun t213 => (some t213)) else (some y211))) else (none)) else (none))))) = some r := H
 have A3 := Aside0.mk A30
 clear A30
 replace H := Option.bind_eq_some_iff.mp H
 obtain ⟨⟨t196, t197⟩, A40, H⟩ := H
 replace H : (if t197 = true then (if 0 ≤ t196 then (if t196 < (t193.length : Int) then ((some (t193.set (t196 : Int).toNat (⟨(rd_T104 t193 t196).f0, (rd_T104 t193 t196).f1, wrap64 (((rd_T104 t193 t196).f2) + a1_3)⟩ : S104) : List (S104))).bind fun y199 => (if (wrap64 (((rd_T104 t193 t196).f2) + a1_3)) = 0 then ((slices_Delete_impl_Balance.f y199 t196 (wrap64 (t196 + 1))).bind fun t201 => (some t201)) else (some y199))) else (none)) else (none)) else ((slices_Insert_impl_Balance.f t193 t196 (([(⟨a1_1, a1_2, 0⟩ : S104)] : List (S104)))).bind fun t207 => (if 0 ≤ t196 then (if t196 < (t207.length : Int) then ((some (t207.set (t196 : Int).toNat (⟨(rd_T104 t207 t196).f0, (rd_T104 t207 t196).f1, wrap64 (((rd_T104 t207 t196).f2) + a1_3)⟩ : S104) : List (S104))).bind fun y211 => (if (wrap64 (((rd_T104 t207 t196).f2) + a1_3)) = 0 then ((slices_Delete_impl_Balance.f y211 t196 (wrap64 (t196 + 1))).bind fun t213 => (some t213)) else (some y211))) else (none)) else (none)))) = some r := H
 have A4 := Aside0.mk A40
 clear A40
 by_cases c5 : t197 = true
 ·subst c5
  have H1 : (if 0 ≤ t196 then (if t196 < (t193.length : Int) then ((some (t193.set (t196 : Int).toNat (⟨(rd_T104 t193 t196).f0, (rd_T104 t193 t196).f1, wrap64 (((rd_T104 t193 t196).f2) + a1_3)⟩ : S104) : List (S104))).bind fun y199 => (if (wrap64 (((rd_T104 t193 t196).f2) + a1_3)) = 0 then ((slices_Delete_impl_Balance.f y199 t196 (wrap64 (t196 + 1))).bind fun t201 => (some t201)) else (some y199))) else (none)) else (none)) = some r := by rw [if_pos rfl] at H; exact H
  clear H
  have H := H1
  clear H1
  by_cases c6 : 0 ≤ t196
  ·rw [if_pos c6] at H
   have c6b0 := decide_eq_true c6
   clear c6
   by_cases c7 : t196 < (t193.length : Int)
   ·rw [if_pos c7] at H
    have c7b0 := decide_eq_true c7
    clear c7
    obtain ⟨y199, hy199⟩ : ∃ y_ : List (S104), y_ = (t193.set (t196 : Int).toNat (⟨(rd_T104 t193 t196).f0, (rd_T104 t193 t196).f1, wrap64 (((rd_T104 t193 t196).f2) + a1_3)⟩ : S104)) := ⟨_, rfl⟩
    replace H : (if (wrap64 (((rd_T104 t193 t196).f2) + a1_3)) = 0 then ((slices_Delete_impl_Balance.f y199 t196 (wrap64 (t196 + 1))).bind fun t201 => (some t201)) else (some y199)) = some r := q_h hy199 H
    have Ny199 := Aside0.mk hy199
    clear hy199
    by_cases c10 : (wrap64 (((rd_T104 t193 t196).f2) + a1_3)) = 0
    ·rw [if_pos c10] at H
     have c10b0 : ((wrap64 (((rd_T104 t193 t196).f2) + a1_3)) == 0) = true := beq_iff_eq.mpr c10
     have c10b1 : ((wrap64 (((rd_T104 t193 t196).f2) + a1_3)) != 0) = false := bne_eq_false_iff_eq.mpr c10
     clear c10
     replace H := Option.bind_eq_some_iff.mp H
     obtain ⟨t201, A110, H⟩ := H
     replace H : (some t201) = some r := H
     have A11 := Aside0.mk A110
     clear A110
     obtain rfl := Option.some.inj H
     go_enter Try.func102, Try.ntmps102
     try go_wp2_with (first | ((with_reducible refine gate_dst (N := 3) rfl ?_); refine q_box (N := 3) (cs := #[.int .i64 a1_0, .int .i64 a1_1, .int .i64 a1_2, .int .i64 a1_3]) (t := 86) ?_; intro gb192 hg w12 hbox hb; have n0_ := Aside0.mk (below_step bq hb); have n1_ := Aside0.mk (hbox); have n2_ := Aside0.mk ((q_g hg bq : w.heap.size ≤ gb192)); have n3_ := Aside0.mk ((q_g hg bq : w.heap.size ≤ gb192)); revert n0_ n1_ n2_ n3_; clear HB; intro HB BK192 GW192 GE192; clear hb hbox hg) | ((with_reducible refine gate_callee (f := 98) rfl ?_); refine goesLq (some 9) rfl rfl Try.func98 (by kernel_rfl) rfl #[.slice A0 l0.length c0] rfl ?_; (with_reducible refine (slices_Clone_impl_Balance.calls _ _ l0 t193 _ ?side1 ?side2 A3.out).mono ?_); (case side1 => exact q_c ((Kd.C_below HR0.out HB.out))); (case side2 => exact HC0.out); rintro e w13 ⟨v194, rfl, ho0, hb⟩; refine ⟨_, rfl, ?_⟩; have n0_ := Aside0.mk (Kd.R_lower ho0 (below_size bq)); have n1_ := Aside0.mk (blk_below (q_b BK192.out) hb); have n2_ := Aside0.mk (below_step bq hb); revert n0_ n1_ n2_; clear BK192 HB; intro HO195 BK192 HB; (try clear hb); (try clear hb2); (try clear hk); (try clear hi); (try clear ho0); obtain ⟨hcz14_0, hcz14_1, hcz14_2, hcz14_3, hfz14_0, hfz14_1, hfz14_2, hfz14_3⟩ := q_4 BK192.out; obtain ⟨Ao15, co15, eo15⟩ := Kd.R_slice HO195.out; subst eo15) | ((with_reducible refine gate_callee (f := 113) rfl ?_); refine goesLq (some 17) rfl rfl Try.func113 (by kernel_rfl) rfl #[.slice Ao15 t193.length co15, .agg #[.int .i64 a1_1, .int .i64 a1_2, .int .i64 0], .func (.func 84) #[] #[]] rfl ?_; (with_reducible refine (slices_BinarySearchFunc_impl_Balance.calls k _ _ t193 a1_1 a1_2 0 t196 true _ ?side1 ?side2 A4.out).mono ?_); (case side1 => exact q_c ((Kd.R_reads' HO195.out).2.2)); (case side2 => exact (Kd.R_reads' HO195.out).2.1); rintro e w16 ⟨rfl, hb⟩; refine ⟨_, rfl, ?_⟩; have n0_ := Aside0.mk (Kd.R_below (q_r (HO195.out)) hb); have n1_ := Aside0.mk (blk_below (q_b BK192.out) hb); have n2_ := Aside0.mk (below_step bq hb); revert n0_ n1_ n2_; clear HO195 BK192 HB; intro HO195 BK192 HB; (try clear hb); (try clear hb2); (try clear hk); (try clear hi)))
     have n0_ := Aside0.mk (Kd.R_drew HO195.out)
     have n1_ := Aside0.mk (blk_drew BK192.out)
     have n2_ := Aside0.mk (below_drew1 HB.out)
     clear HO195
     clear BK192
     clear HB
     have HO195 := n0_
     have BK192 := n1_
     have HB := n2_
     clear n0_ n1_ n2_
     have p198 : 0 ≤ (t196 : Int) := q_d
     have q198 : t196 < (t193.length : Int) := q_d
     obtain ⟨ad198, e198, hx198_0, hx198_1, hx198_2⟩ := at_T104 (Kd.R_reads' HO195.out).2.2 t196 p198 q198
     cases e198
     replace p198 := eq_true p198
     replace q198 := eq_true q198
     have p8 : 0 ≤ (t196 : Int) := q_d
     have q8 : (t196 : Int) < ((t193.length : Int) : Int) := q_d
     obtain ⟨go8, co8, eo8, gb8, gl8, cl8, HG8⟩ := Kd.R_form HO195.out (by omega)
     (first | cases eo8 | (injection eo8 with ea_ en_ ec_; (first | subst ea_ | (injection ea_ with ea_; subst ea_)); subst ec_; clear en_))
     have GB8 := Aside0.mk gb8
     have GG8 := Aside0.mk HG8
     clear gb8 gl8 HG8
     (first | simp only [add_plain] at hx198_0 | skip)
     (first | simp only [add_plain] at hx198_1 | skip)
     (first | simp only [add_plain] at hx198_2 | skip)
     obtain ⟨ce8, hcl8, hM8, hcc8, hfr8⟩ := Kd.R_elem HO195.out z104 (t196 : Int) p8 q8
     obtain rfl := k104_openM hM8
     have hx8_0 : World.cell? _ ⟨go8, (t196 : Int).toNat * 3, none⟩ = some (.int .i64 ((rd_T104 t193 t196).f0)) := hcc8 0 _ rfl
     have hx8_1 : World.cell? _ ⟨go8, (t196 : Int).toNat * 3 + 1, none⟩ = some (.int .i64 ((rd_T104 t193 t196).f1)) := hcc8 1 _ rfl
     have hx8_2 : World.cell? _ ⟨go8, (t196 : Int).toNat * 3 + 2, none⟩ = some (.int .i64 ((rd_T104 t193 t196).f2)) := hcc8 2 _ rfl
     have hf8_0 : World.frozen? _ ⟨go8, (t196 : Int).toNat * 3, none⟩ = false := hfr8 0
     have hf8_1 : World.frozen? _ ⟨go8, (t196 : Int).toNat * 3 + 1, none⟩ = false := hfr8 1
     have hf8_2 : World.frozen? _ ⟨go8, (t196 : Int).toNat * 3 + 2, none⟩ = false := hfr8 2
     clear hcl8 hcc8 hfr8; (try clear hM8)
     replace p8 := eq_true p8
     replace q8 := eq_true q8
     obtain ⟨ce18, hcl18, hM18, hcc18, hfr18⟩ := Kd.R_elem HO195.out z104 (t196 : Int) q_d (by have h_ : (t196 : Int) < ((t193.length : Int) : Int) := q_d; first | exact h_ | (have e_ := (Kd.R_reads' HO195.out).1; omega) | simpa using h_)
     obtain rfl := k104_openM hM18
     have HP18 := (Kd.R_seg HO195.out (t196 : Int) q_d (by have h_ : (t196 : Int) < ((t193.length : Int) : Int) := q_d; first | exact h_ | (have e_ := (Kd.R_reads' HO195.out).1; omega) | simpa using h_) (seg := [.int .i64 (wrap64 (((rd_T104 t193 t196).f2) + a1_3))]) (j := 2) hcl18 hcc18 (show 3 ≤ 3 from by decide) (x' := (⟨(rd_T104 t193 t196).f0, (rd_T104 t193 t196).f1, wrap64 (((rd_T104 t193 t196).f2) + a1_3)⟩ : S104)) (k104_mkM _ _ _ (⟨(rd_T104 t193 t196).f0, (rd_T104 t193 t196).f1, wrap64 (((rd_T104 t193 t196).f2) + a1_3)⟩ : S104) ) (fun _ hk => hk)).1
     rw [← Ny199.out] at HP18
     have HQ18 := Aside0.mk HP18
     clear hcl18 hcc18 hfr18 HP18; (try clear hM18)
     refine start_ (n := 11) (S := fun w' => w'.cell? ⟨gb192, 0, none⟩ = some (.int .i64 a1_0) ∧ w'.cell? ⟨gb192, 1, none⟩ = some (.int .i64 a1_1) ∧ w'.cell? ⟨gb192, 2, none⟩ = some (.int .i64 a1_2) ∧ w'.cell? ⟨gb192, 3, none⟩ = some (.int .i64 a1_3) ∧ w'.cell? ⟨go8, ((t196).toNat * 3), none⟩ = some (.int .i64 ((rd_T104 t193 t196).f0)) ∧ w'.cell? ⟨go8, ((t196).toNat * 3) + 1, none⟩ = some (.int .i64 ((rd_T104 t193 t196).f1)) ∧ w'.cell? ⟨go8, ((t196).toNat * 3) + 2, none⟩ = some (.int .i64 ((rd_T104 t193 t196).f2))) (ds := [10]) #[false, false, false, false, false, false, false, false, false, false, false] (by kernel_rfl) rfl rfl ⟨q_z BK192.out 0, q_z BK192.out 1, q_z BK192.out 2, q_z BK192.out 3, hx198_0, hx198_1, hx198_2⟩ (fun hHeld => ?_); refine with_tabW impl_added.tab5 impl_added.bits5 (fun HT_ HW_ => ?_)
     generalize w16.drew = w17 at HO195 BK192 HB GG8 HQ18 hf8_0 hf8_1 hf8_2 hx198_0 hx198_1 hx198_2 hx8_0 hx8_1 hx8_2 hHeld ⊢
     refine q_p 0 (some 31) #[true, false, false, false, false, false, false, false, false, false, false] HT_.out ?_
     refine q_p 1 (some 32) #[true, true, false, false, false, false, false, false, false, false, false] HT_.out ?_
     refine q_p 2 (some 33) #[true, true, true, false, false, false, false, false, false, false, false] HT_.out ?_
     refine q_p 3 (some 34) #[true, true, true, true, false, false, false, false, false, false, false] HT_.out ?_
     refine q_p 5 (some 36) #[true, true, true, true, false, true, false, false, false, false, false] HT_.out ?_
     refine q_t 4 (some 35) #[true, true, true, true, true, true, false, false, false, false, false] HT_.out HW_.out hHeld ?_
     refine q_t 6 (some 37) #[true, true, true, true, true, true, true, false, false, false, false] HT_.out HW_.out hHeld ?_
     refine q_p 7 (some 38) #[true, true, true, true, true, true, true, true, false, false, false] HT_.out ?_
     refine q_p 8 (some 39) #[true, true, true, true, true, true, true, true, true, false, false] HT_.out ?_
     refine q_p 9 (some 40) #[true, true, true, true, true, true, true, true, true, true, false] HT_.out ?_
     refine last_ (i := 10) (N := none) #[true, true, true, true, true, true, true, true, true, true, true] rfl rfl (one_of HT_.out (by kernel_rfl)) (by decide) (fun K hK => ?_)
     refine skip_ (w1 := ?_) (by rfl) rfl ?_ ?_
     rotate_left
     ·go_simp
      rfl
     refine hK.out _ _ ?_
     clear hK K
     refine done_ (done_of HT_.out (by kernel_rfl)) ?_
     have n0_ : Aside0 (Kd.R k104 104 (w17.setCell ⟨go8, (t196 : Int).toNat * 3 + 2, none⟩ (.int .i64 (wrap64 (((rd_T104 t193 t196).f2) + a1_3)))) w.heap.size (fun _ => True) (.slice (some ⟨go8, 0, none⟩) t193.length co15) y199) := ⟨q_r (HQ18.out)⟩
     have n1_ : Aside0 ((w17.setCell ⟨go8, (t196 : Int).toNat * 3 + 2, none⟩ (.int .i64 (wrap64 (((rd_T104 t193 t196).f2) + a1_3)))).heap[gb192]? = some (.cells #[.int .i64 a1_0, .int .i64 a1_1, .int .i64 a1_2, .int .i64 a1_3] 86 (0, 0))) := ⟨by (with_reducible repeat (first | refine blk_drewN ?_ _ | refine blk_drew ?_ | refine blk_alloc ?_ _)); refine blk_far ?_ (by have h_ := Kd.R_ne HO195.out BK192.out (by decide); intro e_; exact h_ (by rw [e_]; rfl)) _; (with_reducible repeat (first | refine blk_drewN ?_ _ | refine blk_drew ?_ | refine blk_alloc ?_ _)); exact BK192.out⟩
     have n2_ : Aside0 (Below w.heap.size w (w17.setCell ⟨go8, (t196 : Int).toNat * 3 + 2, none⟩ (.int .i64 (wrap64 (((rd_T104 t193 t196).f2) + a1_3))))) := ⟨bq⟩
     (try clear HO195)
     (try clear BK192)
     (try clear HB)
     have hst_ : (w17.setCell ⟨go8, (t196 : Int).toNat * 3 + 2, none⟩ (.int .i64 (wrap64 (((rd_T104 t193 t196).f2) + a1_3)))).cell? ⟨go8, (t196 : Int).toNat * 3 + 2, none⟩ = some (.int .i64 (wrap64 (((rd_T104 t193 t196).f2) + a1_3))) := World.cell?_setCell_same _ _ _ (by assumption)
     generalize (w17.setCell ⟨go8, (t196 : Int).toNat * 3 + 2, none⟩ (.int .i64 (wrap64 (((rd_T104 t193 t196).f2) + a1_3)))) = w19 at n0_ n1_ n2_ hst_ ⊢
     have HO195 := n0_
     have BK192 := n1_
     have HB := n2_
     clear n0_ n1_ n2_
     have p9 : 0 ≤ (t196 : Int) := q_d
     have q9 : (t196 : Int) < ((t193.length : Int) : Int) := q_d
     replace p9 := eq_true p9
     replace q9 := eq_true q9
     try go_wp2_with (first | ((with_reducible refine gate_callee (f := 122) rfl ?_); refine goesLq (some 51) rfl rfl Try.func122 (by kernel_rfl) rfl #[.slice (some ⟨go8, 0, none⟩) t193.length co15, .int .i64 t196, .int .i64 (wrap64 (t196 + 1))] rfl ?_; (with_reducible refine (slices_Delete_impl_Balance.calls (fun k_ => some k_ = (.slice (some ⟨go8, 0, none⟩) t193.length co15 : Value).ownBlock) (.slice (some ⟨go8, 0, none⟩) t193.length co15) y199 t196 (wrap64 (t196 + 1)) t201 w _ ?side1 ?side2 A11.out).mono ?_); (case side1 => repeat (first | (with_reducible first | exact HB.out | apply below_alloc | apply pw_below_drewN | apply below_drew1 | refine below_set ?_ GE192.out) | exact HB.out)); (case side2 => exact Kd.R_tight rfl HO195.out); rintro e w20 ⟨v202, rfl, ho0, hb, hkp⟩; refine ⟨_, rfl, ?_⟩; have n0_ := Aside0.mk (blk_kept kq hkp (fun hs_ => (fun e_ => (Kd.R_ne HO195.out BK192.out (by decide)) e_) hs_)); have n1_ := Aside0.mk (Kd.R_mono (ok' := fun k_ => True) ho0 (fun k_ hk_ => trivial)); have n2_ := Aside0.mk (hb); revert n0_ n1_ n2_; clear BK192 HB HO195; intro BK192 HO203 HB; (try clear hb); (try clear hkp); (try clear ho0)))
     go_ret
     exact ⟨_, q_e, q_r (HO203.out), bq⟩
    ·rw [if_neg c10] at H
     have c10b0 : ((wrap64 (((rd_T104 t193 t196).f2) + a1_3)) == 0) = false := beq_eq_false_iff_ne.mpr c10
     have c10b1 : ((wrap64 (((rd_T104 t193 t196).f2) + a1_3)) != 0) = true := bne_iff_ne.mpr c10
     obtain rfl := Option.some.inj H
     go_enter Try.func102, Try.ntmps102
     try go_wp2_with (first | ((with_reducible refine gate_dst (N := 3) rfl ?_); refine q_box (N := 3) (cs := #[.int .i64 a1_0, .int .i64 a1_1, .int .i64 a1_2, .int .i64 a1_3]) (t := 86) ?_; intro gb192 hg w21 hbox hb; have n0_ := Aside0.mk (below_step bq hb); have n1_ := Aside0.mk (hbox); have n2_ := Aside0.mk ((q_g hg bq : w.heap.size ≤ gb192)); have n3_ := Aside0.mk ((q_g hg bq : w.heap.size ≤ gb192)); revert n0_ n1_ n2_ n3_; clear HB; intro HB BK192 GW192 GE192; clear hb hbox hg) | ((with_reducible refine gate_callee (f := 98) rfl ?_); refine goesLq (some 9) rfl rfl Try.func98 (by kernel_rfl) rfl #[.slice A0 l0.length c0] rfl ?_; (with_reducible refine (slices_Clone_impl_Balance.calls _ _ l0 t193 _ ?side1 ?side2 A3.out).mono ?_); (case side1 => exact q_c ((Kd.C_below HR0.out HB.out))); (case side2 => exact HC0.out); rintro e w22 ⟨v194, rfl, ho0, hb⟩; refine ⟨_, rfl, ?_⟩; have n0_ := Aside0.mk (Kd.R_lower ho0 (below_size bq)); have n1_ := Aside0.mk (blk_below (q_b BK192.out) hb); have n2_ := Aside0.mk (below_step bq hb); revert n0_ n1_ n2_; clear BK192 HB; intro HO195 BK192 HB; (try clear hb); (try clear hb2); (try clear hk); (try clear hi); (try clear ho0); obtain ⟨hcz23_0, hcz23_1, hcz23_2, hcz23_3, hfz23_0, hfz23_1, hfz23_2, hfz23_3⟩ := q_4 BK192.out; obtain ⟨Ao24, co24, eo24⟩ := Kd.R_slice HO195.out; subst eo24) | ((with_reducible refine gate_callee (f := 113) rfl ?_); refine goesLq (some 17) rfl rfl Try.func113 (by kernel_rfl) rfl #[.slice Ao24 t193.length co24, .agg #[.int .i64 a1_1, .int .i64 a1_2, .int .i64 0], .func (.func 84) #[] #[]] rfl ?_; (with_reducible refine (slices_BinarySearchFunc_impl_Balance.calls k _ _ t193 a1_1 a1_2 0 t196 true _ ?side1 ?side2 A4.out).mono ?_); (case side1 => exact q_c ((Kd.R_reads' HO195.out).2.2)); (case side2 => exact (Kd.R_reads' HO195.out).2.1); rintro e w25 ⟨rfl, hb⟩; refine ⟨_, rfl, ?_⟩; have n0_ := Aside0.mk (Kd.R_below (q_r (HO195.out)) hb); have n1_ := Aside0.mk (blk_below (q_b BK192.out) hb); have n2_ := Aside0.mk (below_step bq hb); revert n0_ n1_ n2_; clear HO195 BK192 HB; intro HO195 BK192 HB; (try clear hb); (try clear hb2); (try clear hk); (try clear hi)))
     have n0_ := Aside0.mk (Kd.R_drew HO195.out)
     have n1_ := Aside0.mk (blk_drew BK192.out)
     have n2_ := Aside0.mk (below_drew1 HB.out)
     clear HO195
     clear BK192
     clear HB
     have HO195 := n0_
     have BK192 := n1_
     have HB := n2_
     clear n0_ n1_ n2_
     have p198 : 0 ≤ (t196 : Int) := q_d
     have q198 : t196 < (t193.length : Int) := q_d
     obtain ⟨ad198, e198, hx198_0, hx198_1, hx198_2⟩ := at_T104 (Kd.R_reads' HO195.out).2.2 t196 p198 q198
     cases e198
     replace p198 := eq_true p198
     replace q198 := eq_true q198
     have p8 : 0 ≤ (t196 : Int) := q_d
     have q8 : (t196 : Int) < ((t193.length : Int) : Int) := q_d
     obtain ⟨go8, co8, eo8, gb8, gl8, cl8, HG8⟩ := Kd.R_form HO195.out (by omega)
     (first | cases eo8 | (injection eo8 with ea_ en_ ec_; (first | subst ea_ | (injection ea_ with ea_; subst ea_)); subst ec_; clear en_))
     have GB8 := Aside0.mk gb8
     have GG8 := Aside0.mk HG8
     clear gb8 gl8 HG8
     (first | simp only [add_plain] at hx198_0 | skip)
     (first | simp only [add_plain] at hx198_1 | skip)
     (first | simp only [add_plain] at hx198_2 | skip)
     obtain ⟨ce8, hcl8, hM8, hcc8, hfr8⟩ := Kd.R_elem HO195.out z104 (t196 : Int) p8 q8
     obtain rfl := k104_openM hM8
     have hx8_0 : World.cell? _ ⟨go8, (t196 : Int).toNat * 3, none⟩ = some (.int .i64 ((rd_T104 t193 t196).f0)) := hcc8 0 _ rfl
     have hx8_1 : World.cell? _ ⟨go8, (t196 : Int).toNat * 3 + 1, none⟩ = some (.int .i64 ((rd_T104 t193 t196).f1)) := hcc8 1 _ rfl
     have hx8_2 : World.cell? _ ⟨go8, (t196 : Int).toNat * 3 + 2, none⟩ = some (.int .i64 ((rd_T104 t193 t196).f2)) := hcc8 2 _ rfl
     have hf8_0 : World.frozen? _ ⟨go8, (t196 : Int).toNat * 3, none⟩ = false := hfr8 0
     have hf8_1 : World.frozen? _ ⟨go8, (t196 : Int).toNat * 3 + 1, none⟩ = false := hfr8 1
     have hf8_2 : World.frozen? _ ⟨go8, (t196 : Int).toNat * 3 + 2, none⟩ = false := hfr8 2
     clear hcl8 hcc8 hfr8; (try clear hM8)
     replace p8 := eq_true p8
     replace q8 := eq_true q8
     obtain ⟨ce27, hcl27, hM27, hcc27, hfr27⟩ := Kd.R_elem HO195.out z104 (t196 : Int) q_d (by have h_ : (t196 : Int) < ((t193.length : Int) : Int) := q_d; first | exact h_ | (have e_ := (Kd.R_reads' HO195.out).1; omega) | simpa using h_)
     obtain rfl := k104_openM hM27
     have HP27 := (Kd.R_seg HO195.out (t196 : Int) q_d (by have h_ : (t196 : Int) < ((t193.length : Int) : Int) := q_d; first | exact h_ | (have e_ := (Kd.R_reads' HO195.out).1; omega) | simpa using h_) (seg := [.int .i64 (wrap64 (((rd_T104 t193 t196).f2) + a1_3))]) (j := 2) hcl27 hcc27 (show 3 ≤ 3 from by decide) (x' := (⟨(rd_T104 t193 t196).f0, (rd_T104 t193 t196).f1, wrap64 (((rd_T104 t193 t196).f2) + a1_3)⟩ : S104)) (k104_mkM _ _ _ (⟨(rd_T104 t193 t196).f0, (rd_T104 t193 t196).f1, wrap64 (((rd_T104 t193 t196).f2) + a1_3)⟩ : S104) ) (fun _ hk => hk)).1
     rw [← Ny199.out] at HP27
     have HQ27 := Aside0.mk HP27
     clear hcl27 hcc27 hfr27 HP27; (try clear hM27)
     refine start_ (n := 11) (S := fun w' => w'.cell? ⟨gb192, 0, none⟩ = some (.int .i64 a1_0) ∧ w'.cell? ⟨gb192, 1, none⟩ = some (.int .i64 a1_1) ∧ w'.cell? ⟨gb192, 2, none⟩ = some (.int .i64 a1_2) ∧ w'.cell? ⟨gb192, 3, none⟩ = some (.int .i64 a1_3) ∧ w'.cell? ⟨go8, ((t196).toNat * 3), none⟩ = some (.int .i64 ((rd_T104 t193 t196).f0)) ∧ w'.cell? ⟨go8, ((t196).toNat * 3) + 1, none⟩ = some (.int .i64 ((rd_T104 t193 t196).f1)) ∧ w'.cell? ⟨go8, ((t196).toNat * 3) + 2, none⟩ = some (.int .i64 ((rd_T104 t193 t196).f2))) (ds := [10]) #[false, false, false, false, false, false, false, false, false, false, false] (by kernel_rfl) rfl rfl ⟨q_z BK192.out 0, q_z BK192.out 1, q_z BK192.out 2, q_z BK192.out 3, hx198_0, hx198_1, hx198_2⟩ (fun hHeld => ?_); refine with_tabW impl_added.tab5 impl_added.bits5 (fun HT_ HW_ => ?_)
     generalize w25.drew = w26 at HO195 BK192 HB GG8 HQ27 hf8_0 hf8_1 hf8_2 hx198_0 hx198_1 hx198_2 hx8_0 hx8_1 hx8_2 hHeld ⊢
     refine q_p 0 (some 31) #[true, false, false, false, false, false, false, false, false, false, false] HT_.out ?_
     refine q_p 1 (some 32) #[true, true, false, false, false, false, false, false, false, false, false] HT_.out ?_
     refine q_p 2 (some 33) #[true, true, true, false, false, false, false, false, false, false, false] HT_.out ?_
     refine q_p 3 (some 34) #[true, true, true, true, false, false, false, false, false, false, false] HT_.out ?_
     refine q_p 5 (some 36) #[true, true, true, true, false, true, false, false, false, false, false] HT_.out ?_
     refine q_t 4 (some 35) #[true, true, true, true, true, true, false, false, false, false, false] HT_.out HW_.out hHeld ?_
     refine q_t 6 (some 37) #[true, true, true, true, true, true, true, false, false, false, false] HT_.out HW_.out hHeld ?_
     refine q_p 7 (some 38) #[true, true, true, true, true, true, true, true, false, false, false] HT_.out ?_
     refine q_p 8 (some 39) #[true, true, true, true, true, true, true, true, true, false, false] HT_.out ?_
     refine q_p 9 (some 40) #[true, true, true, true, true, true, true, true, true, true, false] HT_.out ?_
     refine last_ (i := 10) (N := none) #[true, true, true, true, true, true, true, true, true, true, true] rfl rfl (one_of HT_.out (by kernel_rfl)) (by decide) (fun K hK => ?_)
     refine skip_ (w1 := ?_) (by rfl) rfl ?_ ?_
     rotate_left
     ·go_simp
      rfl
     refine hK.out _ _ ?_
     clear hK K
     refine done_ (done_of HT_.out (by kernel_rfl)) ?_
     have p9 : 0 ≤ (t196 : Int) := q_d
     have q9 : (t196 : Int) < ((t193.length : Int) : Int) := q_d
     replace p9 := eq_true p9
     replace q9 := eq_true q9
     try go_wp2
     go_ret
     exact ⟨_, q_e, q_r (HQ27.out), bq⟩
   ·rw [if_neg c7] at H
    exact absurd H (by simp)
  ·rw [if_neg c6] at H
   exact absurd H (by simp)
 ·replace c5 := Bool.eq_false_iff.mpr c5
  subst c5
  have H1 : ((slices_Insert_impl_Balance.f t193 t196 (([(⟨a1_1, a1_2, 0⟩ : S104)] : List (S104)))).bind fun t207 => (if 0 ≤ t196 then (if t196 < (t207.length : Int) then ((some (t207.set (t196 : Int).toNat (⟨(rd_T104 t207 t196).f0, (rd_T104 t207 t196).f1, wrap64 (((rd_T104 t207 t196).f2) + a1_3)⟩ : S104) : List (S104))).bind fun y211 => (if (wrap64 (((rd_T104 t207 t196).f2) + a1_3)) = 0 then ((slices_Delete_impl_Balance.f y211 t196 (wrap64 (t196 + 1))).bind fun t213 => (some t213)) else (some y211))) else (none)) else (none))) = some r := by rw [if_neg (show ¬ (false = true) by decide)] at H; exact H
  clear H
  have H := H1
  clear H1
  obtain ⟨y204, hy204⟩ : ∃ y_ : List (S104), y_ = (([(⟨a1_1, a1_2, 0⟩ : S104)] : List (S104))) := ⟨_, rfl⟩
  replace H : ((slices_Insert_impl_Balance.f t193 t196 y204).bind fun t207 => (if 0 ≤ t196 then (if t196 < (t207.length : Int) then ((some (t207.set (t196 : Int).toNat (⟨(rd_T104 t207 t196).f0, (rd_T104 t207 t196).f1, wrap64 (((rd_T104 t207 t196).f2) + a1_3)⟩ : S104) : List (S104))).bind fun y211 => (if (wrap64 (((rd_T104 t207 t196).f2) + a1_3)) = 0 then ((slices_Delete_impl_Balance.f y211 t196 (wrap64 (t196 + 1))).bind fun t213 => (some t213)) else (some y211))) else (none)) else (none))) = some r := q_h hy204 H
  have Ny204 := Aside0.mk hy204
  clear hy204
  replace H := Option.bind_eq_some_iff.mp H
  obtain ⟨t207, A280, H⟩ := H
  replace H : (if 0 ≤ t196 then (if t196 < (t207.length : Int) then ((some (t207.set (t196 : Int).toNat (⟨(rd_T104 t207 t196).f0, (rd_T104 t207 t196).f1, wrap64 (((rd_T104 t207 t196).f2) + a1_3)⟩ : S104) : List (S104))).bind fun y211 => (if (wrap64 (((rd_T104 t207 t196).f2) + a1_3)) = 0 then ((slices_Delete_impl_Balance.f y211 t196 (wrap64 (t196 + 1))).bind fun t213 => (some t213)) else (some y211))) else (none)) else (none)) = some r := H
  have A28 := Aside0.mk A280
  clear A280
  by_cases c29 : 0 ≤ t196
  ·rw [if_pos c29] at H
   have c29b0 := decide_eq_true c29
   clear c29
   by_cases c30 : t196 < (t207.length : Int)
   ·rw [if_pos c30] at H
    have c30b0 := decide_eq_true c30
    clear c30
    obtain ⟨y211, hy211⟩ : ∃ y_ : List (S104), y_ = (t207.set (t196 : Int).toNat (⟨(rd_T104 t207 t196).f0, (rd_T104 t207 t196).f1, wrap64 (((rd_T104 t207 t196).f2) + a1_3)⟩ : S104)) := ⟨_, rfl⟩
    replace H : (if (wrap64 (((rd_T104 t207 t196).f2) + a1_3)) = 0 then ((slices_Delete_impl_Balance.f y211 t196 (wrap64 (t196 + 1))).bind fun t213 => (some t213)) else (some y211)) = some r := q_h hy211 H
    have Ny211 := Aside0.mk hy211
    clear hy211
    by_cases c33 : (wrap64 (((rd_T104 t207 t196).f2) + a1_3)) = 0
    ·rw [if_pos c33] at H
     have c33b0 : ((wrap64 (((rd_T104 t207 t196).f2) + a1_3)) == 0) = true := beq_iff_eq.mpr c33
     have c33b1 : ((wrap64 (((rd_T104 t207 t196).f2) + a1_3)) != 0) = false := bne_eq_false_iff_eq.mpr c33
     clear c33
     replace H := Option.bind_eq_some_iff.mp H
     obtain ⟨t213, A340, H⟩ := H
     replace H : (some t213) = some r := H
     have A34 := Aside0.mk A340
     clear A340
     obtain rfl := Option.some.inj H
     go_enter Try.func102, Try.ntmps102
     try go_wp2_with (first | ((with_reducible refine gate_dst (N := 3) rfl ?_); refine q_box (N := 3) (cs := #[.int .i64 a1_0, .int .i64 a1_1, .int .i64 a1_2, .int .i64 a1_3]) (t := 86) ?_; intro gb192 hg w35 hbox hb; have n0_ := Aside0.mk (below_step bq hb); have n1_ := Aside0.mk (hbox); have n2_ := Aside0.mk ((q_g hg bq : w.heap.size ≤ gb192)); have n3_ := Aside0.mk ((q_g hg bq : w.heap.size ≤ gb192)); revert n0_ n1_ n2_ n3_; clear HB; intro HB BK192 GW192 GE192; clear hb hbox hg) | ((with_reducible refine gate_callee (f := 98) rfl ?_); refine goesLq (some 9) rfl rfl Try.func98 (by kernel_rfl) rfl #[.slice A0 l0.length c0] rfl ?_; (with_reducible refine (slices_Clone_impl_Balance.calls _ _ l0 t193 _ ?side1 ?side2 A3.out).mono ?_); (case side1 => exact q_c ((Kd.C_below HR0.out HB.out))); (case side2 => exact HC0.out); rintro e w36 ⟨v194, rfl, ho0, hb⟩; refine ⟨_, rfl, ?_⟩; have n0_ := Aside0.mk (Kd.R_lower ho0 (below_size bq)); have n1_ := Aside0.mk (blk_below (q_b BK192.out) hb); have n2_ := Aside0.mk (below_step bq hb); revert n0_ n1_ n2_; clear BK192 HB; intro HO195 BK192 HB; (try clear hb); (try clear hb2); (try clear hk); (try clear hi); (try clear ho0); obtain ⟨hcz37_0, hcz37_1, hcz37_2, hcz37_3, hfz37_0, hfz37_1, hfz37_2, hfz37_3⟩ := q_4 BK192.out; obtain ⟨Ao38, co38, eo38⟩ := Kd.R_slice HO195.out; subst eo38) | ((with_reducible refine gate_callee (f := 113) rfl ?_); refine goesLq (some 17) rfl rfl Try.func113 (by kernel_rfl) rfl #[.slice Ao38 t193.length co38, .agg #[.int .i64 a1_1, .int .i64 a1_2, .int .i64 0], .func (.func 84) #[] #[]] rfl ?_; (with_reducible refine (slices_BinarySearchFunc_impl_Balance.calls k _ _ t193 a1_1 a1_2 0 t196 false _ ?side1 ?side2 A4.out).mono ?_); (case side1 => exact q_c ((Kd.R_reads' HO195.out).2.2)); (case side2 => exact (Kd.R_reads' HO195.out).2.1); rintro e w39 ⟨rfl, hb⟩; refine ⟨_, rfl, ?_⟩; have n0_ := Aside0.mk (Kd.R_below (q_r (HO195.out)) hb); have n1_ := Aside0.mk (blk_below (q_b BK192.out) hb); have n2_ := Aside0.mk (below_step bq hb); revert n0_ n1_ n2_; clear HO195 BK192 HB; intro HO195 BK192 HB; (try clear hb); (try clear hb2); (try clear hk); (try clear hi); obtain ⟨hcz40_0, hcz40_1, hcz40_2, hcz40_3, hfz40_0, hfz40_1, hfz40_2, hfz40_3⟩ := q_4 BK192.out) | ((with_reducible refine gate_dst (N := 29) rfl ?_); refine Kd.R_lit k104 _ 104 ?hg (N := 29) ?hd (xs := ([(⟨a1_1, a1_2, 0⟩ : S104)] : List (S104))) (inner := [.int .i64 a1_1, .int .i64 a1_2, .int .i64 0]) (ok := fun _ => True) (okp := fun _ => True) ?hr ?hp (fun _ hk => hk) trivial (Below.refl _ _) (Nat.le_refl _) (by simp) ?_; (case hd => rfl); (case hg => rfl); (case hr => first | (go_simp; done) | (go_simp; rfl)); (case hp => exact (Reps.c3 (show Kd.M k104 _ _ _ (⟨a1_1, a1_2, 0⟩ : S104) [.int .i64 a1_1, .int .i64 a1_2, .int .i64 0] from (k104_mkM _ _ _ (⟨a1_1, a1_2, 0⟩ : S104) )) (Reps.none _ _))); intro v205 w41 ho42 hb hg_ hnew_; clear hg_ hnew_; (first | rw [← Ny204.out] at ho42 | (simp only [Int.reduceToNat] at ho42; rw [← Ny204.out] at ho42)); have n0_ := Aside0.mk (Kd.R_elder' (q_r (HO195.out)) (Kd.R_base ho42) hb); have n1_ := Aside0.mk (Kd.R_lower (Kd.R_new' ho42 (Kd.R_lt (q_r (HO195.out)))) (below_size bq)); have n2_ := Aside0.mk (blk_below (q_b BK192.out) hb); have n3_ := Aside0.mk (below_step bq hb); revert n0_ n1_ n2_ n3_; clear HO195 BK192 HB; intro HO195 HO206 BK192 HB; clear hb ho42; obtain ⟨Ao43, co43, eo43⟩ := Kd.R_slice HO206.out; subst eo43) | ((with_reducible refine gate_callee (f := 121) rfl ?_); refine goesLq (some 30) rfl rfl Try.func121 (by kernel_rfl) rfl #[.slice Ao38 t193.length co38, .int .i64 t196, .slice Ao43 y204.length co43] rfl ?_; (with_reducible refine (slices_Insert_impl_Balance.calls (fun k_ => some k_ = (.slice Ao38 t193.length co38 : Value).ownBlock) (.slice Ao38 t193.length co38) t193 t196 (fun k_ => some k_ = (.slice Ao43 y204.length co43 : Value).ownBlock) (.slice Ao43 y204.length co43) y204 t207 w _ ?side1 ?side2 ?side3 ?side4 ?side5 A28.out).mono ?_); (case side1 => repeat (first | (with_reducible first | exact HB.out | apply below_alloc | apply pw_below_drewN | apply below_drew1 | refine below_set ?_ GE192.out) | exact HB.out)); (case side2 => exact Kd.R_tight rfl HO195.out); (case side3 => exact fun k_ e_ => (HO195.out.1 k_ e_.symm).2); (case side4 => exact Kd.R_tight rfl HO206.out); (case side5 => exact fun k_ e_ => (HO206.out.1 k_ e_.symm).2); rintro e w44 ⟨v208, rfl, ho0, hb, hkp⟩; refine ⟨_, rfl, ?_⟩; have n0_ := Aside0.mk (blk_kept kq hkp (fun hs_ => Or.elim hs_ (fun e_ => (fun e_ => (Kd.R_ne HO195.out BK192.out (by decide)) e_) e_) (fun e_ => (fun e_ => (Kd.R_ne HO206.out BK192.out (by decide)) e_) e_))); have n1_ := Aside0.mk (Kd.R_mono (ok' := fun k_ => True) ho0 (fun k_ hk_ => trivial)); have n2_ := Aside0.mk (hb); revert n0_ n1_ n2_; clear BK192 HB HO195 HO206; intro BK192 HO209 HB; (try clear hb); (try clear hkp); (try clear ho0)))
     have n0_ := Aside0.mk (Kd.R_drew HO209.out)
     have n1_ := Aside0.mk (blk_drew BK192.out)
     have n2_ := Aside0.mk (below_drew1 HB.out)
     clear HO209
     clear BK192
     clear HB
     have HO209 := n0_
     have BK192 := n1_
     have HB := n2_
     clear n0_ n1_ n2_
     obtain ⟨Ao46, co46, eo46⟩ := Kd.R_slice HO209.out
     (first | subst eo46 | (injection eo46 with f1_ f2_ f3_; have f4_ := f1_.symm; have f5_ := f3_.symm; clear f1_ f2_ f3_; subst f4_; subst f5_))
     have p210 : 0 ≤ (t196 : Int) := q_d
     have q210 : t196 < (t207.length : Int) := q_d
     obtain ⟨ad210, e210, hx210_0, hx210_1, hx210_2⟩ := at_T104 (Kd.R_reads' HO209.out).2.2 t196 p210 q210
     cases e210
     replace p210 := eq_true p210
     replace q210 := eq_true q210
     have p31 : 0 ≤ (t196 : Int) := q_d
     have q31 : (t196 : Int) < ((t207.length : Int) : Int) := q_d
     obtain ⟨go31, co31, eo31, gb31, gl31, cl31, HG31⟩ := Kd.R_form HO209.out (by omega)
     (first | cases eo31 | (injection eo31 with ea_ en_ ec_; (first | subst ea_ | (injection ea_ with ea_; subst ea_)); subst ec_; clear en_))
     have GB31 := Aside0.mk gb31
     have GG31 := Aside0.mk HG31
     clear gb31 gl31 HG31
     (first | simp only [add_plain] at hx210_0 | skip)
     (first | simp only [add_plain] at hx210_1 | skip)
     (first | simp only [add_plain] at hx210_2 | skip)
     obtain ⟨ce31, hcl31, hM31, hcc31, hfr31⟩ := Kd.R_elem HO209.out z104 (t196 : Int) p31 q31
     obtain rfl := k104_openM hM31
     have hx31_0 : World.cell? _ ⟨go31, (t196 : Int).toNat * 3, none⟩ = some (.int .i64 ((rd_T104 t207 t196).f0)) := hcc31 0 _ rfl
     have hx31_1 : World.cell? _ ⟨go31, (t196 : Int).toNat * 3 + 1, none⟩ = some (.int .i64 ((rd_T104 t207 t196).f1)) := hcc31 1 _ rfl
     have hx31_2 : World.cell? _ ⟨go31, (t196 : Int).toNat * 3 + 2, none⟩ = some (.int .i64 ((rd_T104 t207 t196).f2)) := hcc31 2 _ rfl
     have hf31_0 : World.frozen? _ ⟨go31, (t196 : Int).toNat * 3, none⟩ = false := hfr31 0
     have hf31_1 : World.frozen? _ ⟨go31, (t196 : Int).toNat * 3 + 1, none⟩ = false := hfr31 1
     have hf31_2 : World.frozen? _ ⟨go31, (t196 : Int).toNat * 3 + 2, none⟩ = false := hfr31 2
     clear hcl31 hcc31 hfr31; (try clear hM31)
     replace p31 := eq_true p31
     replace q31 := eq_true q31
     obtain ⟨ce47, hcl47, hM47, hcc47, hfr47⟩ := Kd.R_elem HO209.out z104 (t196 : Int) q_d (by have h_ : (t196 : Int) < ((t207.length : Int) : Int) := q_d; first | exact h_ | (have e_ := (Kd.R_reads' HO209.out).1; omega) | simpa using h_)
     obtain rfl := k104_openM hM47
     have HP47 := (Kd.R_seg HO209.out (t196 : Int) q_d (by have h_ : (t196 : Int) < ((t207.length : Int) : Int) := q_d; first | exact h_ | (have e_ := (Kd.R_reads' HO209.out).1; omega) | simpa using h_) (seg := [.int .i64 (wrap64 (((rd_T104 t207 t196).f2) + a1_3))]) (j := 2) hcl47 hcc47 (show 3 ≤ 3 from by decide) (x' := (⟨(rd_T104 t207 t196).f0, (rd_T104 t207 t196).f1, wrap64 (((rd_T104 t207 t196).f2) + a1_3)⟩ : S104)) (k104_mkM _ _ _ (⟨(rd_T104 t207 t196).f0, (rd_T104 t207 t196).f1, wrap64 (((rd_T104 t207 t196).f2) + a1_3)⟩ : S104) ) (fun _ hk => hk)).1
     rw [← Ny211.out] at HP47
     have HQ47 := Aside0.mk HP47
     clear hcl47 hcc47 hfr47 HP47; (try clear hM47)
     refine start_ (n := 11) (S := fun w' => w'.cell? ⟨gb192, 0, none⟩ = some (.int .i64 a1_0) ∧ w'.cell? ⟨gb192, 1, none⟩ = some (.int .i64 a1_1) ∧ w'.cell? ⟨gb192, 2, none⟩ = some (.int .i64 a1_2) ∧ w'.cell? ⟨gb192, 3, none⟩ = some (.int .i64 a1_3) ∧ w'.cell? ⟨go31, ((t196).toNat * 3), none⟩ = some (.int .i64 ((rd_T104 t207 t196).f0)) ∧ w'.cell? ⟨go31, ((t196).toNat * 3) + 1, none⟩ = some (.int .i64 ((rd_T104 t207 t196).f1)) ∧ w'.cell? ⟨go31, ((t196).toNat * 3) + 2, none⟩ = some (.int .i64 ((rd_T104 t207 t196).f2))) (ds := [10]) #[false, false, false, false, false, false, false, false, false, false, false] (by kernel_rfl) rfl rfl ⟨q_z BK192.out 0, q_z BK192.out 1, q_z BK192.out 2, q_z BK192.out 3, hx210_0, hx210_1, hx210_2⟩ (fun hHeld => ?_); refine with_tabW impl_added.tab5 impl_added.bits5 (fun HT_ HW_ => ?_)
     generalize w44.drew = w45 at HO209 BK192 HB GG31 HQ47 hf31_0 hf31_1 hf31_2 hx210_0 hx210_1 hx210_2 hx31_0 hx31_1 hx31_2 hHeld ⊢
     refine q_p 0 (some 31) #[true, false, false, false, false, false, false, false, false, false, false] HT_.out ?_
     refine q_p 1 (some 32) #[true, true, false, false, false, false, false, false, false, false, false] HT_.out ?_
     refine q_p 2 (some 33) #[true, true, true, false, false, false, false, false, false, false, false] HT_.out ?_
     refine q_p 3 (some 34) #[true, true, true, true, false, false, false, false, false, false, false] HT_.out ?_
     refine q_p 5 (some 36) #[true, true, true, true, false, true, false, false, false, false, false] HT_.out ?_
     refine q_t 4 (some 35) #[true, true, true, true, true, true, false, false, false, false, false] HT_.out HW_.out hHeld ?_
     refine q_t 6 (some 37) #[true, true, true, true, true, true, true, false, false, false, false] HT_.out HW_.out hHeld ?_
     refine q_p 7 (some 38) #[true, true, true, true, true, true, true, true, false, false, false] HT_.out ?_
     refine q_p 8 (some 39) #[true, true, true, true, true, true, true, true, true, false, false] HT_.out ?_
     refine q_p 9 (some 40) #[true, true, true, true, true, true, true, true, true, true, false] HT_.out ?_
     refine last_ (i := 10) (N := none) #[true, true, true, true, true, true, true, true, true, true, true] rfl rfl (one_of HT_.out (by kernel_rfl)) (by decide) (fun K hK => ?_)
     refine skip_ (w1 := ?_) (by rfl) rfl ?_ ?_
     rotate_left
     ·go_simp
      rfl
     refine hK.out _ _ ?_
     clear hK K
     refine done_ (done_of HT_.out (by kernel_rfl)) ?_
     have n0_ : Aside0 (Kd.R k104 104 (w45.setCell ⟨go31, (t196 : Int).toNat * 3 + 2, none⟩ (.int .i64 (wrap64 (((rd_T104 t207 t196).f2) + a1_3)))) w.heap.size (fun _ => True) (.slice (some ⟨go31, 0, none⟩) t207.length co46) y211) := ⟨q_r (HQ47.out)⟩
     have n1_ : Aside0 ((w45.setCell ⟨go31, (t196 : Int).toNat * 3 + 2, none⟩ (.int .i64 (wrap64 (((rd_T104 t207 t196).f2) + a1_3)))).heap[gb192]? = some (.cells #[.int .i64 a1_0, .int .i64 a1_1, .int .i64 a1_2, .int .i64 a1_3] 86 (0, 0))) := ⟨by (with_reducible repeat (first | refine blk_drewN ?_ _ | refine blk_drew ?_ | refine blk_alloc ?_ _)); refine blk_far ?_ (by have h_ := Kd.R_ne HO209.out BK192.out (by decide); intro e_; exact h_ (by rw [e_]; rfl)) _; (with_reducible repeat (first | refine blk_drewN ?_ _ | refine blk_drew ?_ | refine blk_alloc ?_ _)); exact BK192.out⟩
     have n2_ : Aside0 (Below w.heap.size w (w45.setCell ⟨go31, (t196 : Int).toNat * 3 + 2, none⟩ (.int .i64 (wrap64 (((rd_T104 t207 t196).f2) + a1_3))))) := ⟨bq⟩
     (try clear HO209)
     (try clear BK192)
     (try clear HB)
     have hst_ : (w45.setCell ⟨go31, (t196 : Int).toNat * 3 + 2, none⟩ (.int .i64 (wrap64 (((rd_T104 t207 t196).f2) + a1_3)))).cell? ⟨go31, (t196 : Int).toNat * 3 + 2, none⟩ = some (.int .i64 (wrap64 (((rd_T104 t207 t196).f2) + a1_3))) := World.cell?_setCell_same _ _ _ (by assumption)
     generalize (w45.setCell ⟨go31, (t196 : Int).toNat * 3 + 2, none⟩ (.int .i64 (wrap64 (((rd_T104 t207 t196).f2) + a1_3)))) = w48 at n0_ n1_ n2_ hst_ ⊢
     have HO209 := n0_
     have BK192 := n1_
     have HB := n2_
     clear n0_ n1_ n2_
     have p32 : 0 ≤ (t196 : Int) := q_d
     have q32 : (t196 : Int) < ((t207.length : Int) : Int) := q_d
     replace p32 := eq_true p32
     replace q32 := eq_true q32
     try go_wp2_with (first | ((with_reducible refine gate_callee (f := 122) rfl ?_); refine goesLq (some 51) rfl rfl Try.func122 (by kernel_rfl) rfl #[.slice (some ⟨go31, 0, none⟩) t207.length co46, .int .i64 t196, .int .i64 (wrap64 (t196 + 1))] rfl ?_; (with_reducible refine (slices_Delete_impl_Balance.calls (fun k_ => some k_ = (.slice (some ⟨go31, 0, none⟩) t207.length co46 : Value).ownBlock) (.slice (some ⟨go31, 0, none⟩) t207.length co46) y211 t196 (wrap64 (t196 + 1)) t213 w _ ?side1 ?side2 A34.out).mono ?_); (case side1 => repeat (first | (with_reducible first | exact HB.out | apply below_alloc | apply pw_below_drewN | apply below_drew1 | refine below_set ?_ GE192.out) | exact HB.out)); (case side2 => exact Kd.R_tight rfl HO209.out); rintro e w49 ⟨v214, rfl, ho0, hb, hkp⟩; refine ⟨_, rfl, ?_⟩; have n0_ := Aside0.mk (blk_kept kq hkp (fun hs_ => (fun e_ => (Kd.R_ne HO209.out BK192.out (by decide)) e_) hs_)); have n1_ := Aside0.mk (Kd.R_mono (ok' := fun k_ => True) ho0 (fun k_ hk_ => trivial)); have n2_ := Aside0.mk (hb); revert n0_ n1_ n2_; clear BK192 HB HO209; intro BK192 HO215 HB; (try clear hb); (try clear hkp); (try clear ho0)))
     go_ret
     exact ⟨_, q_e, q_r (HO215.out), bq⟩
    ·rw [if_neg c33] at H
     have c33b0 : ((wrap64 (((rd_T104 t207 t196).f2) + a1_3)) == 0) = false := beq_eq_false_iff_ne.mpr c33
     have c33b1 : ((wrap64 (((rd_T104 t207 t196).f2) + a1_3)) != 0) = true := bne_iff_ne.mpr c33
     obtain rfl := Option.some.inj H
     go_enter Try.func102, Try.ntmps102
     try go_wp2_with (first | ((with_reducible refine gate_dst (N := 3) rfl ?_); refine q_box (N := 3) (cs := #[.int .i64 a1_0, .int .i64 a1_1, .int .i64 a1_2, .int .i64 a1_3]) (t := 86) ?_; intro gb192 hg w50 hbox hb; have n0_ := Aside0.mk (below_step bq hb); have n1_ := Aside0.mk (hbox); have n2_ := Aside0.mk ((q_g hg bq : w.heap.size ≤ gb192)); have n3_ := Aside0.mk ((q_g hg bq : w.heap.size ≤ gb192)); revert n0_ n1_ n2_ n3_; clear HB; intro HB BK192 GW192 GE192; clear hb hbox hg) | ((with_reducible refine gate_callee (f := 98) rfl ?_); refine goesLq (some 9) rfl rfl Try.func98 (by kernel_rfl) rfl #[.slice A0 l0.length c0] rfl ?_; (with_reducible refine (slices_Clone_impl_Balance.calls _ _ l0 t193 _ ?side1 ?side2 A3.out).mono ?_); (case side1 => exact q_c ((Kd.C_below HR0.out HB.out))); (case side2 => exact HC0.out); rintro e w51 ⟨v194, rfl, ho0, hb⟩; refine ⟨_, rfl, ?_⟩; have n0_ := Aside0.mk (Kd.R_lower ho0 (below_size bq)); have n1_ := Aside0.mk (blk_below (q_b BK192.out) hb); have n2_ := Aside0.mk (below_step bq hb); revert n0_ n1_ n2_; clear BK192 HB; intro HO195 BK192 HB; (try clear hb); (try clear hb2); (try clear hk); (try clear hi); (try clear ho0); obtain ⟨hcz52_0, hcz52_1, hcz52_2, hcz52_3, hfz52_0, hfz52_1, hfz52_2, hfz52_3⟩ := q_4 BK192.out; obtain ⟨Ao53, co53, eo53⟩ := Kd.R_slice HO195.out; subst eo53) | ((with_reducible refine gate_callee (f := 113) rfl ?_); refine goesLq (some 17) rfl rfl Try.func113 (by kernel_rfl) rfl #[.slice Ao53 t193.length co53, .agg #[.int .i64 a1_1, .int .i64 a1_2, .int .i64 0], .func (.func 84) #[] #[]] rfl ?_; (with_reducible refine (slices_BinarySearchFunc_impl_Balance.calls k _ _ t193 a1_1 a1_2 0 t196 false _ ?side1 ?side2 A4.out).mono ?_); (case side1 => exact q_c ((Kd.R_reads' HO195.out).2.2)); (case side2 => exact (Kd.R_reads' HO195.out).2.1); rintro e w54 ⟨rfl, hb⟩; refine ⟨_, rfl, ?_⟩; have n0_ := Aside0.mk (Kd.R_below (q_r (HO195.out)) hb); have n1_ := Aside0.mk (blk_below (q_b BK192.out) hb); have n2_ := Aside0.mk (below_step bq hb); revert n0_ n1_ n2_; clear HO195 BK192 HB; intro HO195 BK192 HB; (try clear hb); (try clear hb2); (try clear hk); (try clear hi); obtain ⟨hcz55_0, hcz55_1, hcz55_2, hcz55_3, hfz55_0, hfz55_1, hfz55_2, hfz55_3⟩ := q_4 BK192.out) | ((with_reducible refine gate_dst (N := 29) rfl ?_); refine Kd.R_lit k104 _ 104 ?hg (N := 29) ?hd (xs := ([(⟨a1_1, a1_2, 0⟩ : S104)] : List (S104))) (inner := [.int .i64 a1_1, .int .i64 a1_2, .int .i64 0]) (ok := fun _ => True) (okp := fun _ => True) ?hr ?hp (fun _ hk => hk) trivial (Below.refl _ _) (Nat.le_refl _) (by simp) ?_; (case hd => rfl); (case hg => rfl); (case hr => first | (go_simp; done) | (go_simp; rfl)); (case hp => exact (Reps.c3 (show Kd.M k104 _ _ _ (⟨a1_1, a1_2, 0⟩ : S104) [.int .i64 a1_1, .int .i64 a1_2, .int .i64 0] from (k104_mkM _ _ _ (⟨a1_1, a1_2, 0⟩ : S104) )) (Reps.none _ _))); intro v205 w56 ho57 hb hg_ hnew_; clear hg_ hnew_; (first | rw [← Ny204.out] at ho57 | (simp only [Int.reduceToNat] at ho57; rw [← Ny204.out] at ho57)); have n0_ := Aside0.mk (Kd.R_elder' (q_r (HO195.out)) (Kd.R_base ho57) hb); have n1_ := Aside0.mk (Kd.R_lower (Kd.R_new' ho57 (Kd.R_lt (q_r (HO195.out)))) (below_size bq)); have n2_ := Aside0.mk (blk_below (q_b BK192.out) hb); have n3_ := Aside0.mk (below_step bq hb); revert n0_ n1_ n2_ n3_; clear HO195 BK192 HB; intro HO195 HO206 BK192 HB; clear hb ho57; obtain ⟨Ao58, co58, eo58⟩ := Kd.R_slice HO206.out; subst eo58) | ((with_reducible refine gate_callee (f := 121) rfl ?_); refine goesLq (some 30) rfl rfl Try.func121 (by kernel_rfl) rfl #[.slice Ao53 t193.length co53, .int .i64 t196, .slice Ao58 y204.length co58] rfl ?_; (with_reducible refine (slices_Insert_impl_Balance.calls (fun k_ => some k_ = (.slice Ao53 t193.length co53 : Value).ownBlock) (.slice Ao53 t193.length co53) t193 t196 (fun k_ => some k_ = (.slice Ao58 y204.length co58 : Value).ownBlock) (.slice Ao58 y204.length co58) y204 t207 w _ ?side1 ?side2 ?side3 ?side4 ?side5 A28.out).mono ?_); (case side1 => repeat (first | (with_reducible first | exact HB.out | apply below_alloc | apply pw_below_drewN | apply below_drew1 | refine below_set ?_ GE192.out) | exact HB.out)); (case side2 => exact Kd.R_tight rfl HO195.out); (case side3 => exact fun k_ e_ => (HO195.out.1 k_ e_.symm).2); (case side4 => exact Kd.R_tight rfl HO206.out); (case side5 => exact fun k_ e_ => (HO206.out.1 k_ e_.symm).2); rintro e w59 ⟨v208, rfl, ho0, hb, hkp⟩; refine ⟨_, rfl, ?_⟩; have n0_ := Aside0.mk (blk_kept kq hkp (fun hs_ => Or.elim hs_ (fun e_ => (fun e_ => (Kd.R_ne HO195.out BK192.out (by decide)) e_) e_) (fun e_ => (fun e_ => (Kd.R_ne HO206.out BK192.out (by decide)) e_) e_))); have n1_ := Aside0.mk (Kd.R_mono (ok' := fun k_ => True) ho0 (fun k_ hk_ => trivial)); have n2_ := Aside0.mk (hb); revert n0_ n1_ n2_; clear BK192 HB HO195 HO206; intro BK192 HO209 HB; (try clear hb); (try clear hkp); (try clear ho0)))
     have n0_ := Aside0.mk (Kd.R_drew HO209.out)
     have n1_ := Aside0.mk (blk_drew BK192.out)
     have n2_ := Aside0.mk (below_drew1 HB.out)
     clear HO209
     clear BK192
     clear HB
     have HO209 := n0_
     have BK192 := n1_
     have HB := n2_
     clear n0_ n1_ n2_
     obtain ⟨Ao61, co61, eo61⟩ := Kd.R_slice HO209.out
     (first | subst eo61 | (injection eo61 with f1_ f2_ f3_; have f4_ := f1_.symm; have f5_ := f3_.symm; clear f1_ f2_ f3_; subst f4_; subst f5_))
     have p210 : 0 ≤ (t196 : Int) := q_d
     have q210 : t196 < (t207.length : Int) := q_d
     obtain ⟨ad210, e210, hx210_0, hx210_1, hx210_2⟩ := at_T104 (Kd.R_reads' HO209.out).2.2 t196 p210 q210
     cases e210
     replace p210 := eq_true p210
     replace q210 := eq_true q210
     have p31 : 0 ≤ (t196 : Int) := q_d
     have q31 : (t196 : Int) < ((t207.length : Int) : Int) := q_d
     obtain ⟨go31, co31, eo31, gb31, gl31, cl31, HG31⟩ := Kd.R_form HO209.out (by omega)
     (first | cases eo31 | (injection eo31 with ea_ en_ ec_; (first | subst ea_ | (injection ea_ with ea_; subst ea_)); subst ec_; clear en_))
     have GB31 := Aside0.mk gb31
     have GG31 := Aside0.mk HG31
     clear gb31 gl31 HG31
     (first | simp only [add_plain] at hx210_0 | skip)
     (first | simp only [add_plain] at hx210_1 | skip)
     (first | simp only [add_plain] at hx210_2 | skip)
     obtain ⟨ce31, hcl31, hM31, hcc31, hfr31⟩ := Kd.R_elem HO209.out z104 (t196 : Int) p31 q31
     obtain rfl := k104_openM hM31
     have hx31_0 : World.cell? _ ⟨go31, (t196 : Int).toNat * 3, none⟩ = some (.int .i64 ((rd_T104 t207 t196).f0)) := hcc31 0 _ rfl
     have hx31_1 : World.cell? _ ⟨go31, (t196 : Int).toNat * 3 + 1, none⟩ = some (.int .i64 ((rd_T104 t207 t196).f1)) := hcc31 1 _ rfl
     have hx31_2 : World.cell? _ ⟨go31, (t196 : Int).toNat * 3 + 2, none⟩ = some (.int .i64 ((rd_T104 t207 t196).f2)) := hcc31 2 _ rfl
     have hf31_0 : World.frozen? _ ⟨go31, (t196 : Int).toNat * 3, none⟩ = false := hfr31 0
     have hf31_1 : World.frozen? _ ⟨go31, (t196 : Int).toNat * 3 + 1, none⟩ = false := hfr31 1
     have hf31_2 : World.frozen? _ ⟨go31, (t196 : Int).toNat * 3 + 2, none⟩ = false := hfr31 2
     clear hcl31 hcc31 hfr31; (try clear hM31)
     replace p31 := eq_true p31
     replace q31 := eq_true q31
     obtain ⟨ce62, hcl62, hM62, hcc62, hfr62⟩ := Kd.R_elem HO209.out z104 (t196 : Int) q_d (by have h_ : (t196 : Int) < ((t207.length : Int) : Int) := q_d; first | exact h_ | (have e_ := (Kd.R_reads' HO209.out).1; omega) | simpa using h_)
     obtain rfl := k104_openM hM62
     have HP62 := (Kd.R_seg HO209.out (t196 : Int) q_d (by have h_ : (t196 : Int) < ((t207.length : Int) : Int) := q_d; first | exact h_ | (have e_ := (Kd.R_reads' HO209.out).1; omega) | simpa using h_) (seg := [.int .i64 (wrap64 (((rd_T104 t207 t196).f2) + a1_3))]) (j := 2) hcl62 hcc62 (show 3 ≤ 3 from by decide) (x' := (⟨(rd_T104 t207 t196).f0, (rd_T104 t207 t196).f1, wrap64 (((rd_T104 t207 t196).f2) + a1_3)⟩ : S104)) (k104_mkM _ _ _ (⟨(rd_T104 t207 t196).f0, (rd_T104 t207 t196).f1, wrap64 (((rd_T104 t207 t196).f2) + a1_3)⟩ : S104) ) (fun _ hk => hk)).1
     rw [← Ny211.out] at HP62
     have HQ62 := Aside0.mk HP62
     clear hcl62 hcc62 hfr62 HP62; (try clear hM62)
     refine start_ (n := 11) (S := fun w' => w'.cell? ⟨gb192, 0, none⟩ = some (.int .i64 a1_0) ∧ w'.cell? ⟨gb192, 1, none⟩ = some (.int .i64 a1_1) ∧ w'.cell? ⟨gb192, 2, none⟩ = some (.int .i64 a1_2) ∧ w'.cell? ⟨gb192, 3, none⟩ = some (.int .i64 a1_3) ∧ w'.cell? ⟨go31, ((t196).toNat * 3), none⟩ = some (.int .i64 ((rd_T104 t207 t196).f0)) ∧ w'.cell? ⟨go31, ((t196).toNat * 3) + 1, none⟩ = some (.int .i64 ((rd_T104 t207 t196).f1)) ∧ w'.cell? ⟨go31, ((t196).toNat * 3) + 2, none⟩ = some (.int .i64 ((rd_T104 t207 t196).f2))) (ds := [10]) #[false, false, false, false, false, false, false, false, false, false, false] (by kernel_rfl) rfl rfl ⟨q_z BK192.out 0, q_z BK192.out 1, q_z BK192.out 2, q_z BK192.out 3, hx210_0, hx210_1, hx210_2⟩ (fun hHeld => ?_); refine with_tabW impl_added.tab5 impl_added.bits5 (fun HT_ HW_ => ?_)
     generalize w59.drew = w60 at HO209 BK192 HB GG31 HQ62 hf31_0 hf31_1 hf31_2 hx210_0 hx210_1 hx210_2 hx31_0 hx31_1 hx31_2 hHeld ⊢
     refine q_p 0 (some 31) #[true, false, false, false, false, false, false, false, false, false, false] HT_.out ?_
     refine q_p 1 (some 32) #[true, true, false, false, false, false, false, false, false, false, false] HT_.out ?_
     refine q_p 2 (some 33) #[true, true, true, false, false, false, false, false, false, false, false] HT_.out ?_
     refine q_p 3 (some 34) #[true, true, true, true, false, false, false, false, false, false, false] HT_.out ?_
     refine q_p 5 (some 36) #[true, true, true, true, false, true, false, false, false, false, false] HT_.out ?_
     refine q_t 4 (some 35) #[true, true, true, true, true, true, false, false, false, false, false] HT_.out HW_.out hHeld ?_
     refine q_t 6 (some 37) #[true, true, true, true, true, true, true, false, false, false, false] HT_.out HW_.out hHeld ?_
     refine q_p 7 (some 38) #[true, true, true, true, true, true, true, true, false, false, false] HT_.out ?_
     refine q_p 8 (some 39) #[true, true, true, true, true, true, true, true, true, false, false] HT_.out ?_
     refine q_p 9 (some 40) #[true, true, true, true, true, true, true, true, true, true, false] HT_.out ?_
     refine last_ (i := 10) (N := none) #[true, true, true, true, true, true, true, true, true, true, true] rfl rfl (one_of HT_.out (by kernel_rfl)) (by decide) (fun K hK => ?_)
     refine skip_ (w1 := ?_) (by rfl) rfl ?_ ?_
     rotate_left
     ·go_simp
      rfl
     refine hK.out _ _ ?_
     clear hK K
     refine done_ (done_of HT_.out (by kernel_rfl)) ?_
     have p32 : 0 ≤ (t196 : Int) := q_d
     have q32 : (t196 : Int) < ((t207.length : Int) : Int) := q_d
     replace p32 := eq_true p32
     replace q32 := eq_true q32
     try go_wp2
     go_ret
     exact ⟨_, q_e, q_r (HQ62.out), bq⟩
   ·rw [if_neg c30] at H
    exact absurd H (by simp)
  ·rw [if_neg c29] at H
   exact absurd H (by simp)

end Go.Proofs.Ytanegggacfmkcaa.PFnExactSettleOne
