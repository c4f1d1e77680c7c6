/- Functions that a law reaches, as plain Lean functions, with the proof that the machine comes to their answers. No conditions. -/
import Derived.Test.YtanegggacfmkcaaPFnExactSettleAllx0
import Derived.Test.YtanegggacfmkcaaPFnExactSettleAllx3
import Derived.Test.YtanegggacfmkcaaPFnExactSettleAllx4
import Derived.Test.YtanegggacfmkcaaPFnExactSettleAllx5
namespace Go.Proofs.Ytanegggacfmkcaa.PFnExactSettleAll
open Go.RowKit Go.Proofs.YtanegggacfmkcaaW.PrintWords Go.Proofs.YtanegggacfmkcaaW.PrintLast Go.Proofs.YtanegggacfmkcaaW.PrintMore
attribute [local go_sem] max2_int min2_int max_two min_two max_three min_three max_four min_four   -- for this text's walks alone
set_option linter.unusedVariables false
set_option linter.unusedSimpArgs false
set_option maxHeartbeats 8000000
set_option maxRecDepth 100000

/-! ### impl_legCode: function 101 -/
def impl_legCode.f (k : Nat) (l0 : List (S104)) (a1_0 : Int) (a1_1 : Int) (a1_2 : Int) (a1_3 : Int) : Option (Int) := (impl_amountIn.f k l0 a1_1 a1_2).bind fun t174 => (if (wrap64 (t174 + a1_3)) < 0 then (some 6) else (if (wrap64 (t174 + a1_3)) > 1000000000000 then (some 3) else (some 0)))
def impl_legCode.T1 : Bool × List (List Nat × List Nat) := (true, [([], []), ([], []), ([1], [1]), ([], []), ([3], [3]), ([0, 2, 4], [0, 2, 4]), ([], []), ([6], [6]), ([5, 7], [5, 7]), ([8, 5, 0, 1, 2, 3, 4, 5, 6, 7, 8], [8])])
def impl_legCode.B1 : List Nat := [0, 0, 2, 0, 8, 31, 0, 64, 255, 511]
theorem impl_legCode.tab1 : rtab .any (opsOf Try.f101 1) = impl_legCode.T1 := by kernel_rfl
theorem impl_legCode.bits1 : waitsOk impl_legCode.T1.2 impl_legCode.B1 = true := by kernel_rfl
theorem impl_legCode.calls (k : Nat) (A0 : Option Addr) (c0 : Nat) (l0 : List (S104)) (a1_0 : Int) (a1_1 : Int) (a1_2 : Int) (a1_3 : Int) (r : Int) (w : World) (hr0 : Kd.C k104 w A0 l0.length l0) (hc0 : l0.length ≤ c0) (h : impl_legCode.f k l0 a1_0 a1_1 a1_2 a1_3 = some r) :
  Calls Try.prog 101 #[.slice A0 l0.length c0, .agg #[.int .i64 a1_0, .int .i64 a1_1, .int .i64 a1_2, .int .i64 a1_3]] w fun e w' => e = .returned (.int .i64 r) ∧ Below w.heap.size w w' := by
 have hu86 := Try.underlying86
 have HR0 := am hr0
 have HC0 := am hc0
 clear hr0 hc0
 have HB := am (Below.refl w.heap.size w)
 have H : ((impl_amountIn.f k l0 a1_1 a1_2).bind fun t174 => (if (wrap64 (t174 + a1_3)) < 0 then (some 6) else (if (wrap64 (t174 + a1_3)) > 1000000000000 then (some 3) else (some 0)))) = some r := h
 clear h
 replace H := ob H
 obtain ⟨t174, A30, H⟩ := H
 replace H : (if (wrap64 (t174 + a1_3)) < 0 then (some 6) else (if (wrap64 (t174 + a1_3)) > 1000000000000 then (some 3) else (some 0))) = some r := H
 have A3 := am A30
 clear A30
 by_cases c4 : (wrap64 (t174 + a1_3)) < 0
 ·rw [if_pos c4] at H
  have c4b0 := decide_eq_true c4
  clear c4
  obtain rfl := Option.some.inj H
  go_enter Try.func101, Try.ntmps101
  try go_wp2_with (first | ((with_reducible refine gate_dst (N := 3) rfl ?_); refine q_box (N := 3) (cs := #[.int .i64 a1_0, .int .i64 a1_1, .int .i64 a1_2, .int .i64 a1_3]) (t := 86) ?_; intro gb173 hg w5 hbox hb; have n0_ := am (below_step bq hb); have n1_ := am (hbox); have n2_ := am ((q_g hg bq : w.heap.size ≤ gb173)); have n3_ := n2_; revert n0_ n1_ n2_ n3_; clear HB; intro HB BK173 GW173 GE173; clear hb hbox hg))
  have n0_ := am (blk_drew BK173.out)
  have n1_ := am (below_drew1 HB.out)
  clear BK173
  clear HB
  have BK173 := n0_
  have HB := n1_
  clear n0_ n1_
  refine start_ (n := 10) (S := fun w' => w'.cell? ⟨gb173, 0, none⟩ = some (.int .i64 a1_0) ∧ w'.cell? ⟨gb173, 1, none⟩ = some (.int .i64 a1_1) ∧ w'.cell? ⟨gb173, 2, none⟩ = some (.int .i64 a1_2) ∧ w'.cell? ⟨gb173, 3, none⟩ = some (.int .i64 a1_3)) (ds := []) #[false, false, false, false, false, false, false, false, false, false] (by kernel_rfl) rfl rfl ⟨q_z BK173.out 0, q_z BK173.out 1, q_z BK173.out 2, q_z BK173.out 3⟩ (fun hHeld => ?_); refine with_tabW impl_legCode.tab1 impl_legCode.bits1 (fun HT_ HW_ => ?_)
  generalize w5.drew = w6 at BK173 HB hHeld ⊢
  refine q_p 0 (some 6) #[true, false, false, false, false, false, false, false, false, false] HT_.out ?_
  refine q_p 1 (some 7) #[true, true, false, false, false, false, false, false, false, false] HT_.out ?_
  refine q_p 3 (some 9) #[true, true, false, true, false, false, false, false, false, false] HT_.out ?_
  refine q_p 6 (some 12) #[true, true, false, true, false, false, true, false, false, false] HT_.out ?_
  refine q_t 2 (some 8) #[true, true, true, true, false, false, true, false, false, false] HT_.out HW_.out hHeld ?_
  refine q_t 4 (some 10) #[true, true, true, true, true, false, true, false, false, false] HT_.out HW_.out hHeld ?_
  refine q_t 7 (some 13) #[true, true, true, true, true, false, true, true, false, false] HT_.out HW_.out hHeld ?_
  refine one_ (i := 5) (N := some 11) #[true, true, true, true, true, true, true, true, false, false] rfl rfl (one_of HT_.out (by kernel_rfl)) (by decide) (fun K hK => ?_)
  refine goes_ Try.func90 (by kernel_rfl) rfl #[.slice A0 l0.length c0, .int .i64 a1_1, .int .i64 a1_2] (by rfl) rfl rfl (by (try simp only [List.map_toArray, List.map_cons, List.map_nil]); first | done | rfl | (simp only [List.length_drop, List.length_take]; rfl)) ?_
  with_reducible refine (impl_amountIn.calls k _ _ l0 a1_1 a1_2 t174 _ ?side1 ?side2 A3.out).mono ?_
  (case side1 => exact q_c ((Kd.C_below HR0.out HB.out)))
  (case side2 => exact HC0.out)
  rintro e w7 ⟨rfl, hb⟩
  refine ⟨_, rfl, ?_⟩
  have n0_ := am (blk_below (q_b BK173.out) hb)
  have n1_ := am (below_step bq hb)
  clear BK173
  clear HB
  have BK173 := n0_
  have HB := n1_
  clear n0_ n1_
  (try clear hb)
  (try clear hb2)
  (try clear hk)
  (try clear hi)
  refine hK.out _ _ ⟨q_z BK173.out 0, q_z BK173.out 1, q_z BK173.out 2, q_z BK173.out 3⟩ (fun hHeld => ?_)
  clear hK K
  refine norm_ (a' := ?_) ?_ ?_
  rotate_left
  ·show Act.put _ (some 11) _ = _
   simp only [Act.put, List.setIfInBounds_toArray, List.set_cons_zero, List.set_cons_succ, i64_w, i32_w]
   rfl
  refine q_p 8 (some 14) #[true, true, true, true, true, true, true, true, true, false] HT_.out ?_
  refine q_p 9 (some 5) #[true, true, true, true, true, true, true, true, true, true] HT_.out ?_
  refine done_ (done_of HT_.out (by kernel_rfl)) ?_
  try go_wp2
  go_ret
  exact ⟨q_e, bq⟩
 ·rw [if_neg c4] at H
  have c4b0 := decide_eq_false c4
  clear c4
  by_cases c8 : (wrap64 (t174 + a1_3)) > 1000000000000
  ·rw [if_pos c8] at H
   have c8b0 := decide_eq_true c8
   clear c8
   obtain rfl := Option.some.inj H
   go_enter Try.func101, Try.ntmps101
   try go_wp2_with (first | ((with_reducible refine gate_dst (N := 3) rfl ?_); refine q_box (N := 3) (cs := #[.int .i64 a1_0, .int .i64 a1_1, .int .i64 a1_2, .int .i64 a1_3]) (t := 86) ?_; intro gb173 hg w9 hbox hb; have n0_ := am (below_step bq hb); have n1_ := am (hbox); have n2_ := am ((q_g hg bq : w.heap.size ≤ gb173)); have n3_ := n2_; revert n0_ n1_ n2_ n3_; clear HB; intro HB BK173 GW173 GE173; clear hb hbox hg))
   have n0_ := am (blk_drew BK173.out)
   have n1_ := am (below_drew1 HB.out)
   clear BK173
   clear HB
   have BK173 := n0_
   have HB := n1_
   clear n0_ n1_
   refine start_ (n := 10) (S := fun w' => w'.cell? ⟨gb173, 0, none⟩ = some (.int .i64 a1_0) ∧ w'.cell? ⟨gb173, 1, none⟩ = some (.int .i64 a1_1) ∧ w'.cell? ⟨gb173, 2, none⟩ = some (.int .i64 a1_2) ∧ w'.cell? ⟨gb173, 3, none⟩ = some (.int .i64 a1_3)) (ds := []) #[false, false, false, false, false, false, false, false, false, false] (by kernel_rfl) rfl rfl ⟨q_z BK173.out 0, q_z BK173.out 1, q_z BK173.out 2, q_z BK173.out 3⟩ (fun hHeld => ?_); refine with_tabW impl_legCode.tab1 impl_legCode.bits1 (fun HT_ HW_ => ?_)
   generalize w9.drew = w10 at BK173 HB hHeld ⊢
   refine q_p 0 (some 6) #[true, false, false, false, false, false, false, false, false, false] HT_.out ?_
   refine q_p 1 (some 7) #[true, true, false, false, false, false, false, false, false, false] HT_.out ?_
   refine q_p 3 (some 9) #[true, true, false, true, false, false, false, false, false, false] HT_.out ?_
   refine q_p 6 (some 12) #[true, true, false, true, false, false, true, false, false, false] HT_.out ?_
   refine q_t 2 (some 8) #[true, true, true, true, false, false, true, false, false, false] HT_.out HW_.out hHeld ?_
   refine q_t 4 (some 10) #[true, true, true, true, true, false, true, false, false, false] HT_.out HW_.out hHeld ?_
   refine q_t 7 (some 13) #[true, true, true, true, true, false, true, true, false, false] HT_.out HW_.out hHeld ?_
   refine one_ (i := 5) (N := some 11) #[true, true, true, true, true, true, true, true, false, false] rfl rfl (one_of HT_.out (by kernel_rfl)) (by decide) (fun K hK => ?_)
   refine goes_ Try.func90 (by kernel_rfl) rfl #[.slice A0 l0.length c0, .int .i64 a1_1, .int .i64 a1_2] (by rfl) rfl rfl (by (try simp only [List.map_toArray, List.map_cons, List.map_nil]); first | done | rfl | (simp only [List.length_drop, List.length_take]; rfl)) ?_
   with_reducible refine (impl_amountIn.calls k _ _ l0 a1_1 a1_2 t174 _ ?side1 ?side2 A3.out).mono ?_
   (case side1 => exact q_c ((Kd.C_below HR0.out HB.out)))
   (case side2 => exact HC0.out)
   rintro e w11 ⟨rfl, hb⟩
   refine ⟨_, rfl, ?_⟩
   have n0_ := am (blk_below (q_b BK173.out) hb)
   have n1_ := am (below_step bq hb)
   clear BK173
   clear HB
   have BK173 := n0_
   have HB := n1_
   clear n0_ n1_
   (try clear hb)
   (try clear hb2)
   (try clear hk)
   (try clear hi)
   refine hK.out _ _ ⟨q_z BK173.out 0, q_z BK173.out 1, q_z BK173.out 2, q_z BK173.out 3⟩ (fun hHeld => ?_)
   clear hK K
   refine norm_ (a' := ?_) ?_ ?_
   rotate_left
   ·show Act.put _ (some 11) _ = _
    simp only [Act.put, List.setIfInBounds_toArray, List.set_cons_zero, List.set_cons_succ, i64_w, i32_w]
    rfl
   refine q_p 8 (some 14) #[true, true, true, true, true, true, true, true, true, false] HT_.out ?_
   refine q_p 9 (some 5) #[true, true, true, true, true, true, true, true, true, true] HT_.out ?_
   refine done_ (done_of HT_.out (by kernel_rfl)) ?_
   try go_wp2
   go_ret
   exact ⟨q_e, bq⟩
  ·rw [if_neg c8] at H
   have c8b0 := decide_eq_false c8
   clear c8
   obtain rfl := Option.some.inj H
   go_enter Try.func101, Try.ntmps101
   try go_wp2_with (first | ((with_reducible refine gate_dst (N := 3) rfl ?_); refine q_box (N := 3) (cs := #[.int .i64 a1_0, .int .i64 a1_1, .int .i64 a1_2, .int .i64 a1_3]) (t := 86) ?_; intro gb173 hg w12 hbox hb; have n0_ := am (below_step bq hb); have n1_ := am (hbox); have n2_ := am ((q_g hg bq : w.heap.size ≤ gb173)); have n3_ := n2_; revert n0_ n1_ n2_ n3_; clear HB; intro HB BK173 GW173 GE173; clear hb hbox hg))
   have n0_ := am (blk_drew BK173.out)
   have n1_ := am (below_drew1 HB.out)
   clear BK173
   clear HB
   have BK173 := n0_
   have HB := n1_
   clear n0_ n1_
   refine start_ (n := 10) (S := fun w' => w'.cell? ⟨gb173, 0, none⟩ = some (.int .i64 a1_0) ∧ w'.cell? ⟨gb173, 1, none⟩ = some (.int .i64 a1_1) ∧ w'.cell? ⟨gb173, 2, none⟩ = some (.int .i64 a1_2) ∧ w'.cell? ⟨gb173, 3, none⟩ = some (.int .i64 a1_3)) (ds := []) #[false, false, false, false, false, false, false, false, false, false] (by kernel_rfl) rfl rfl ⟨q_z BK173.out 0, q_z BK173.out 1, q_z BK173.out 2, q_z BK173.out 3⟩ (fun hHeld => ?_); refine with_tabW impl_legCode.tab1 impl_legCode.bits1 (fun HT_ HW_ => ?_)
   generalize w12.drew = w13 at BK173 HB hHeld ⊢
   refine q_p 0 (some 6) #[true, false, false, false, false, false, false, false, false, false] HT_.out ?_
   refine q_p 1 (some 7) #[true, true, false, false, false, false, false, false, false, false] HT_.out ?_
   refine q_p 3 (some 9) #[true, true, false, true, false, false, false, false, false, false] HT_.out ?_
   refine q_p 6 (some 12) #[true, true, false, true, false, false, true, false, false, false] HT_.out ?_
   refine q_t 2 (some 8) #[true, true, true, true, false, false, true, false, false, false] HT_.out HW_.out hHeld ?_
   refine q_t 4 (some 10) #[true, true, true, true, true, false, true, false, false, false] HT_.out HW_.out hHeld ?_
   refine q_t 7 (some 13) #[true, true, true, true, true, false, true, true, false, false] HT_.out HW_.out hHeld ?_
   refine one_ (i := 5) (N := some 11) #[true, true, true, true, true, true, true, true, false, false] rfl rfl (one_of HT_.out (by kernel_rfl)) (by decide) (fun K hK => ?_)
   refine goes_ Try.func90 (by kernel_rfl) rfl #[.slice A0 l0.length c0, .int .i64 a1_1, .int .i64 a1_2] (by rfl) rfl rfl (by (try simp only [List.map_toArray, List.map_cons, List.map_nil]); first | done | rfl | (simp only [List.length_drop, List.length_take]; rfl)) ?_
   with_reducible refine (impl_amountIn.calls k _ _ l0 a1_1 a1_2 t174 _ ?side1 ?side2 A3.out).mono ?_
   (case side1 => exact q_c ((Kd.C_below HR0.out HB.out)))
   (case side2 => exact HC0.out)
   rintro e w14 ⟨rfl, hb⟩
   refine ⟨_, rfl, ?_⟩
   have n0_ := am (blk_below (q_b BK173.out) hb)
   have n1_ := am (below_step bq hb)
   clear BK173
   clear HB
   have BK173 := n0_
   have HB := n1_
   clear n0_ n1_
   (try clear hb)
   (try clear hb2)
   (try clear hk)
   (try clear hi)
   refine hK.out _ _ ⟨q_z BK173.out 0, q_z BK173.out 1, q_z BK173.out 2, q_z BK173.out 3⟩ (fun hHeld => ?_)
   clear hK K
   refine norm_ (a' := ?_) ?_ ?_
   rotate_left
   ·show Act.put _ (some 11) _ = _
    simp only [Act.put, List.setIfInBounds_toArray, List.set_cons_zero, List.set_cons_succ, i64_w, i32_w]
    rfl
   refine q_p 8 (some 14) #[true, true, true, true, true, true, true, true, true, false] HT_.out ?_
   refine q_p 9 (some 5) #[true, true, true, true, true, true, true, true, true, true] HT_.out ?_
   refine done_ (done_of HT_.out (by kernel_rfl)) ?_
   try go_wp2
   go_ret
   exact ⟨q_e, bq⟩

/-! ### impl_canSettle: function 61 -/
theorem CL_100.size (A0 : Option Addr) (c0 n : Nat) (w : World) : Calls Try.prog 66 #[.slice A0 n c0] w fun e w' => e = .returned (.int .i64 n) ∧ Drawn0 w w' := by
  go_enter Try.func66, Try.ntmps66
  go_wp2
  go_ret
  exact ⟨rfl, q_0⟩
@[reducible] def CL_100.p (y0_ : List (List (S104))) : FN_slices_IndexFunc_impl_Leg := ⟨fun x0_ x1_ x2_ x3_ => some (decide (x0_ ≥ (y0_.length : Int)))⟩
def CL_100.f (k : Nat) (l0 : List (S86)) (y0_ : List (List (S104))) : Option Bool := @slices_ContainsFunc_impl_Leg.f (CL_100.p y0_) k l0
theorem CL_100.closure (x0_ : Int) (x1_ : Int) (x2_ : Int) (x3_ : Int) (Ay0_ : Option Addr) (cy0_ : Nat) (y0_ : List (List (S104))) (g0 : Nat) (W : World) (hg0 : W.heap[g0]? = some (.cells #[.slice Ay0_ y0_.length cy0_] 26 (0, 0))) :
  Calls Try.prog 100 #[.agg #[.int .i64 x0_, .int .i64 x1_, .int .i64 x2_, .int .i64 x3_], .pointer (some ⟨g0, 0, none⟩)] W fun e w' => e = .returned (.bool (decide (x0_ ≥ (y0_.length : Int)))) ∧ Below W.heap.size W w' := by
 have hu86 := Try.underlying86
 have hu26 := Try.underlying26
 have HB := am (Below.refl W.heap.size W)
 have BK := am hg0
 clear hg0
 go_enter Try.func100, Try.ntmps100
 go_wp2_with (first | ((with_reducible refine gate_dst (N := 2) rfl ?_); refine q_box (N := 2) (cs := #[.int .i64 x0_, .int .i64 x1_, .int .i64 x2_, .int .i64 x3_]) (t := 86) ?_; intro gb_ hg_ w3 hbox hb; have n0_ := am (blk_below (g := g0) (o := .cells #[.slice Ay0_ y0_.length cy0_] 26 (0, 0)) (q_b BK.out) hb); have n1_ := am (below_step bq hb); have n2_ := am hbox; revert n0_ n1_ n2_; clear BK HB; intro BK HB BN; clear hb hbox hg_; have hcx0 : w3.cell? ⟨gb_, 0, none⟩ = some (.int .i64 x0_) := (blk_cell BN.out 0).trans rfl; have hcy0 : w3.cell? ⟨g0, 0, none⟩ = some (.slice Ay0_ y0_.length cy0_) := (blk_cell BK.out 0).trans rfl; have hfx0 := blk_frozen BN.out 0; have hfy0 := blk_frozen BK.out 0))
 go_quiet (first | (go_at_call 66; (with_reducible refine (CL_100.size Ay0_ cy0_ y0_.length _).mono ?_); rintro e w' ⟨rfl, ⟨nd, rfl⟩⟩; (try first | exact ⟨rfl, _, World.drewN_drewN _ _ _⟩ | exact ⟨rfl, _, Eq.trans (World.drewN_drewN _ _ _) (congrArg (World.drewN _) (Nat.add_assoc _ _ _))⟩)))
 try go_wp2
 go_ret
 exact ⟨by first | rfl | (simp; done), bq⟩

theorem CL_100.calls (k : Nat) (A0 : Option Addr) (c0 : Nat) (l0 : List (S86)) (Ay0_ : Option Addr) (cy0_ : Nat) (y0_ : List (List (S104))) (r : Bool) (w : World) (hr0 : Kd.C k86 w A0 l0.length l0) (hc0 : l0.length ≤ c0) (hry0_ : Kd.C (Kd.slice 104 k104) w Ay0_ y0_.length y0_) (hcy0_ : y0_.length ≤ cy0_) (h : CL_100.f k l0 y0_ = some r) (g0 : Nat) (hg0 : w.heap[g0]? = some (.cells #[.slice Ay0_ y0_.length cy0_] 26 (0, 0))) :
  Calls Try.prog 99 #[.slice A0 l0.length c0, .func (.func 100) #[] #[.pointer (some ⟨g0, 0, none⟩)]] w fun e w' => e = .returned (.bool r) ∧ Below w.heap.size w w' :=
 @slices_ContainsFunc_impl_Leg.calls (CL_100.p y0_) k A0 c0 l0 r w hr0 hc0 h 100 Try.f100 #[.pointer (some ⟨g0, 0, none⟩)] Try.func100 (by kernel_rfl) rfl (fun x0_ x1_ x2_ x3_ r W hf hb => by
  have hf2 := Option.some.inj hf
  subst hf2
  exact CL_100.closure x0_ x1_ x2_ x3_ Ay0_ cy0_ y0_ g0 W (blk_below hg0 hb))
def impl_canSettle.l0 : Nat → List (S86) → Int → Int → List (List (S104)) → Option (Int)
 | 0, _, _, _, _ => none
 | k + 1, x19, x20, x21, x176000 => if x21 < x20 then (if 0 ≤ x21 then (if x21 < (x19.length : Int) then (if 0 ≤ ((rd_T86 x19 x21).f0) then (if ((rd_T86 x19 x21).f0) < (x176000.length : Int) then ((impl_legCode.f k (rd_L2 x176000 ((rd_T86 x19 x21).f0)) ((rd_T86 x19 x21).f0) ((rd_T86 x19 x21).f1) ((rd_T86 x19 x21).f2) ((rd_T86 x19 x21).f3)).bind fun t182 => (if t182 = 0 then (impl_canSettle.l0 k x19 x20 (wrap64 (x21 + 1)) x176000) else (some t182))) else (none)) else (none)) else (none)) else (none)) else (some 0)
def impl_canSettle.f (k : Nat) (l0_0 : List (List (S104))) (a1_0 : Int) (l1_1 : List (S86)) : Option (Int) := (impl_ContractFault.f k a1_0 l1_1).bind fun t177 => (if t177 = 0 then ((CL_100.f k l1_1 l0_0).bind fun t178 => (if t178 = true then (some 4) else (impl_canSettle.l0 k l1_1 (l1_1.length : Int) 0 l0_0))) else (some t177))
def impl_canSettle.T9 : Bool × List (List Nat × List Nat) := (true, [([], []), ([0], [0]), ([], []), ([2], [2]), ([1, 3], [1, 3]), ([4], [4]), ([], []), ([5, 6], [5, 6]), ([7, 7, 0, 1, 2, 3, 4, 5, 6, 7], [7])])
def impl_canSettle.B9 : List Nat := [0, 1, 0, 4, 15, 31, 0, 127, 255]
theorem impl_canSettle.tab9 : rtab .any (opsOf Try.f61 9) = impl_canSettle.T9 := by kernel_rfl
theorem impl_canSettle.bits9 : waitsOk impl_canSettle.T9.2 impl_canSettle.B9 = true := by kernel_rfl
theorem impl_canSettle.calls (k : Nat) (A0_0 : Option Addr) (c0_0 : Nat) (l0_0 : List (List (S104))) (a1_0 : Int) (A1_1 : Option Addr) (c1_1 : Nat) (l1_1 : List (S86)) (r : Int) (w : World) (hr0_0 : Kd.C (Kd.slice 104 k104) w A0_0 l0_0.length l0_0) (hc0_0 : l0_0.length ≤ c0_0) (hr1_1 : Kd.C k86 w A1_1 l1_1.length l1_1) (hc1_1 : l1_1.length ≤ c1_1) (h : impl_canSettle.f k l0_0 a1_0 l1_1 = some r) :
  Calls Try.prog 61 #[.agg #[.slice A0_0 l0_0.length c0_0], .agg #[.int .i64 a1_0, .slice A1_1 l1_1.length c1_1]] w fun e w' => e = .returned (.int .i64 r) ∧ Below w.heap.size w w' := by
 have hu26 := Try.underlying26
 have hu40 := Try.underlying40
 have hu86 := Try.underlying86
 have HR0_0 := am hr0_0
 have HC0_0 := am hc0_0
 clear hr0_0 hc0_0
 have HR1_1 := am hr1_1
 have HC1_1 := am hc1_1
 clear hr1_1 hc1_1
 have HB := am (Below.refl w.heap.size w)
 have H : ((impl_ContractFault.f k a1_0 l1_1).bind fun t177 => (if t177 = 0 then ((CL_100.f k l1_1 l0_0).bind fun t178 => (if t178 = true then (some 4) else (impl_canSettle.l0 k l1_1 (l1_1.length : Int) 0 l0_0))) else (some t177))) = some r := h
 clear h
 replace H := ob H
 obtain ⟨t177, A30, H⟩ := H
 replace H : (if t177 = 0 then ((CL_100.f k l1_1 l0_0).bind fun t178 => (if t178 = true then (some 4) else (impl_canSettle.l0 k l1_1 (l1_1.length : Int) 0 l0_0))) else (some t177)) = some r := H
 have A3 := am A30
 clear A30
 by_cases c4 : t177 = 0
 ·rw [if_pos c4] at H
  have c4b0 : (t177 == 0) = true := beq_iff_eq.mpr c4
  have c4b1 : (t177 != 0) = false := bne_eq_false_iff_eq.mpr c4
  clear c4
  replace H := ob H
  obtain ⟨t178, A50, H⟩ := H
  replace H : (if t178 = true then (some 4) else (impl_canSettle.l0 k l1_1 (l1_1.length : Int) 0 l0_0)) = some r := H
  have A5 := am A50
  clear A50
  by_cases c6 : t178 = true
  ·subst c6
   have H1 : (some 4) = some r := by rw [if_pos rfl] at H; exact H
   clear H
   have H := H1
   clear H1
   obtain rfl := Option.some.inj H
   go_enter Try.func61, Try.ntmps61
   go_wp2_with (first | ((with_reducible refine gate_dst (N := 2) rfl ?_); refine q_box (N := 2) (cs := #[.slice A0_0 l0_0.length c0_0]) (t := 26) ?_; intro gb175 hg w7 hbox hb; have n0_ := am (below_step bq hb); have n1_ := am (hbox); have n2_ := am ((q_g hg bq : w.heap.size ≤ gb175)); have n3_ := n2_; revert n0_ n1_ n2_ n3_; clear HB; intro HB BK175 GW175 GE175; clear hb hbox hg) | ((with_reducible refine gate_dst (N := 3) rfl ?_); refine q_box (N := 3) (cs := #[.int .i64 a1_0, .slice A1_1 l1_1.length c1_1]) (t := 40) ?_; intro gb176 hg w8 hbox hb; have n0_ := am (blk_below (q_b BK175.out) hb); have n1_ := am (below_step bq hb); have n2_ := am (hbox); have n3_ := am ((q_g hg bq : w.heap.size ≤ gb176)); have n4_ := n3_; have n5_ := am ((q_n hg (q_b BK175.out) : gb175 ≠ gb176)); have n6_ := am n5_.out.symm; revert n0_ n1_ n2_ n3_ n4_ n5_ n6_; clear BK175 HB; intro BK175 HB BK176 GW176 GE176 NB175_176 NB176_175; clear hb hbox hg; have hnb9 := NB176_175.out; have hnc9 := NB175_176.out; obtain ⟨hcz10_0, hcz10_1, hfz10_0, hfz10_1⟩ := q_2 BK176.out) | ((with_reducible refine gate_callee (f := 93) rfl ?_); refine goesLq (some 10) rfl rfl Try.func93 (by kernel_rfl) rfl #[.agg #[.int .i64 a1_0, .slice A1_1 l1_1.length c1_1]] rfl ?_; (with_reducible refine (impl_ContractFault.calls k a1_0 _ _ l1_1 t177 _ ?side1 ?side2 A3.out).mono ?_); (case side1 => exact q_c ((Kd.C_below HR1_1.out HB.out))); (case side2 => exact HC1_1.out); rintro e w11 ⟨rfl, hb⟩; refine ⟨_, rfl, ?_⟩; have n0_ := am (blk_below (q_b BK175.out) hb); have n1_ := am (blk_below (q_b BK176.out) hb); have n2_ := am (below_step bq hb); revert n0_ n1_ n2_; clear BK175 BK176 HB; intro BK175 BK176 HB; (try clear hb); (try clear hb2); (try clear hk); (try clear hi); obtain ⟨hcz12_0, hcz12_1, hfz12_0, hfz12_1⟩ := q_2 BK176.out; obtain ⟨hcz13_0, hfz13_0⟩ := q_1 BK175.out) | ((with_reducible refine gate_callee (f := 99) rfl ?_); refine goesLq (some 17) rfl rfl Try.func99 (by kernel_rfl) rfl #[.slice A1_1 l1_1.length c1_1, .func (.func 100) #[] #[.pointer (some ⟨gb175, 0, none⟩)]] rfl ?_; (with_reducible refine (CL_100.calls k _ _ l1_1 _ _ l0_0 true _ ?side1 ?side2 ?side3 ?side4 A5.out gb175 kq).mono ?_); (case side1 => exact q_c ((Kd.C_below HR1_1.out HB.out))); (case side2 => exact HC1_1.out); (case side3 => exact q_c ((Kd.C_below HR0_0.out HB.out))); (case side4 => exact HC0_0.out); rintro e w14 ⟨rfl, hb⟩; refine ⟨_, rfl, ?_⟩; have n0_ := am (blk_below (q_b BK175.out) hb); have n1_ := am (blk_below (q_b BK176.out) hb); have n2_ := am (below_step bq hb); revert n0_ n1_ n2_; clear BK175 BK176 HB; intro BK175 BK176 HB; (try clear hb); (try clear hb2); (try clear hk); (try clear hi)))
   go_ret
   exact ⟨q_e, bq⟩
  ·replace c6 := Bool.eq_false_iff.mpr c6
   subst c6
   have H1 : (impl_canSettle.l0 k l1_1 (l1_1.length : Int) 0 l0_0) = some r := by rw [if_neg (show ¬ (false = true) by decide)] at H; exact H
   clear H
   have H := H1
   clear H1
   have H' := am H
   clear H
   go_enter Try.func61, Try.ntmps61
   go_wp2_with (first | ((with_reducible refine gate_dst (N := 2) rfl ?_); refine q_box (N := 2) (cs := #[.slice A0_0 l0_0.length c0_0]) (t := 26) ?_; intro gb175 hg w15 hbox hb; have n0_ := am (below_step bq hb); have n1_ := am (hbox); have n2_ := am ((q_g hg bq : w.heap.size ≤ gb175)); have n3_ := n2_; revert n0_ n1_ n2_ n3_; clear HB; intro HB BK175 GW175 GE175; clear hb hbox hg) | ((with_reducible refine gate_dst (N := 3) rfl ?_); refine q_box (N := 3) (cs := #[.int .i64 a1_0, .slice A1_1 l1_1.length c1_1]) (t := 40) ?_; intro gb176 hg w16 hbox hb; have n0_ := am (blk_below (q_b BK175.out) hb); have n1_ := am (below_step bq hb); have n2_ := am (hbox); have n3_ := am ((q_g hg bq : w.heap.size ≤ gb176)); have n4_ := n3_; have n5_ := am ((q_n hg (q_b BK175.out) : gb175 ≠ gb176)); have n6_ := am n5_.out.symm; revert n0_ n1_ n2_ n3_ n4_ n5_ n6_; clear BK175 HB; intro BK175 HB BK176 GW176 GE176 NB175_176 NB176_175; clear hb hbox hg; have hnb17 := NB176_175.out; have hnc17 := NB175_176.out; obtain ⟨hcz18_0, hcz18_1, hfz18_0, hfz18_1⟩ := q_2 BK176.out) | ((with_reducible refine gate_callee (f := 93) rfl ?_); refine goesLq (some 10) rfl rfl Try.func93 (by kernel_rfl) rfl #[.agg #[.int .i64 a1_0, .slice A1_1 l1_1.length c1_1]] rfl ?_; (with_reducible refine (impl_ContractFault.calls k a1_0 _ _ l1_1 t177 _ ?side1 ?side2 A3.out).mono ?_); (case side1 => exact q_c ((Kd.C_below HR1_1.out HB.out))); (case side2 => exact HC1_1.out); rintro e w19 ⟨rfl, hb⟩; refine ⟨_, rfl, ?_⟩; have n0_ := am (blk_below (q_b BK175.out) hb); have n1_ := am (blk_below (q_b BK176.out) hb); have n2_ := am (below_step bq hb); revert n0_ n1_ n2_; clear BK175 BK176 HB; intro BK175 BK176 HB; (try clear hb); (try clear hb2); (try clear hk); (try clear hi); obtain ⟨hcz20_0, hcz20_1, hfz20_0, hfz20_1⟩ := q_2 BK176.out; obtain ⟨hcz21_0, hfz21_0⟩ := q_1 BK175.out) | ((with_reducible refine gate_callee (f := 99) rfl ?_); refine goesLq (some 17) rfl rfl Try.func99 (by kernel_rfl) rfl #[.slice A1_1 l1_1.length c1_1, .func (.func 100) #[] #[.pointer (some ⟨gb175, 0, none⟩)]] rfl ?_; (with_reducible refine (CL_100.calls k _ _ l1_1 _ _ l0_0 false _ ?side1 ?side2 ?side3 ?side4 A5.out gb175 kq).mono ?_); (case side1 => exact q_c ((Kd.C_below HR1_1.out HB.out))); (case side2 => exact HC1_1.out); (case side3 => exact q_c ((Kd.C_below HR0_0.out HB.out))); (case side4 => exact HC0_0.out); rintro e w22 ⟨rfl, hb⟩; refine ⟨_, rfl, ?_⟩; have n0_ := am (blk_below (q_b BK175.out) hb); have n1_ := am (blk_below (q_b BK176.out) hb); have n2_ := am (below_step bq hb); revert n0_ n1_ n2_; clear BK175 BK176 HB; intro BK175 BK176 HB; (try clear hb); (try clear hb2); (try clear hk); (try clear hi); obtain ⟨hcz23_0, hcz23_1, hfz23_0, hfz23_1⟩ := q_2 BK176.out))
   go_loopg [21] k (fun kq v21 w' => ∃ (x21_1 : Int), v21 = .int .i64 x21_1 ∧ Aside0 (impl_canSettle.l0 kq l1_1 (l1_1.length : Int) x21_1 l0_0 = some r) ∧ Aside0 (kq ≤ k) ∧ Aside0 (w'.heap[gb175]? = some (.cells #[(.slice A0_0 l0_0.length c0_0)] 26 (0, 0))) ∧ Aside0 (w'.heap[gb176]? = some (.cells #[.int .i64 a1_0, (.slice A1_1 l1_1.length c1_1)] 40 (0, 0))) ∧ Aside0 (Below w.heap.size w w'))
   case atStart => exact ⟨(0), q_i, H', ⟨Nat.le_refl _⟩, ⟨q_b BK175.out⟩, ⟨q_b BK176.out⟩, ⟨bq⟩⟩
   case round =>
    clear H'
    (try clear c1); (try clear p2); (try clear c4); (try clear c4b0); (try clear c4b1); (try clear c6); (try clear c9); (try clear c17); (try clear hcz10_0); (try clear hcz10_1); (try clear hcz12_0); (try clear hcz12_1)
    (try clear hcz13_0); (try clear hcz18_0); (try clear hcz18_1); (try clear hcz20_0); (try clear hcz20_1); (try clear hcz21_0); (try clear hcz23_0); (try clear hcz23_1); (try clear hfz10_0); (try clear hfz10_1)
    (try clear hfz12_0); (try clear hfz12_1); (try clear hfz13_0); (try clear hfz18_0); (try clear hfz18_1); (try clear hfz20_0); (try clear hfz20_1); (try clear hfz21_0); (try clear hfz23_0); (try clear hfz23_1)
    obtain ⟨x21_1, rfl, HA, HK1, BK175, BK176, HB⟩ := hrel
    cases gk with
    | zero => exact absurd HA.out (by simp [impl_canSettle.l0])
    | succ k1 =>
     have H := HA.out
     clear HA
     simp only [impl_canSettle.l0] at H
     by_cases c24 : x21_1 < (l1_1.length : Int)
     ·rw [if_pos c24] at H
      have c24b0 := decide_eq_true c24
      clear c24
      by_cases c25 : 0 ≤ x21_1
      ·rw [if_pos c25] at H
       have c25b0 := decide_eq_true c25
       clear c25
       by_cases c26 : x21_1 < (l1_1.length : Int)
       ·rw [if_pos c26] at H
        have c26b0 := decide_eq_true c26
        clear c26
        by_cases c27 : 0 ≤ ((rd_T86 l1_1 x21_1).f0)
        ·rw [if_pos c27] at H
         have c27b0 := decide_eq_true c27
         clear c27
         by_cases c28 : ((rd_T86 l1_1 x21_1).f0) < (l0_0.length : Int)
         ·rw [if_pos c28] at H
          have c28b0 := decide_eq_true c28
          clear c28
          replace H := ob H
          obtain ⟨t182, A290, H⟩ := H
          replace H : (if t182 = 0 then (impl_canSettle.l0 k1 l1_1 (l1_1.length : Int) (wrap64 (x21_1 + 1)) l0_0) else (some t182)) = some r := H
          have A29 := am A290
          clear A290
          by_cases c30 : t182 = 0
          ·rw [if_pos c30] at H
           have c30b0 : (t182 == 0) = true := beq_iff_eq.mpr c30
           have c30b1 : (t182 != 0) = false := bne_eq_false_iff_eq.mpr c30
           clear c30
           have H' := am H
           clear H
           have p179 : 0 ≤ (x21_1 : Int) := q_d
           have q179 : x21_1 < (l1_1.length : Int) := q_d
           obtain ⟨ad179, e179, hx179_0, hx179_1, hx179_2, hx179_3⟩ := at_T86 HR1_1.out x21_1 p179 q179
           cases e179
           replace hx179_0 := q_x HB.out hx179_0
           replace hx179_1 := q_x HB.out hx179_1
           replace hx179_2 := q_x HB.out hx179_2
           replace hx179_3 := q_x HB.out hx179_3
           replace p179 := eq_true p179
           replace q179 := eq_true q179
           try go_wp2_with (first | ((with_reducible refine gate_dst (N := 7) rfl ?_); refine q_box (N := 7) (cs := #[.int .i64 0, .int .i64 0, .int .i64 0, .int .i64 0]) (t := 86) ?_; intro gb180 hg w31 hbox hb; have n0_ := am (blk_below (q_b BK175.out) hb); have n1_ := am (blk_below (q_b BK176.out) hb); have n2_ := am (below_step bq hb); have n3_ := am (hbox); have n4_ := am ((q_g hg bq : w.heap.size ≤ gb180)); have n5_ := n4_; have n6_ := am ((q_n hg (q_b BK175.out) : gb175 ≠ gb180)); have n7_ := am n6_.out.symm; have n8_ := am ((q_n hg (q_b BK176.out) : gb176 ≠ gb180)); have n9_ := am n8_.out.symm; revert n0_ n1_ n2_ n3_ n4_ n5_ n6_ n7_ n8_ n9_; clear BK175 BK176 HB; intro BK175 BK176 HB BK180 GW180 GE180 NB175_180 NB180_175 NB176_180 NB180_176; clear hb hbox hg; have hnb32 := NB180_175.out; have hnc32 := NB175_180.out; have hnb33 := NB180_176.out; have hnc33 := NB176_180.out; obtain ⟨hcz34_0, hcz34_1, hcz34_2, hcz34_3, hfz34_0, hfz34_1, hfz34_2, hfz34_3⟩ := q_4 BK180.out))
           have n0_ : Aside0 (((((w31.setCell ⟨gb180, 0, none⟩ (.int .i64 ((rd_T86 l1_1 x21_1).f0))).setCell ⟨gb180, 1, none⟩ (.int .i64 ((rd_T86 l1_1 x21_1).f1))).setCell ⟨gb180, 2, none⟩ (.int .i64 ((rd_T86 l1_1 x21_1).f2))).setCell ⟨gb180, 3, none⟩ (.int .i64 ((rd_T86 l1_1 x21_1).f3))).heap[gb175]? = some (.cells #[.slice A0_0 l0_0.length c0_0] 26 (0, 0))) := ⟨by (with_reducible repeat (first | refine blk_drewN ?_ _ | refine blk_drew ?_ | refine blk_alloc ?_ _)); refine blk_far ?_ NB175_180.out _; (with_reducible repeat (first | refine blk_drewN ?_ _ | refine blk_drew ?_ | refine blk_alloc ?_ _)); refine blk_far ?_ NB175_180.out _; (with_reducible repeat (first | refine blk_drewN ?_ _ | refine blk_drew ?_ | refine blk_alloc ?_ _)); refine blk_far ?_ NB175_180.out _; (with_reducible repeat (first | refine blk_drewN ?_ _ | refine blk_drew ?_ | refine blk_alloc ?_ _)); refine blk_far ?_ NB175_180.out _; (with_reducible repeat (first | refine blk_drewN ?_ _ | refine blk_drew ?_ | refine blk_alloc ?_ _)); exact BK175.out⟩
           have n1_ : Aside0 (((((w31.setCell ⟨gb180, 0, none⟩ (.int .i64 ((rd_T86 l1_1 x21_1).f0))).setCell ⟨gb180, 1, none⟩ (.int .i64 ((rd_T86 l1_1 x21_1).f1))).setCell ⟨gb180, 2, none⟩ (.int .i64 ((rd_T86 l1_1 x21_1).f2))).setCell ⟨gb180, 3, none⟩ (.int .i64 ((rd_T86 l1_1 x21_1).f3))).heap[gb176]? = some (.cells #[.int .i64 a1_0, .slice (some ad179) l1_1.length c1_1] 40 (0, 0))) := ⟨by (with_reducible repeat (first | refine blk_drewN ?_ _ | refine blk_drew ?_ | refine blk_alloc ?_ _)); refine blk_far ?_ NB176_180.out _; (with_reducible repeat (first | refine blk_drewN ?_ _ | refine blk_drew ?_ | refine blk_alloc ?_ _)); refine blk_far ?_ NB176_180.out _; (with_reducible repeat (first | refine blk_drewN ?_ _ | refine blk_drew ?_ | refine blk_alloc ?_ _)); refine blk_far ?_ NB176_180.out _; (with_reducible repeat (first | refine blk_drewN ?_ _ | refine blk_drew ?_ | refine blk_alloc ?_ _)); refine blk_far ?_ NB176_180.out _; (with_reducible repeat (first | refine blk_drewN ?_ _ | refine blk_drew ?_ | refine blk_alloc ?_ _)); exact BK176.out⟩
           have n2_ : Aside0 (((((w31.setCell ⟨gb180, 0, none⟩ (.int .i64 ((rd_T86 l1_1 x21_1).f0))).setCell ⟨gb180, 1, none⟩ (.int .i64 ((rd_T86 l1_1 x21_1).f1))).setCell ⟨gb180, 2, none⟩ (.int .i64 ((rd_T86 l1_1 x21_1).f2))).setCell ⟨gb180, 3, none⟩ (.int .i64 ((rd_T86 l1_1 x21_1).f3))).heap[gb180]? = some (.cells #[.int .i64 ((rd_T86 l1_1 x21_1).f0), .int .i64 ((rd_T86 l1_1 x21_1).f1), .int .i64 ((rd_T86 l1_1 x21_1).f2), .int .i64 ((rd_T86 l1_1 x21_1).f3)] 86 (0, 0))) := ⟨by (with_reducible repeat (first | refine blk_drewN ?_ _ | refine blk_drew ?_ | refine blk_alloc ?_ _)); refine blk_put (cs := #[.int .i64 ((rd_T86 l1_1 x21_1).f0), .int .i64 ((rd_T86 l1_1 x21_1).f1), .int .i64 ((rd_T86 l1_1 x21_1).f2), .int .i64 0]) ?_ 3 _ rfl; (with_reducible repeat (first | refine blk_drewN ?_ _ | refine blk_drew ?_ | refine blk_alloc ?_ _)); refine blk_put (cs := #[.int .i64 ((rd_T86 l1_1 x21_1).f0), .int .i64 ((rd_T86 l1_1 x21_1).f1), .int .i64 0, .int .i64 0]) ?_ 2 _ rfl; (with_reducible repeat (first | refine blk_drewN ?_ _ | refine blk_drew ?_ | refine blk_alloc ?_ _)); refine blk_put (cs := #[.int .i64 ((rd_T86 l1_1 x21_1).f0), .int .i64 0, .int .i64 0, .int .i64 0]) ?_ 1 _ rfl; (with_reducible repeat (first | refine blk_drewN ?_ _ | refine blk_drew ?_ | refine blk_alloc ?_ _)); refine blk_put (cs := #[.int .i64 0, .int .i64 0, .int .i64 0, .int .i64 0]) ?_ 0 _ rfl; (with_reducible repeat (first | refine blk_drewN ?_ _ | refine blk_drew ?_ | refine blk_alloc ?_ _)); exact BK180.out⟩
           have n3_ : Aside0 (Below w.heap.size w ((((w31.setCell ⟨gb180, 0, none⟩ (.int .i64 ((rd_T86 l1_1 x21_1).f0))).setCell ⟨gb180, 1, none⟩ (.int .i64 ((rd_T86 l1_1 x21_1).f1))).setCell ⟨gb180, 2, none⟩ (.int .i64 ((rd_T86 l1_1 x21_1).f2))).setCell ⟨gb180, 3, none⟩ (.int .i64 ((rd_T86 l1_1 x21_1).f3)))) := ⟨bq⟩
           (try clear BK175)
           (try clear BK176)
           (try clear BK180)
           (try clear HB)
           generalize ((((w31.setCell ⟨gb180, 0, none⟩ (.int .i64 ((rd_T86 l1_1 x21_1).f0))).setCell ⟨gb180, 1, none⟩ (.int .i64 ((rd_T86 l1_1 x21_1).f1))).setCell ⟨gb180, 2, none⟩ (.int .i64 ((rd_T86 l1_1 x21_1).f2))).setCell ⟨gb180, 3, none⟩ (.int .i64 ((rd_T86 l1_1 x21_1).f3))) = w35 at n0_ n1_ n2_ n3_ ⊢
           have BK175 := n0_
           have BK176 := n1_
           have BK180 := n2_
           have HB := n3_
           clear n0_ n1_ n2_ n3_
           have n0_ := am (blk_drew BK175.out)
           have n1_ := am (blk_drew BK176.out)
           have n2_ := am (blk_drew BK180.out)
           have n3_ := am (below_drew1 HB.out)
           clear BK175
           clear BK176
           clear BK180
           clear HB
           have BK175 := n0_
           have BK176 := n1_
           have BK180 := n2_
           have HB := n3_
           clear n0_ n1_ n2_ n3_
           have p181 : 0 ≤ (((rd_T86 l1_1 x21_1).f0) : Int) := q_d
           have q181 : ((rd_T86 l1_1 x21_1).f0) < (l0_0.length : Int) := q_d
           obtain ⟨ad181, A181_0, c181_0, e181, hx181_0, hl181_0, hi181_0⟩ := at_L2 HR0_0.out ((rd_T86 l1_1 x21_1).f0) p181 q181
           have hw181_0 := hx181_0
           cases e181
           replace hx181_0 := q_x HB.out hx181_0
           have HR181_0 := am hi181_0
           have HC181_0 := am hl181_0
           clear hi181_0 hl181_0
           replace p181 := eq_true p181
           replace q181 := eq_true q181
           refine start_ (n := 9) (S := fun w' => w'.cell? ⟨gb175, 0, none⟩ = some (.slice (some ad181) l0_0.length c0_0) ∧ w'.cell? ⟨gb180, 0, none⟩ = some (.int .i64 ((rd_T86 l1_1 x21_1).f0)) ∧ w'.cell? ⟨gb180, 1, none⟩ = some (.int .i64 ((rd_T86 l1_1 x21_1).f1)) ∧ w'.cell? ⟨gb180, 2, none⟩ = some (.int .i64 ((rd_T86 l1_1 x21_1).f2)) ∧ w'.cell? ⟨gb180, 3, none⟩ = some (.int .i64 ((rd_T86 l1_1 x21_1).f3)) ∧ w'.cell? (ad181.add (((rd_T86 l1_1 x21_1).f0)).toNat) = some (.slice A181_0 (rd_L2 l0_0 ((rd_T86 l1_1 x21_1).f0)).length c181_0)) (ds := []) #[false, false, false, false, false, false, false, false, false] (by kernel_rfl) rfl rfl ⟨q_z BK175.out 0, q_z BK180.out 0, q_z BK180.out 1, q_z BK180.out 2, q_z BK180.out 3, ((HB.out.cell (wb hw181_0)).trans hw181_0)⟩ (fun hHeld => ?_); refine with_tabW impl_canSettle.tab9 impl_canSettle.bits9 (fun HT_ HW_ => ?_)
           generalize w35.drew = w36 at BK175 BK176 BK180 HB HR181_0 hx181_0 hHeld ⊢
           refine q_p 0 (some 25) #[true, false, false, false, false, false, false, false, false] HT_.out ?_
           refine q_p 2 (some 27) #[true, false, true, false, false, false, false, false, false] HT_.out ?_
           refine q_t 1 (some 26) #[true, true, true, false, false, false, false, false, false] HT_.out HW_.out hHeld ?_
           refine q_t 3 (some 28) #[true, true, true, true, false, false, false, false, false] HT_.out HW_.out hHeld ?_
           refine q_p 4 (some 29) #[true, true, true, true, true, false, false, false, false] HT_.out ?_
           refine q_t 5 (some 30) #[true, true, true, true, true, true, false, false, false] HT_.out HW_.out hHeld ?_
           refine q_t 6 (some 31) #[true, true, true, true, true, true, true, false, false] HT_.out HW_.out hHeld ?_
           refine one_ (i := 7) (N := some 32) #[true, true, true, true, true, true, true, true, false] rfl rfl (one_of HT_.out (by kernel_rfl)) (by decide) (fun K hK => ?_)
           refine goes_ Try.func101 (by kernel_rfl) rfl #[.slice A181_0 (rd_L2 l0_0 ((rd_T86 l1_1 x21_1).f0)).length c181_0, .agg #[.int .i64 ((rd_T86 l1_1 x21_1).f0), .int .i64 ((rd_T86 l1_1 x21_1).f1), .int .i64 ((rd_T86 l1_1 x21_1).f2), .int .i64 ((rd_T86 l1_1 x21_1).f3)]] (by rfl) rfl rfl (by (try simp only [List.map_toArray, List.map_cons, List.map_nil]); first | done | rfl | (simp only [List.length_drop, List.length_take]; rfl)) ?_
           with_reducible refine (impl_legCode.calls k1 _ _ (rd_L2 l0_0 ((rd_T86 l1_1 x21_1).f0)) ((rd_T86 l1_1 x21_1).f0) ((rd_T86 l1_1 x21_1).f1) ((rd_T86 l1_1 x21_1).f2) ((rd_T86 l1_1 x21_1).f3) t182 _ ?side1 ?side2 A29.out).mono ?_
           (case side1 => exact q_c ((Kd.C_below HR181_0.out HB.out)))
           (case side2 => exact HC181_0.out)
           rintro e w37 ⟨rfl, hb⟩
           refine ⟨_, rfl, ?_⟩
           have n0_ := am (blk_below (q_b BK175.out) hb)
           have n1_ := am (blk_below (q_b BK176.out) hb)
           have n2_ := am (blk_below (q_b BK180.out) hb)
           have n3_ := am (below_step bq hb)
           clear BK175
           clear BK176
           clear BK180
           clear HB
           have BK175 := n0_
           have BK176 := n1_
           have BK180 := n2_
           have HB := n3_
           clear n0_ n1_ n2_ n3_
           (try clear hb)
           (try clear hb2)
           (try clear hk)
           (try clear hi)
           refine hK.out _ _ ⟨q_z BK175.out 0, q_z BK180.out 0, q_z BK180.out 1, q_z BK180.out 2, q_z BK180.out 3, ((HB.out.cell (wb hw181_0)).trans hw181_0)⟩ (fun hHeld => ?_)
           clear hK K
           refine norm_ (a' := ?_) ?_ ?_
           rotate_left
           ·show Act.put _ (some 32) _ = _
            simp only [Act.put, List.setIfInBounds_toArray, List.set_cons_zero, List.set_cons_succ, i64_w, i32_w]
            rfl
           refine q_p 8 (some 8) #[true, true, true, true, true, true, true, true, true] HT_.out ?_
           refine done_ (done_of HT_.out (by kernel_rfl)) ?_
           try go_wp2
           go_roundg k1
           case measure => have := HK1.out; omega
           case rel => exact ⟨(wrap64 (x21_1 + 1)), q_i, H', ⟨by have := HK1.out; omega⟩, ⟨q_b BK175.out⟩, ⟨q_b BK176.out⟩, ⟨bq⟩⟩
          ·rw [if_neg c30] at H
           have c30b0 : (t182 == 0) = false := beq_eq_false_iff_ne.mpr c30
           have c30b1 : (t182 != 0) = true := bne_iff_ne.mpr c30
           obtain rfl := Option.some.inj H
           have p179 : 0 ≤ (x21_1 : Int) := q_d
           have q179 : x21_1 < (l1_1.length : Int) := q_d
           obtain ⟨ad179, e179, hx179_0, hx179_1, hx179_2, hx179_3⟩ := at_T86 HR1_1.out x21_1 p179 q179
           cases e179
           replace hx179_0 := q_x HB.out hx179_0
           replace hx179_1 := q_x HB.out hx179_1
           replace hx179_2 := q_x HB.out hx179_2
           replace hx179_3 := q_x HB.out hx179_3
           replace p179 := eq_true p179
           replace q179 := eq_true q179
           try go_wp2_with (first | ((with_reducible refine gate_dst (N := 7) rfl ?_); refine q_box (N := 7) (cs := #[.int .i64 0, .int .i64 0, .int .i64 0, .int .i64 0]) (t := 86) ?_; intro gb180 hg w38 hbox hb; have n0_ := am (blk_below (q_b BK175.out) hb); have n1_ := am (blk_below (q_b BK176.out) hb); have n2_ := am (below_step bq hb); have n3_ := am (hbox); have n4_ := am ((q_g hg bq : w.heap.size ≤ gb180)); have n5_ := n4_; have n6_ := am ((q_n hg (q_b BK175.out) : gb175 ≠ gb180)); have n7_ := am n6_.out.symm; have n8_ := am ((q_n hg (q_b BK176.out) : gb176 ≠ gb180)); have n9_ := am n8_.out.symm; revert n0_ n1_ n2_ n3_ n4_ n5_ n6_ n7_ n8_ n9_; clear BK175 BK176 HB; intro BK175 BK176 HB BK180 GW180 GE180 NB175_180 NB180_175 NB176_180 NB180_176; clear hb hbox hg; have hnb39 := NB180_175.out; have hnc39 := NB175_180.out; have hnb40 := NB180_176.out; have hnc40 := NB176_180.out; obtain ⟨hcz41_0, hcz41_1, hcz41_2, hcz41_3, hfz41_0, hfz41_1, hfz41_2, hfz41_3⟩ := q_4 BK180.out))
           have n0_ : Aside0 (((((w38.setCell ⟨gb180, 0, none⟩ (.int .i64 ((rd_T86 l1_1 x21_1).f0))).setCell ⟨gb180, 1, none⟩ (.int .i64 ((rd_T86 l1_1 x21_1).f1))).setCell ⟨gb180, 2, none⟩ (.int .i64 ((rd_T86 l1_1 x21_1).f2))).setCell ⟨gb180, 3, none⟩ (.int .i64 ((rd_T86 l1_1 x21_1).f3))).heap[gb175]? = some (.cells #[.slice A0_0 l0_0.length c0_0] 26 (0, 0))) := ⟨by (with_reducible repeat (first | refine blk_drewN ?_ _ | refine blk_drew ?_ | refine blk_alloc ?_ _)); refine blk_far ?_ NB175_180.out _; (with_reducible repeat (first | refine blk_drewN ?_ _ | refine blk_drew ?_ | refine blk_alloc ?_ _)); refine blk_far ?_ NB175_180.out _; (with_reducible repeat (first | refine blk_drewN ?_ _ | refine blk_drew ?_ | refine blk_alloc ?_ _)); refine blk_far ?_ NB175_180.out _; (with_reducible repeat (first | refine blk_drewN ?_ _ | refine blk_drew ?_ | refine blk_alloc ?_ _)); refine blk_far ?_ NB175_180.out _; (with_reducible repeat (first | refine blk_drewN ?_ _ | refine blk_drew ?_ | refine blk_alloc ?_ _)); exact BK175.out⟩
           have n1_ : Aside0 (((((w38.setCell ⟨gb180, 0, none⟩ (.int .i64 ((rd_T86 l1_1 x21_1).f0))).setCell ⟨gb180, 1, none⟩ (.int .i64 ((rd_T86 l1_1 x21_1).f1))).setCell ⟨gb180, 2, none⟩ (.int .i64 ((rd_T86 l1_1 x21_1).f2))).setCell ⟨gb180, 3, none⟩ (.int .i64 ((rd_T86 l1_1 x21_1).f3))).heap[gb176]? = some (.cells #[.int .i64 a1_0, .slice (some ad179) l1_1.length c1_1] 40 (0, 0))) := ⟨by (with_reducible repeat (first | refine blk_drewN ?_ _ | refine blk_drew ?_ | refine blk_alloc ?_ _)); refine blk_far ?_ NB176_180.out _; (with_reducible repeat (first | refine blk_drewN ?_ _ | refine blk_drew ?_ | refine blk_alloc ?_ _)); refine blk_far ?_ NB176_180.out _; (with_reducible repeat (first | refine blk_drewN ?_ _ | refine blk_drew ?_ | refine blk_alloc ?_ _)); refine blk_far ?_ NB176_180.out _; (with_reducible repeat (first | refine blk_drewN ?_ _ | refine blk_drew ?_ | refine blk_alloc ?_ _)); refine blk_far ?_ NB176_180.out _; (with_reducible repeat (first | refine blk_drewN ?_ _ | refine blk_drew ?_ | refine blk_alloc ?_ _)); exact BK176.out⟩
           have n2_ : Aside0 (((((w38.setCell ⟨gb180, 0, none⟩ (.int .i64 ((rd_T86 l1_1 x21_1).f0))).setCell ⟨gb180, 1, none⟩ (.int .i64 ((rd_T86 l1_1 x21_1).f1))).setCell ⟨gb180, 2, none⟩ (.int .i64 ((rd_T86 l1_1 x21_1).f2))).setCell ⟨gb180, 3, none⟩ (.int .i64 ((rd_T86 l1_1 x21_1).f3))).heap[gb180]? = some (.cells #[.int .i64 ((rd_T86 l1_1 x21_1).f0), .int .i64 ((rd_T86 l1_1 x21_1).f1), .int .i64 ((rd_T86 l1_1 x21_1).f2), .int .i64 ((rd_T86 l1_1 x21_1).f3)] 86 (0, 0))) := ⟨by (with_reducible repeat (first | refine blk_drewN ?_ _ | refine blk_drew ?_ | refine blk_alloc ?_ _)); refine blk_put (cs := #[.int .i64 ((rd_T86 l1_1 x21_1).f0), .int .i64 ((rd_T86 l1_1 x21_1).f1), .int .i64 ((rd_T86 l1_1 x21_1).f2), .int .i64 0]) ?_ 3 _ rfl; (with_reducible repeat (first | refine blk_drewN ?_ _ | refine blk_drew ?_ | refine blk_alloc ?_ _)); refine blk_put (cs := #[.int .i64 ((rd_T86 l1_1 x21_1).f0), .int .i64 ((rd_T86 l1_1 x21_1).f1), .int .i64 0, .int .i64 0]) ?_ 2 _ rfl; (with_reducible repeat (first | refine blk_drewN ?_ _ | refine blk_drew ?_ | refine blk_alloc ?_ _)); refine blk_put (cs := #[.int .i64 ((rd_T86 l1_1 x21_1).f0), .int .i64 0, .int .i64 0, .int .i64 0]) ?_ 1 _ rfl; (with_reducible repeat (first | refine blk_drewN ?_ _ | refine blk_drew ?_ | refine blk_alloc ?_ _)); refine blk_put (cs := #[.int .i64 0, .int .i64 0, .int .i64 0, .int .i64 0]) ?_ 0 _ rfl; (with_reducible repeat (first | refine blk_drewN ?_ _ | refine blk_drew ?_ | refine blk_alloc ?_ _)); exact BK180.out⟩
           have n3_ : Aside0 (Below w.heap.size w ((((w38.setCell ⟨gb180, 0, none⟩ (.int .i64 ((rd_T86 l1_1 x21_1).f0))).setCell ⟨gb180, 1, none⟩ (.int .i64 ((rd_T86 l1_1 x21_1).f1))).setCell ⟨gb180, 2, none⟩ (.int .i64 ((rd_T86 l1_1 x21_1).f2))).setCell ⟨gb180, 3, none⟩ (.int .i64 ((rd_T86 l1_1 x21_1).f3)))) := ⟨bq⟩
           (try clear BK175)
           (try clear BK176)
           (try clear BK180)
           (try clear HB)
           generalize ((((w38.setCell ⟨gb180, 0, none⟩ (.int .i64 ((rd_T86 l1_1 x21_1).f0))).setCell ⟨gb180, 1, none⟩ (.int .i64 ((rd_T86 l1_1 x21_1).f1))).setCell ⟨gb180, 2, none⟩ (.int .i64 ((rd_T86 l1_1 x21_1).f2))).setCell ⟨gb180, 3, none⟩ (.int .i64 ((rd_T86 l1_1 x21_1).f3))) = w42 at n0_ n1_ n2_ n3_ ⊢
           have BK175 := n0_
           have BK176 := n1_
           have BK180 := n2_
           have HB := n3_
           clear n0_ n1_ n2_ n3_
           have n0_ := am (blk_drew BK175.out)
           have n1_ := am (blk_drew BK176.out)
           have n2_ := am (blk_drew BK180.out)
           have n3_ := am (below_drew1 HB.out)
           clear BK175
           clear BK176
           clear BK180
           clear HB
           have BK175 := n0_
           have BK176 := n1_
           have BK180 := n2_
           have HB := n3_
           clear n0_ n1_ n2_ n3_
           have p181 : 0 ≤ (((rd_T86 l1_1 x21_1).f0) : Int) := q_d
           have q181 : ((rd_T86 l1_1 x21_1).f0) < (l0_0.length : Int) := q_d
           obtain ⟨ad181, A181_0, c181_0, e181, hx181_0, hl181_0, hi181_0⟩ := at_L2 HR0_0.out ((rd_T86 l1_1 x21_1).f0) p181 q181
           have hw181_0 := hx181_0
           cases e181
           replace hx181_0 := q_x HB.out hx181_0
           have HR181_0 := am hi181_0
           have HC181_0 := am hl181_0
           clear hi181_0 hl181_0
           replace p181 := eq_true p181
           replace q181 := eq_true q181
           refine start_ (n := 9) (S := fun w' => w'.cell? ⟨gb175, 0, none⟩ = some (.slice (some ad181) l0_0.length c0_0) ∧ w'.cell? ⟨gb180, 0, none⟩ = some (.int .i64 ((rd_T86 l1_1 x21_1).f0)) ∧ w'.cell? ⟨gb180, 1, none⟩ = some (.int .i64 ((rd_T86 l1_1 x21_1).f1)) ∧ w'.cell? ⟨gb180, 2, none⟩ = some (.int .i64 ((rd_T86 l1_1 x21_1).f2)) ∧ w'.cell? ⟨gb180, 3, none⟩ = some (.int .i64 ((rd_T86 l1_1 x21_1).f3)) ∧ w'.cell? (ad181.add (((rd_T86 l1_1 x21_1).f0)).toNat) = some (.slice A181_0 (rd_L2 l0_0 ((rd_T86 l1_1 x21_1).f0)).length c181_0)) (ds := []) #[false, false, false, false, false, false, false, false, false] (by kernel_rfl) rfl rfl ⟨q_z BK175.out 0, q_z BK180.out 0, q_z BK180.out 1, q_z BK180.out 2, q_z BK180.out 3, ((HB.out.cell (wb hw181_0)).trans hw181_0)⟩ (fun hHeld => ?_); refine with_tabW impl_canSettle.tab9 impl_canSettle.bits9 (fun HT_ HW_ => ?_)
           generalize w42.drew = w43 at BK175 BK176 BK180 HB HR181_0 hx181_0 hHeld ⊢
           refine q_p 0 (some 25) #[true, false, false, false, false, false, false, false, false] HT_.out ?_
           refine q_p 2 (some 27) #[true, false, true, false, false, false, false, false, false] HT_.out ?_
           refine q_t 1 (some 26) #[true, true, true, false, false, false, false, false, false] HT_.out HW_.out hHeld ?_
           refine q_t 3 (some 28) #[true, true, true, true, false, false, false, false, false] HT_.out HW_.out hHeld ?_
           refine q_p 4 (some 29) #[true, true, true, true, true, false, false, false, false] HT_.out ?_
           refine q_t 5 (some 30) #[true, true, true, true, true, true, false, false, false] HT_.out HW_.out hHeld ?_
           refine q_t 6 (some 31) #[true, true, true, true, true, true, true, false, false] HT_.out HW_.out hHeld ?_
           refine one_ (i := 7) (N := some 32) #[true, true, true, true, true, true, true, true, false] rfl rfl (one_of HT_.out (by kernel_rfl)) (by decide) (fun K hK => ?_)
           refine goes_ Try.func101 (by kernel_rfl) rfl #[.slice A181_0 (rd_L2 l0_0 ((rd_T86 l1_1 x21_1).f0)).length c181_0, .agg #[.int .i64 ((rd_T86 l1_1 x21_1).f0), .int .i64 ((rd_T86 l1_1 x21_1).f1), .int .i64 ((rd_T86 l1_1 x21_1).f2), .int .i64 ((rd_T86 l1_1 x21_1).f3)]] (by rfl) rfl rfl (by (try simp only [List.map_toArray, List.map_cons, List.map_nil]); first | done | rfl | (simp only [List.length_drop, List.length_take]; rfl)) ?_
           with_reducible refine (impl_legCode.calls k1 _ _ (rd_L2 l0_0 ((rd_T86 l1_1 x21_1).f0)) ((rd_T86 l1_1 x21_1).f0) ((rd_T86 l1_1 x21_1).f1) ((rd_T86 l1_1 x21_1).f2) ((rd_T86 l1_1 x21_1).f3) t182 _ ?side1 ?side2 A29.out).mono ?_
           (case side1 => exact q_c ((Kd.C_below HR181_0.out HB.out)))
           (case side2 => exact HC181_0.out)
           rintro e w44 ⟨rfl, hb⟩
           refine ⟨_, rfl, ?_⟩
           have n0_ := am (blk_below (q_b BK175.out) hb)
           have n1_ := am (blk_below (q_b BK176.out) hb)
           have n2_ := am (blk_below (q_b BK180.out) hb)
           have n3_ := am (below_step bq hb)
           clear BK175
           clear BK176
           clear BK180
           clear HB
           have BK175 := n0_
           have BK176 := n1_
           have BK180 := n2_
           have HB := n3_
           clear n0_ n1_ n2_ n3_
           (try clear hb)
           (try clear hb2)
           (try clear hk)
           (try clear hi)
           refine hK.out _ _ ⟨q_z BK175.out 0, q_z BK180.out 0, q_z BK180.out 1, q_z BK180.out 2, q_z BK180.out 3, ((HB.out.cell (wb hw181_0)).trans hw181_0)⟩ (fun hHeld => ?_)
           clear hK K
           refine norm_ (a' := ?_) ?_ ?_
           rotate_left
           ·show Act.put _ (some 32) _ = _
            simp only [Act.put, List.setIfInBounds_toArray, List.set_cons_zero, List.set_cons_succ, i64_w, i32_w]
            rfl
           refine q_p 8 (some 8) #[true, true, true, true, true, true, true, true, true] HT_.out ?_
           refine done_ (done_of HT_.out (by kernel_rfl)) ?_
           try go_wp2
           go_ret
           exact ⟨q_e, bq⟩
         ·rw [if_neg c28] at H
          exact absurd H (by simp)
        ·rw [if_neg c27] at H
         exact absurd H (by simp)
       ·rw [if_neg c26] at H
        exact absurd H (by simp)
      ·rw [if_neg c25] at H
       exact absurd H (by simp)
     ·rw [if_neg c24] at H
      have c24b0 := decide_eq_false c24
      clear c24
      obtain rfl := Option.some.inj H
      go_wp2
      go_ret
      exact ⟨q_e, bq⟩
 ·rw [if_neg c4] at H
  have c4b0 : (t177 == 0) = false := beq_eq_false_iff_ne.mpr c4
  have c4b1 : (t177 != 0) = true := bne_iff_ne.mpr c4
  obtain rfl := Option.some.inj H
  go_enter Try.func61, Try.ntmps61
  go_wp2_with (first | ((with_reducible refine gate_dst (N := 2) rfl ?_); refine q_box (N := 2) (cs := #[.slice A0_0 l0_0.length c0_0]) (t := 26) ?_; intro gb175 hg w45 hbox hb; have n0_ := am (below_step bq hb); have n1_ := am (hbox); have n2_ := am ((q_g hg bq : w.heap.size ≤ gb175)); have n3_ := n2_; revert n0_ n1_ n2_ n3_; clear HB; intro HB BK175 GW175 GE175; clear hb hbox hg) | ((with_reducible refine gate_dst (N := 3) rfl ?_); refine q_box (N := 3) (cs := #[.int .i64 a1_0, .slice A1_1 l1_1.length c1_1]) (t := 40) ?_; intro gb176 hg w46 hbox hb; have n0_ := am (blk_below (q_b BK175.out) hb); have n1_ := am (below_step bq hb); have n2_ := am (hbox); have n3_ := am ((q_g hg bq : w.heap.size ≤ gb176)); have n4_ := n3_; have n5_ := am ((q_n hg (q_b BK175.out) : gb175 ≠ gb176)); have n6_ := am n5_.out.symm; revert n0_ n1_ n2_ n3_ n4_ n5_ n6_; clear BK175 HB; intro BK175 HB BK176 GW176 GE176 NB175_176 NB176_175; clear hb hbox hg; have hnb47 := NB176_175.out; have hnc47 := NB175_176.out; obtain ⟨hcz48_0, hcz48_1, hfz48_0, hfz48_1⟩ := q_2 BK176.out) | ((with_reducible refine gate_callee (f := 93) rfl ?_); refine goesLq (some 10) rfl rfl Try.func93 (by kernel_rfl) rfl #[.agg #[.int .i64 a1_0, .slice A1_1 l1_1.length c1_1]] rfl ?_; (with_reducible refine (impl_ContractFault.calls k a1_0 _ _ l1_1 t177 _ ?side1 ?side2 A3.out).mono ?_); (case side1 => exact q_c ((Kd.C_below HR1_1.out HB.out))); (case side2 => exact HC1_1.out); rintro e w49 ⟨rfl, hb⟩; refine ⟨_, rfl, ?_⟩; have n0_ := am (blk_below (q_b BK175.out) hb); have n1_ := am (blk_below (q_b BK176.out) hb); have n2_ := am (below_step bq hb); revert n0_ n1_ n2_; clear BK175 BK176 HB; intro BK175 BK176 HB; (try clear hb); (try clear hb2); (try clear hk); (try clear hi)))
  go_ret
  exact ⟨q_e, bq⟩

end Go.Proofs.Ytanegggacfmkcaa.PFnExactSettleAll
