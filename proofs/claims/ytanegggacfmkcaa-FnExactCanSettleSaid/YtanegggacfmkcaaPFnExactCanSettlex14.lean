/- The functions that a law reaches, each as a plain Lean function with the proof that the machine comes to its answer: written by program (the kit's print, turned by wip/gen). No conditions. -/
import Derived.Test.YtanegggacfmkcaaPFnExactCanSettlex0
import Derived.Test.YtanegggacfmkcaaPFnExactCanSettlex1
import Derived.Test.YtanegggacfmkcaaPFnExactCanSettlex2
import Derived.Test.YtanegggacfmkcaaPFnExactCanSettlex3
import Derived.Test.YtanegggacfmkcaaPFnExactCanSettlex6
import Derived.Test.YtanegggacfmkcaaPFnExactCanSettlex13
namespace Go.Proofs.Ytanegggacfmkcaa.PFnExactCanSettle
open Go.RowKit Go.Proofs.YtanegggacfmkcaaW.PrintWords Go.Proofs.YtanegggacfmkcaaW.PrintLast Go.Proofs.YtanegggacfmkcaaW.PrintMore
attribute [local go_sem] max2_int min2_int max_two min_two max_three min_three max_four min_four   -- for this text's walks alone
set_option linter.unusedVariables false
set_option linter.unusedSimpArgs false

/-! ### laws_FnExactCanSettle: function 11 -/
def laws_FnExactCanSettle.f (k : Nat) (l0_0 : List (List (S115))) (a1_0 : Int) (l1_1 : List (S137)) : Option (Bool) := (laws_szLedger.f k l0_0 1048576).bind fun t298 => (if t298 < 0 then (some true) else ((laws_szContract.f a1_0 l1_1 t298).bind fun t299 => (if t299 < 0 then (some true) else ((laws_toLedger.f k l0_0).bind fun t300 => ((laws_toContract.f k a1_0 l1_1).bind fun bt303 => ((spec_CanSettle.f k t300 bt303.1 bt303.2).bind fun t307 => ((laws_toLedger.f k l0_0).bind fun t308 => ((laws_toContract.f k a1_0 l1_1).bind fun bt312 => ((impl_CanSettle.f k t308 bt312.1 bt312.2).bind fun t317 => (if t317 = t307 then ((laws_toLedger.f k l0_0).bind fun t318 => ((laws_eqLedger.f k t308 t318).bind fun t321 => (if t321 = true then ((laws_toContract.f k a1_0 l1_1).bind fun bt322 => ((laws_eqContract.f k bt312.1 bt312.2 bt322.1 bt322.2).bind fun t326 => (if t326 = true then (some true) else (some false)))) else (some false)))) else (some false)))))))))))
set_option maxHeartbeats 8000000 in
set_option maxRecDepth 100000 in
theorem laws_FnExactCanSettle.calls (k : Nat) (A0_0 : Option Addr) (c0_0 : Nat) (l0_0 : List (List (S115))) (a1_0 : Int) (A1_1 : Option Addr) (c1_1 : Nat) (l1_1 : List (S137)) (r : Bool) (w : World) (hr0_0 : Kd.C (Kd.slice 115 k115) w A0_0 l0_0.length l0_0) (hc0_0 : l0_0.length ≤ c0_0) (hr1_1 : Kd.C k137 w A1_1 l1_1.length l1_1) (hc1_1 : l1_1.length ≤ c1_1) (h : laws_FnExactCanSettle.f k l0_0 a1_0 l1_1 = some r) :
  Calls Try.prog 11 #[.agg #[.slice A0_0 l0_0.length c0_0], .agg #[.int .i64 a1_0, .slice A1_1 l1_1.length c1_1]] w fun e w' => e = .returned (.bool r) ∧ Below w.heap.size w w' := by
 have hu47 := Try.underlying47
 have hu50 := Try.underlying50
 have hu26 := Try.underlying26
 have hu40 := Try.underlying40
 have HR0_0 := Aside0.mk hr0_0
 have HC0_0 := Aside0.mk hc0_0
 clear hr0_0 hc0_0
 have HR1_1 := Aside0.mk hr1_1
 have HC1_1 := Aside0.mk hc1_1
 clear hr1_1 hc1_1
 have HB := Aside0.mk (Below.refl w.heap.size w)
 have H : ((laws_szLedger.f k l0_0 1048576).bind fun t298 => (if t298 < 0 then (some true) else ((laws_szContract.f a1_0 l1_1 t298).bind fun t299 => (if t299 < 0 then (some true) else ((laws_toLedger.f k l0_0).bind fun t300 => ((laws_toContract.f k a1_0 l1_1).bind fun bt303 => ((spec_CanSettle.f k t300 bt303.1 bt303.2).bind fun t307 => ((laws_toLedger.f k l0_0).bind fun t308 => ((laws_toContract.f k a1_0 l1_1).bind fun bt312 => ((impl_CanSettle.f k t308 bt312.1 bt312.2).bind fun t317 => (if t317 = t307 then ((laws_toLedger.f k l0_0).bind fun t318 => ((laws_eqLedger.f k t308 t318).bind fun t321 => (if t321 = true then ((laws_toContract.f k a1_0 l1_1).bind fun bt322 => ((laws_eqContract.f k bt312.1 bt312.2 bt322.1 bt322.2).bind fun t326 => (if t326 = true then (some true) else (some false)))) else (some false)))) else (some false)))))))))))) = some r := h
 clear h
 replace H := Option.bind_eq_some_iff.mp H
 obtain ⟨t298, A30, H⟩ := H
 replace H : (if t298 < 0 then (some true) else ((laws_szContract.f a1_0 l1_1 t298).bind fun t299 => (if t299 < 0 then (some true) else ((laws_toLedger.f k l0_0).bind fun t300 => ((laws_toContract.f k a1_0 l1_1).bind fun bt303 => ((spec_CanSettle.f k t300 bt303.1 bt303.2).bind fun t307 => ((laws_toLedger.f k l0_0).bind fun t308 => ((laws_toContract.f k a1_0 l1_1).bind fun bt312 => ((impl_CanSettle.f k t308 bt312.1 bt312.2).bind fun t317 => (if t317 = t307 then ((laws_toLedger.f k l0_0).bind fun t318 => ((laws_eqLedger.f k t308 t318).bind fun t321 => (if t321 = true then ((laws_toContract.f k a1_0 l1_1).bind fun bt322 => ((laws_eqContract.f k bt312.1 bt312.2 bt322.1 bt322.2).bind fun t326 => (if t326 = true then (some true) else (some false)))) else (some false)))) else (some false))))))))))) = some r := H
 have A3 := Aside0.mk A30
 clear A30
 by_cases c4 : t298 < 0
 ·rw [if_pos c4] at H
  have c4b0 := decide_eq_true c4
  clear c4
  obtain rfl := Option.some.inj H
  go_enter Try.func11, Try.ntmps11
  go_wp2_with (first | ((with_reducible refine gate_dst (N := 2) rfl ?_); refine q_box (N := 2) (cs := #[.slice A0_0 l0_0.length c0_0]) (t := 47) ?_; intro gb296 hg w5 hbox hb; have n0_ := Aside0.mk (below_step bq hb); have n1_ := Aside0.mk (hbox); have n2_ := Aside0.mk ((q_g hg bq : w.heap.size ≤ gb296)); have n3_ := Aside0.mk ((q_g hg bq : w.heap.size ≤ gb296)); revert n0_ n1_ n2_ n3_; clear HB; intro HB BK296 GW296 GE296; clear hb hbox hg) | ((with_reducible refine gate_dst (N := 3) rfl ?_); refine q_box (N := 3) (cs := #[.int .i64 a1_0, .slice A1_1 l1_1.length c1_1]) (t := 50) ?_; intro gb297 hg w6 hbox hb; have n0_ := Aside0.mk (blk_below (q_b BK296.out) hb); have n1_ := Aside0.mk (below_step bq hb); have n2_ := Aside0.mk (hbox); have n3_ := Aside0.mk ((q_g hg bq : w.heap.size ≤ gb297)); have n4_ := Aside0.mk ((q_g hg bq : w.heap.size ≤ gb297)); have n5_ := Aside0.mk ((q_n hg (q_b BK296.out) : gb296 ≠ gb297)); have n6_ := Aside0.mk ((q_m hg (q_b BK296.out) : gb297 ≠ gb296)); revert n0_ n1_ n2_ n3_ n4_ n5_ n6_; clear BK296 HB; intro BK296 HB BK297 GW297 GE297 NB296_297 NB297_296; clear hb hbox hg; have hnb7 := NB296_297.out; have hnc7 := NB297_296.out; obtain ⟨hcz8_0, hfz8_0⟩ := q_1 BK296.out) | ((with_reducible refine gate_callee (f := 21) rfl ?_); refine goesLq (some 12) rfl rfl Try.func21 (by kernel_rfl) rfl #[.agg #[.slice A0_0 l0_0.length c0_0], .int .i64 1048576] rfl ?_; (with_reducible refine (laws_szLedger.calls k _ _ l0_0 1048576 t298 _ ?side1 ?side2 A3.out).mono ?_); (case side1 => exact q_c ((Kd.C_below HR0_0.out HB.out))); (case side2 => exact HC0_0.out); rintro e w9 ⟨rfl, hb⟩; refine ⟨_, rfl, ?_⟩; have n0_ := Aside0.mk (blk_below (q_b BK296.out) hb); have n1_ := Aside0.mk (blk_below (q_b BK297.out) hb); have n2_ := Aside0.mk (below_step bq hb); revert n0_ n1_ n2_; clear BK296 BK297 HB; intro BK296 BK297 HB; (try clear hb); (try clear hb2); (try clear hk); (try clear hi)))
  go_ret
  exact ⟨q_e, bq⟩
 ·rw [if_neg c4] at H
  have c4b0 := decide_eq_false c4
  clear c4
  replace H := Option.bind_eq_some_iff.mp H
  obtain ⟨t299, A100, H⟩ := H
  replace H : (if t299 < 0 then (some true) else ((laws_toLedger.f k l0_0).bind fun t300 => ((laws_toContract.f k a1_0 l1_1).bind fun bt303 => ((spec_CanSettle.f k t300 bt303.1 bt303.2).bind fun t307 => ((laws_toLedger.f k l0_0).bind fun t308 => ((laws_toContract.f k a1_0 l1_1).bind fun bt312 => ((impl_CanSettle.f k t308 bt312.1 bt312.2).bind fun t317 => (if t317 = t307 then ((laws_toLedger.f k l0_0).bind fun t318 => ((laws_eqLedger.f k t308 t318).bind fun t321 => (if t321 = true then ((laws_toContract.f k a1_0 l1_1).bind fun bt322 => ((laws_eqContract.f k bt312.1 bt312.2 bt322.1 bt322.2).bind fun t326 => (if t326 = true then (some true) else (some false)))) else (some false)))) else (some false))))))))) = some r := H
  have A10 := Aside0.mk A100
  clear A100
  by_cases c11 : t299 < 0
  ·rw [if_pos c11] at H
   have c11b0 := decide_eq_true c11
   clear c11
   obtain rfl := Option.some.inj H
   go_enter Try.func11, Try.ntmps11
   go_wp2_with (first | ((with_reducible refine gate_dst (N := 2) rfl ?_); refine q_box (N := 2) (cs := #[.slice A0_0 l0_0.length c0_0]) (t := 47) ?_; intro gb296 hg w12 hbox hb; have n0_ := Aside0.mk (below_step bq hb); have n1_ := Aside0.mk (hbox); have n2_ := Aside0.mk ((q_g hg bq : w.heap.size ≤ gb296)); have n3_ := Aside0.mk ((q_g hg bq : w.heap.size ≤ gb296)); revert n0_ n1_ n2_ n3_; clear HB; intro HB BK296 GW296 GE296; clear hb hbox hg) | ((with_reducible refine gate_dst (N := 3) rfl ?_); refine q_box (N := 3) (cs := #[.int .i64 a1_0, .slice A1_1 l1_1.length c1_1]) (t := 50) ?_; intro gb297 hg w13 hbox hb; have n0_ := Aside0.mk (blk_below (q_b BK296.out) hb); have n1_ := Aside0.mk (below_step bq hb); have n2_ := Aside0.mk (hbox); have n3_ := Aside0.mk ((q_g hg bq : w.heap.size ≤ gb297)); have n4_ := Aside0.mk ((q_g hg bq : w.heap.size ≤ gb297)); have n5_ := Aside0.mk ((q_n hg (q_b BK296.out) : gb296 ≠ gb297)); have n6_ := Aside0.mk ((q_m hg (q_b BK296.out) : gb297 ≠ gb296)); revert n0_ n1_ n2_ n3_ n4_ n5_ n6_; clear BK296 HB; intro BK296 HB BK297 GW297 GE297 NB296_297 NB297_296; clear hb hbox hg; have hnb14 := NB296_297.out; have hnc14 := NB297_296.out; obtain ⟨hcz15_0, hfz15_0⟩ := q_1 BK296.out) | ((with_reducible refine gate_callee (f := 21) rfl ?_); refine goesLq (some 12) rfl rfl Try.func21 (by kernel_rfl) rfl #[.agg #[.slice A0_0 l0_0.length c0_0], .int .i64 1048576] rfl ?_; (with_reducible refine (laws_szLedger.calls k _ _ l0_0 1048576 t298 _ ?side1 ?side2 A3.out).mono ?_); (case side1 => exact q_c ((Kd.C_below HR0_0.out HB.out))); (case side2 => exact HC0_0.out); rintro e w16 ⟨rfl, hb⟩; refine ⟨_, rfl, ?_⟩; have n0_ := Aside0.mk (blk_below (q_b BK296.out) hb); have n1_ := Aside0.mk (blk_below (q_b BK297.out) hb); have n2_ := Aside0.mk (below_step bq hb); revert n0_ n1_ n2_; clear BK296 BK297 HB; intro BK296 BK297 HB; (try clear hb); (try clear hb2); (try clear hk); (try clear hi); obtain ⟨hcz17_0, hcz17_1, hfz17_0, hfz17_1⟩ := q_2 BK297.out) | ((with_reducible refine gate_callee (f := 22) rfl ?_); refine goesLq (some 17) rfl rfl Try.func22 (by kernel_rfl) rfl #[.agg #[.int .i64 a1_0, .slice A1_1 l1_1.length c1_1], .int .i64 t298] rfl ?_; (with_reducible refine (laws_szContract.calls a1_0 _ _ l1_1 t298 t299 _ ?side1 ?side2 A10.out).mono ?_); (case side1 => exact q_c ((Kd.C_below HR1_1.out HB.out))); (case side2 => exact HC1_1.out); rintro e w18 ⟨rfl, hb⟩; refine ⟨_, rfl, ?_⟩; have n0_ := Aside0.mk (blk_below (q_b BK296.out) hb); have n1_ := Aside0.mk (blk_below (q_b BK297.out) hb); have n2_ := Aside0.mk (below_step bq hb); revert n0_ n1_ n2_; clear BK296 BK297 HB; intro BK296 BK297 HB; (try clear hb); (try clear hb2); (try clear hk); (try clear hi)))
   go_ret
   exact ⟨q_e, bq⟩
  ·rw [if_neg c11] at H
   have c11b0 := decide_eq_false c11
   clear c11
   replace H := Option.bind_eq_some_iff.mp H
   obtain ⟨t300, A190, H⟩ := H
   replace H : ((laws_toContract.f k a1_0 l1_1).bind fun bt303 => ((spec_CanSettle.f k t300 bt303.1 bt303.2).bind fun t307 => ((laws_toLedger.f k l0_0).bind fun t308 => ((laws_toContract.f k a1_0 l1_1).bind fun bt312 => ((impl_CanSettle.f k t308 bt312.1 bt312.2).bind fun t317 => (if t317 = t307 then ((laws_toLedger.f k l0_0).bind fun t318 => ((laws_eqLedger.f k t308 t318).bind fun t321 => (if t321 = true then ((laws_toContract.f k a1_0 l1_1).bind fun bt322 => ((laws_eqContract.f k bt312.1 bt312.2 bt322.1 bt322.2).bind fun t326 => (if t326 = true then (some true) else (some false)))) else (some false)))) else (some false))))))) = some r := H
   have A19 := Aside0.mk A190
   clear A190
   replace H := Option.bind_eq_some_iff.mp H
   obtain ⟨⟨t303, t304⟩, A200, H⟩ := H
   replace H : ((spec_CanSettle.f k t300 t303 t304).bind fun t307 => ((laws_toLedger.f k l0_0).bind fun t308 => ((laws_toContract.f k a1_0 l1_1).bind fun bt312 => ((impl_CanSettle.f k t308 bt312.1 bt312.2).bind fun t317 => (if t317 = t307 then ((laws_toLedger.f k l0_0).bind fun t318 => ((laws_eqLedger.f k t308 t318).bind fun t321 => (if t321 = true then ((laws_toContract.f k a1_0 l1_1).bind fun bt322 => ((laws_eqContract.f k bt312.1 bt312.2 bt322.1 bt322.2).bind fun t326 => (if t326 = true then (some true) else (some false)))) else (some false)))) else (some false)))))) = some r := H
   have A20 := Aside0.mk A200
   clear A200
   replace H := Option.bind_eq_some_iff.mp H
   obtain ⟨t307, A210, H⟩ := H
   replace H : ((laws_toLedger.f k l0_0).bind fun t308 => ((laws_toContract.f k a1_0 l1_1).bind fun bt312 => ((impl_CanSettle.f k t308 bt312.1 bt312.2).bind fun t317 => (if t317 = t307 then ((laws_toLedger.f k l0_0).bind fun t318 => ((laws_eqLedger.f k t308 t318).bind fun t321 => (if t321 = true then ((laws_toContract.f k a1_0 l1_1).bind fun bt322 => ((laws_eqContract.f k bt312.1 bt312.2 bt322.1 bt322.2).bind fun t326 => (if t326 = true then (some true) else (some false)))) else (some false)))) else (some false))))) = some r := H
   have A21 := Aside0.mk A210
   clear A210
   replace H := Option.bind_eq_some_iff.mp H
   obtain ⟨t308, A220, H⟩ := H
   replace H : ((laws_toContract.f k a1_0 l1_1).bind fun bt312 => ((impl_CanSettle.f k t308 bt312.1 bt312.2).bind fun t317 => (if t317 = t307 then ((laws_toLedger.f k l0_0).bind fun t318 => ((laws_eqLedger.f k t308 t318).bind fun t321 => (if t321 = true then ((laws_toContract.f k a1_0 l1_1).bind fun bt322 => ((laws_eqContract.f k bt312.1 bt312.2 bt322.1 bt322.2).bind fun t326 => (if t326 = true then (some true) else (some false)))) else (some false)))) else (some false)))) = some r := H
   have A22 := Aside0.mk A220
   clear A220
   replace H := Option.bind_eq_some_iff.mp H
   obtain ⟨⟨t312, t313⟩, A230, H⟩ := H
   replace H : ((impl_CanSettle.f k t308 t312 t313).bind fun t317 => (if t317 = t307 then ((laws_toLedger.f k l0_0).bind fun t318 => ((laws_eqLedger.f k t308 t318).bind fun t321 => (if t321 = true then ((laws_toContract.f k a1_0 l1_1).bind fun bt322 => ((laws_eqContract.f k t312 t313 bt322.1 bt322.2).bind fun t326 => (if t326 = true then (some true) else (some false)))) else (some false)))) else (some false))) = some r := H
   have A23 := Aside0.mk A230
   clear A230
   replace H := Option.bind_eq_some_iff.mp H
   obtain ⟨t317, A240, H⟩ := H
   replace H : (if t317 = t307 then ((laws_toLedger.f k l0_0).bind fun t318 => ((laws_eqLedger.f k t308 t318).bind fun t321 => (if t321 = true then ((laws_toContract.f k a1_0 l1_1).bind fun bt322 => ((laws_eqContract.f k t312 t313 bt322.1 bt322.2).bind fun t326 => (if t326 = true then (some true) else (some false)))) else (some false)))) else (some false)) = some r := H
   have A24 := Aside0.mk A240
   clear A240
   by_cases c25 : t317 = t307
   ·rw [if_pos c25] at H
    have c25b0 : (t317 == t307) = true := beq_iff_eq.mpr c25
    have c25b1 : (t317 != t307) = false := bne_eq_false_iff_eq.mpr c25
    clear c25
    replace H := Option.bind_eq_some_iff.mp H
    obtain ⟨t318, A260, H⟩ := H
    replace H : ((laws_eqLedger.f k t308 t318).bind fun t321 => (if t321 = true then ((laws_toContract.f k a1_0 l1_1).bind fun bt322 => ((laws_eqContract.f k t312 t313 bt322.1 bt322.2).bind fun t326 => (if t326 = true then (some true) else (some false)))) else (some false))) = some r := H
    have A26 := Aside0.mk A260
    clear A260
    replace H := Option.bind_eq_some_iff.mp H
    obtain ⟨t321, A270, H⟩ := H
    replace H : (if t321 = true then ((laws_toContract.f k a1_0 l1_1).bind fun bt322 => ((laws_eqContract.f k t312 t313 bt322.1 bt322.2).bind fun t326 => (if t326 = true then (some true) else (some false)))) else (some false)) = some r := H
    have A27 := Aside0.mk A270
    clear A270
    by_cases c28 : t321 = true
    ·subst c28
     have H1 : ((laws_toContract.f k a1_0 l1_1).bind fun bt322 => ((laws_eqContract.f k t312 t313 bt322.1 bt322.2).bind fun t326 => (if t326 = true then (some true) else (some false)))) = some r := by rw [if_pos rfl] at H; exact H
     clear H
     have H := H1
     clear H1
     replace H := Option.bind_eq_some_iff.mp H
     obtain ⟨⟨t322, t323⟩, A290, H⟩ := H
     replace H : ((laws_eqContract.f k t312 t313 t322 t323).bind fun t326 => (if t326 = true then (some true) else (some false))) = some r := H
     have A29 := Aside0.mk A290
     clear A290
     replace H := Option.bind_eq_some_iff.mp H
     obtain ⟨t326, A300, H⟩ := H
     replace H : (if t326 = true then (some true) else (some false)) = some r := H
     have A30 := Aside0.mk A300
     clear A300
     by_cases c31 : t326 = true
     ·subst c31
      have H1 : (some true) = some r := by rw [if_pos rfl] at H; exact H
      clear H
      have H := H1
      clear H1
      obtain rfl := Option.some.inj H
      go_enter Try.func11, Try.ntmps11
      try go_wp2_with (first | ((with_reducible refine gate_dst (N := 2) rfl ?_); refine q_box (N := 2) (cs := #[.slice A0_0 l0_0.length c0_0]) (t := 47) ?_; intro gb296 hg w32 hbox hb; have n0_ := Aside0.mk (below_step bq hb); have n1_ := Aside0.mk (hbox); have n2_ := Aside0.mk ((q_g hg bq : w.heap.size ≤ gb296)); have n3_ := Aside0.mk ((q_g hg bq : w.heap.size ≤ gb296)); revert n0_ n1_ n2_ n3_; clear HB; intro HB BK296 GW296 GE296; clear hb hbox hg) | ((with_reducible refine gate_dst (N := 3) rfl ?_); refine q_box (N := 3) (cs := #[.int .i64 a1_0, .slice A1_1 l1_1.length c1_1]) (t := 50) ?_; intro gb297 hg w33 hbox hb; have n0_ := Aside0.mk (blk_below (q_b BK296.out) hb); have n1_ := Aside0.mk (below_step bq hb); have n2_ := Aside0.mk (hbox); have n3_ := Aside0.mk ((q_g hg bq : w.heap.size ≤ gb297)); have n4_ := Aside0.mk ((q_g hg bq : w.heap.size ≤ gb297)); have n5_ := Aside0.mk ((q_n hg (q_b BK296.out) : gb296 ≠ gb297)); have n6_ := Aside0.mk ((q_m hg (q_b BK296.out) : gb297 ≠ gb296)); revert n0_ n1_ n2_ n3_ n4_ n5_ n6_; clear BK296 HB; intro BK296 HB BK297 GW297 GE297 NB296_297 NB297_296; clear hb hbox hg; have hnb34 := NB296_297.out; have hnc34 := NB297_296.out; obtain ⟨hcz35_0, hfz35_0⟩ := q_1 BK296.out) | ((with_reducible refine gate_callee (f := 21) rfl ?_); refine goesLq (some 12) rfl rfl Try.func21 (by kernel_rfl) rfl #[.agg #[.slice A0_0 l0_0.length c0_0], .int .i64 1048576] rfl ?_; (with_reducible refine (laws_szLedger.calls k _ _ l0_0 1048576 t298 _ ?side1 ?side2 A3.out).mono ?_); (case side1 => exact q_c ((Kd.C_below HR0_0.out HB.out))); (case side2 => exact HC0_0.out); rintro e w36 ⟨rfl, hb⟩; refine ⟨_, rfl, ?_⟩; have n0_ := Aside0.mk (blk_below (q_b BK296.out) hb); have n1_ := Aside0.mk (blk_below (q_b BK297.out) hb); have n2_ := Aside0.mk (below_step bq hb); revert n0_ n1_ n2_; clear BK296 BK297 HB; intro BK296 BK297 HB; (try clear hb); (try clear hb2); (try clear hk); (try clear hi); obtain ⟨hcz37_0, hcz37_1, hfz37_0, hfz37_1⟩ := q_2 BK297.out) | ((with_reducible refine gate_callee (f := 22) rfl ?_); refine goesLq (some 17) rfl rfl Try.func22 (by kernel_rfl) rfl #[.agg #[.int .i64 a1_0, .slice A1_1 l1_1.length c1_1], .int .i64 t298] rfl ?_; (with_reducible refine (laws_szContract.calls a1_0 _ _ l1_1 t298 t299 _ ?side1 ?side2 A10.out).mono ?_); (case side1 => exact q_c ((Kd.C_below HR1_1.out HB.out))); (case side2 => exact HC1_1.out); rintro e w38 ⟨rfl, hb⟩; refine ⟨_, rfl, ?_⟩; have n0_ := Aside0.mk (blk_below (q_b BK296.out) hb); have n1_ := Aside0.mk (blk_below (q_b BK297.out) hb); have n2_ := Aside0.mk (below_step bq hb); revert n0_ n1_ n2_; clear BK296 BK297 HB; intro BK296 BK297 HB; (try clear hb); (try clear hb2); (try clear hk); (try clear hi)))
      have n0_ := Aside0.mk (blk_drew BK296.out)
      have n1_ := Aside0.mk (blk_drew BK297.out)
      have n2_ := Aside0.mk (below_drew1 HB.out)
      clear BK296
      clear BK297
      clear HB
      have BK296 := n0_
      have BK297 := n1_
      have HB := n2_
      clear n0_ n1_ n2_
      refine start_ (n := 6) (S := fun w' => w'.cell? ⟨gb296, 0, none⟩ = some (.slice A0_0 l0_0.length c0_0) ∧ w'.cell? ⟨gb297, 0, none⟩ = some (.int .i64 a1_0) ∧ w'.cell? ⟨gb297, 1, none⟩ = some (.slice A1_1 l1_1.length c1_1)) (ds := []) #[false, false, false, false, false, false] (by kernel_rfl) rfl rfl ⟨(blk_cell BK296.out 0).trans rfl, (blk_cell BK297.out 0).trans rfl, (blk_cell BK297.out 1).trans rfl⟩ (fun hHeld => ?_)
      generalize w38.drew = w39 at BK296 BK297 HB hHeld ⊢
      refine take_ (i := 0) (N := some 20) (v := ?_) (a' := ?_) #[true, false, false, false, false, false] rfl rfl (by kernel_rfl) (fun _ _ _ h => h) (Or.inl ⟨by rfl, ?_⟩) hHeld ?_ ?_
      rotate_left
      ·rintro w' ⟨s0, s1, s2⟩
       go_simp
       with_reducible rfl
      rotate_left
      ·simp only [Act.put, List.setIfInBounds_toArray, List.set_cons_zero, List.set_cons_succ, i64_w, i32_w]
       rfl
      refine take_ (i := 2) (N := some 22) (v := ?_) (a' := ?_) #[true, false, true, false, false, false] rfl rfl (by kernel_rfl) (fun _ _ _ h => h) (Or.inl ⟨by rfl, ?_⟩) hHeld ?_ ?_
      rotate_left
      ·rintro w' ⟨s0, s1, s2⟩
       go_simp
       with_reducible rfl
      rotate_left
      ·simp only [Act.put, List.setIfInBounds_toArray, List.set_cons_zero, List.set_cons_succ, i64_w, i32_w]
       rfl
      refine one_ (i := 1) (N := some 21) #[true, true, true, false, false, false] rfl rfl (by kernel_rfl) (by decide) (fun K hK => ?_)
      refine goes_ Try.func24 (by kernel_rfl) rfl #[.agg #[.slice A0_0 l0_0.length c0_0]] (by rfl) rfl rfl (by (try simp only [List.map_toArray, List.map_cons, List.map_nil]); first | done | rfl | (simp only [List.length_drop, List.length_take]; rfl)) ?_
      with_reducible refine (laws_toLedger.calls k _ _ l0_0 t300 _ ?side1 ?side2 A19.out).mono ?_
      (case side1 => exact q_c ((Kd.C_below HR0_0.out HB.out)))
      (case side2 => exact HC0_0.out)
      rintro e w40 ⟨v301, rfl, ho0, hb⟩
      refine ⟨_, rfl, ?_⟩
      have n0_ := Aside0.mk (Kd.S_lower ho0 (below_size bq))
      have n1_ := Aside0.mk (blk_below (q_b BK296.out) hb)
      have n2_ := Aside0.mk (blk_below (q_b BK297.out) hb)
      have n3_ := Aside0.mk (below_step bq hb)
      clear BK296
      clear BK297
      clear HB
      have HO302 := n0_
      have BK296 := n1_
      have BK297 := n2_
      have HB := n3_
      clear n0_ n1_ n2_ n3_
      (try clear hb)
      (try clear hb2)
      (try clear hk)
      (try clear hi)
      (try clear ho0)
      refine hK.out _ _ ⟨(blk_cell BK296.out 0).trans rfl, (blk_cell BK297.out 0).trans rfl, (blk_cell BK297.out 1).trans rfl⟩ (fun hHeld => ?_)
      clear hK K
      refine norm_ (a' := ?_) ?_ ?_
      rotate_left
      ·show Act.put _ (some 21) _ = _
       simp only [Act.put, List.setIfInBounds_toArray, List.set_cons_zero, List.set_cons_succ, i64_w, i32_w]
       rfl
      refine one_ (i := 3) (N := some 23) #[true, true, true, true, false, false] rfl rfl (by kernel_rfl) (by decide) (fun K hK => ?_)
      refine goes_ Try.func25 (by kernel_rfl) rfl #[.agg #[.int .i64 a1_0, .slice A1_1 l1_1.length c1_1]] (by rfl) rfl rfl (by (try simp only [List.map_toArray, List.map_cons, List.map_nil]); first | done | rfl | (simp only [List.length_drop, List.length_take]; rfl)) ?_
      with_reducible refine (laws_toContract.calls k a1_0 _ _ l1_1 t303 t304 _ ?side1 ?side2 A20.out).mono ?_
      (case side1 => exact q_c ((Kd.C_below HR1_1.out HB.out)))
      (case side2 => exact HC1_1.out)
      rintro e w41 ⟨v305, rfl, ho0, hb⟩
      refine ⟨_, rfl, ?_⟩
      have n0_ := Aside0.mk (Kd.S_below (q_s (HO302.out)) hb)
      have n1_ := Aside0.mk (Kd.R_lower ho0 (below_size bq))
      have n2_ := Aside0.mk (blk_below (q_b BK296.out) hb)
      have n3_ := Aside0.mk (blk_below (q_b BK297.out) hb)
      have n4_ := Aside0.mk (below_step bq hb)
      clear HO302
      clear BK296
      clear BK297
      clear HB
      have HO302 := n0_
      have HO306 := n1_
      have BK296 := n2_
      have BK297 := n3_
      have HB := n4_
      clear n0_ n1_ n2_ n3_ n4_
      (try clear hb)
      (try clear hb2)
      (try clear hk)
      (try clear hi)
      (try clear ho0)
      obtain ⟨Ao42, co42, eo42⟩ := Kd.S_slice HO302.out
      (first | subst eo42 | (injection eo42 with f1_ f2_ f3_; have f4_ := f1_.symm; have f5_ := f3_.symm; clear f1_ f2_ f3_; subst f4_; subst f5_))
      obtain ⟨Ao43, co43, eo43⟩ := Kd.R_slice HO306.out
      (first | subst eo43 | (injection eo43 with f1_ f2_ f3_; have f4_ := f1_.symm; have f5_ := f3_.symm; clear f1_ f2_ f3_; subst f4_; subst f5_))
      refine hK.out _ _ ⟨(blk_cell BK296.out 0).trans rfl, (blk_cell BK297.out 0).trans rfl, (blk_cell BK297.out 1).trans rfl⟩ (fun hHeld => ?_)
      clear hK K
      refine norm_ (a' := ?_) ?_ ?_
      rotate_left
      ·show Act.put _ (some 23) _ = _
       simp only [Act.put, List.setIfInBounds_toArray, List.set_cons_zero, List.set_cons_succ, i64_w, i32_w]
       rfl
      refine one_ (i := 4) (N := some 24) #[true, true, true, true, true, false] rfl rfl (by kernel_rfl) (by decide) (fun K hK => ?_)
      refine goes_ Try.func51 (by kernel_rfl) rfl #[.agg #[.slice Ao42 t300.length co42], .agg #[.int .i64 t303, .slice Ao43 t304.length co43]] (by rfl) rfl rfl (by (try simp only [List.map_toArray, List.map_cons, List.map_nil]); first | done | rfl | (simp only [List.length_drop, List.length_take]; rfl)) ?_
      with_reducible refine (spec_CanSettle.calls k _ _ t300 t303 _ _ t304 t307 _ ?side1 ?side2 ?side3 ?side4 A21.out).mono ?_
      (case side1 => exact q_c ((Kd.S_reads' HO302.out).2.2))
      (case side2 => exact (Kd.S_reads' HO302.out).2.1)
      (case side3 => exact q_c ((Kd.R_reads' HO306.out).2.2))
      (case side4 => exact (Kd.R_reads' HO306.out).2.1)
      rintro e w44 ⟨rfl, hb⟩
      refine ⟨_, rfl, ?_⟩
      have n0_ := Aside0.mk (Kd.S_below (q_s (HO302.out)) hb)
      have n1_ := Aside0.mk (Kd.R_below (q_r (HO306.out)) hb)
      have n2_ := Aside0.mk (blk_below (q_b BK296.out) hb)
      have n3_ := Aside0.mk (blk_below (q_b BK297.out) hb)
      have n4_ := Aside0.mk (below_step bq hb)
      clear HO302
      clear HO306
      clear BK296
      clear BK297
      clear HB
      have HO302 := n0_
      have HO306 := n1_
      have BK296 := n2_
      have BK297 := n3_
      have HB := n4_
      clear n0_ n1_ n2_ n3_ n4_
      (try clear hb)
      (try clear hb2)
      (try clear hk)
      (try clear hi)
      refine hK.out _ _ ⟨(blk_cell BK296.out 0).trans rfl, (blk_cell BK297.out 0).trans rfl, (blk_cell BK297.out 1).trans rfl⟩ (fun hHeld => ?_)
      clear hK K
      refine norm_ (a' := ?_) ?_ ?_
      rotate_left
      ·show Act.put _ (some 24) _ = _
       simp only [Act.put, List.setIfInBounds_toArray, List.set_cons_zero, List.set_cons_succ, i64_w, i32_w]
       rfl
      refine pure_ (i := 5) (N := some 6) (v := ?_) (a' := ?_) #[true, true, true, true, true, true] rfl rfl (by kernel_rfl) (fun _ _ _ h => h) (Or.inl ⟨by rfl, ?_⟩) ?_ ?_
      rotate_left
      ·intro w'
       go_simp
       with_reducible rfl
      rotate_left
      ·simp only [Act.put, List.setIfInBounds_toArray, List.set_cons_zero, List.set_cons_succ, i64_w, i32_w]
       rfl
      refine done_ (by kernel_rfl) ?_
      obtain ⟨hcz45_0, hfz45_0⟩ := q_1 BK296.out
      try go_wp2_with (first | ((with_reducible refine gate_callee (f := 24) rfl ?_); refine goesLq (some 26) rfl rfl Try.func24 (by kernel_rfl) rfl #[.agg #[.slice A0_0 l0_0.length c0_0]] rfl ?_; (with_reducible refine (laws_toLedger.calls k _ _ l0_0 t308 _ ?side1 ?side2 A22.out).mono ?_); (case side1 => exact q_c ((Kd.C_below HR0_0.out HB.out))); (case side2 => exact HC0_0.out); rintro e w46 ⟨v309, rfl, ho0, hb⟩; refine ⟨_, rfl, ?_⟩; have n0_ := Aside0.mk (Kd.S_elder' (q_s (HO302.out)) (Kd.S_base ho0) hb); have n1_ := Aside0.mk (Kd.R_below (q_r (HO306.out)) hb); have n2_ := Aside0.mk (Kd.S_lower (Kd.S_new' ho0 (Kd.S_lt (q_s (HO302.out)))) (below_size bq)); have n3_ := Aside0.mk (blk_below (q_b BK296.out) hb); have n4_ := Aside0.mk (blk_below (q_b BK297.out) hb); have n5_ := Aside0.mk (below_step bq hb); revert n0_ n1_ n2_ n3_ n4_ n5_; clear HO302 HO306 BK296 BK297 HB; intro HO302 HO306 HO310 BK296 BK297 HB; (try clear hb); (try clear hb2); (try clear hk); (try clear hi); (try clear ho0)) | ((with_reducible refine gate_dst (N := 7) rfl ?_); refine q_box (N := 7) (cs := #[.slice none 0 0]) (t := 26) ?_; intro gb311 hg w47 hbox hb; have n0_ := Aside0.mk (Kd.S_below (q_s (HO302.out)) hb); have n1_ := Aside0.mk (Kd.R_below (q_r (HO306.out)) hb); have n2_ := Aside0.mk (Kd.S_below (q_s (HO310.out)) hb); have n3_ := Aside0.mk (blk_below (q_b BK296.out) hb); have n4_ := Aside0.mk (blk_below (q_b BK297.out) hb); have n5_ := Aside0.mk (below_step bq hb); have n6_ := Aside0.mk (hbox); have n7_ := Aside0.mk ((q_g hg bq : w.heap.size ≤ gb311)); have n8_ := Aside0.mk ((q_g hg bq : w.heap.size ≤ gb311)); have n9_ := Aside0.mk ((q_n hg (q_b BK296.out) : gb296 ≠ gb311)); have n10_ := Aside0.mk ((q_m hg (q_b BK296.out) : gb311 ≠ gb296)); have n11_ := Aside0.mk ((q_n hg (q_b BK297.out) : gb297 ≠ gb311)); have n12_ := Aside0.mk ((q_m hg (q_b BK297.out) : gb311 ≠ gb297)); revert n0_ n1_ n2_ n3_ n4_ n5_ n6_ n7_ n8_ n9_ n10_ n11_ n12_; clear HO302 HO306 HO310 BK296 BK297 HB; intro HO302 HO306 HO310 BK296 BK297 HB BK311 GW311 GE311 NB296_311 NB311_296 NB297_311 NB311_297; clear hb hbox hg; obtain ⟨Ao48, co48, eo48⟩ := Kd.S_slice HO310.out; subst eo48; have hnb49 := NB311_296.out; have hnc49 := NB296_311.out; have hnb50 := NB311_297.out; have hnc50 := NB297_311.out; obtain ⟨hcz51_0, hfz51_0⟩ := q_1 BK311.out; obtain ⟨hcz52_0, hcz52_1, hfz52_0, hfz52_1⟩ := q_2 BK297.out) | ((with_reducible refine gate_callee (f := 25) rfl ?_); refine goesLq (some 28) rfl rfl Try.func25 (by kernel_rfl) rfl #[.agg #[.int .i64 a1_0, .slice A1_1 l1_1.length c1_1]] rfl ?_; (with_reducible refine (laws_toContract.calls k a1_0 _ _ l1_1 t312 t313 _ ?side1 ?side2 A23.out).mono ?_); (case side1 => exact Kd.C_below HR1_1.out bq); (case side2 => exact HC1_1.out); rintro e w53 ⟨v314, rfl, ho0, hb⟩; refine ⟨_, rfl, ?_⟩; have n0_ := Aside0.mk (Kd.S_below (by (with_reducible repeat (first | apply Kd.S_alloc | apply Kd.S_drewN | apply Kd.S_drew)); exact (Kd.S_mono (Kd.S_far (p := ⟨gb311, 0, none⟩) (Kd.S_types HO302.out BK311.out (by decide)) (fun _ hk => hk.2) (.slice Ao48 t308.length co48)) (fun _ h_ => h_.1))) hb); have n1_ := Aside0.mk (Kd.R_elder' (by (with_reducible repeat (first | apply Kd.R_alloc | apply Kd.R_drewN | apply Kd.R_drew)); exact (Kd.R_mono (Kd.R_far (p := ⟨gb311, 0, none⟩) (Kd.R_types HO306.out BK311.out (by decide)) (fun _ hk => hk.2) (.slice Ao48 t308.length co48)) (fun _ h_ => h_.1))) (Kd.R_base ho0) hb); have n2_ := Aside0.mk (Kd.S_below (by (with_reducible repeat (first | apply Kd.S_alloc | apply Kd.S_drewN | apply Kd.S_drew)); exact (Kd.S_mono (Kd.S_far (p := ⟨gb311, 0, none⟩) (Kd.S_types HO310.out BK311.out (by decide)) (fun _ hk => hk.2) (.slice Ao48 t308.length co48)) (fun _ h_ => h_.1))) hb); have n3_ := Aside0.mk (Kd.R_lower (Kd.R_new' ho0 (Kd.R_lt (by (with_reducible repeat (first | apply Kd.R_alloc | apply Kd.R_drewN | apply Kd.R_drew)); exact (Kd.R_mono (Kd.R_far (p := ⟨gb311, 0, none⟩) (Kd.R_types HO306.out BK311.out (by decide)) (fun _ hk => hk.2) (.slice Ao48 t308.length co48)) (fun _ h_ => h_.1))))) (below_size bq)); have n4_ := Aside0.mk (blk_below (g := gb296) (o := .cells #[.slice A0_0 l0_0.length c0_0] 47 (0, 0)) (by (with_reducible repeat (first | refine blk_drewN ?_ _ | refine blk_drew ?_ | refine blk_alloc ?_ _)); refine blk_far ?_ NB296_311.out _; (with_reducible repeat (first | refine blk_drewN ?_ _ | refine blk_drew ?_ | refine blk_alloc ?_ _)); exact BK296.out) hb); have n5_ := Aside0.mk (blk_below (g := gb297) (o := .cells #[.int .i64 a1_0, .slice A1_1 l1_1.length c1_1] 50 (0, 0)) (by (with_reducible repeat (first | refine blk_drewN ?_ _ | refine blk_drew ?_ | refine blk_alloc ?_ _)); refine blk_far ?_ NB297_311.out _; (with_reducible repeat (first | refine blk_drewN ?_ _ | refine blk_drew ?_ | refine blk_alloc ?_ _)); exact BK297.out) hb); have n6_ := Aside0.mk (blk_below (g := gb311) (o := .cells #[.slice Ao48 t308.length co48] 26 (0, 0)) (by (with_reducible repeat (first | refine blk_drewN ?_ _ | refine blk_drew ?_ | refine blk_alloc ?_ _)); refine blk_put (cs := #[.slice none 0 0]) ?_ 0 _ rfl; (with_reducible repeat (first | refine blk_drewN ?_ _ | refine blk_drew ?_ | refine blk_alloc ?_ _)); exact BK311.out) hb); have n7_ := Aside0.mk (below_step bq hb); revert n0_ n1_ n2_ n3_ n4_ n5_ n6_ n7_; clear HO302 HO306 HO310 BK296 BK297 BK311 HB; intro HO302 HO306 HO310 HO315 BK296 BK297 BK311 HB; (try clear hb); (try clear hb2); (try clear hk); (try clear hi); (try clear ho0)) | ((with_reducible refine gate_dst (N := 8) rfl ?_); refine q_box (N := 8) (cs := #[.int .i64 0, .slice none 0 0]) (t := 40) ?_; intro gb316 hg w54 hbox hb; have n0_ := Aside0.mk (Kd.S_below (q_s (HO302.out)) hb); have n1_ := Aside0.mk (Kd.R_below (q_r (HO306.out)) hb); have n2_ := Aside0.mk (Kd.S_below (q_s (HO310.out)) hb); have n3_ := Aside0.mk (Kd.R_below (q_r (HO315.out)) hb); have n4_ := Aside0.mk (blk_below (q_b BK296.out) hb); have n5_ := Aside0.mk (blk_below (q_b BK297.out) hb); have n6_ := Aside0.mk (blk_below (q_b BK311.out) hb); have n7_ := Aside0.mk (below_step bq hb); have n8_ := Aside0.mk (hbox); have n9_ := Aside0.mk ((q_g hg bq : w.heap.size ≤ gb316)); have n10_ := Aside0.mk ((q_g hg bq : w.heap.size ≤ gb316)); have n11_ := Aside0.mk ((q_n hg (q_b BK296.out) : gb296 ≠ gb316)); have n12_ := Aside0.mk ((q_m hg (q_b BK296.out) : gb316 ≠ gb296)); have n13_ := Aside0.mk ((q_n hg (q_b BK297.out) : gb297 ≠ gb316)); have n14_ := Aside0.mk ((q_m hg (q_b BK297.out) : gb316 ≠ gb297)); have n15_ := Aside0.mk ((q_n hg (q_b BK311.out) : gb311 ≠ gb316)); have n16_ := Aside0.mk ((q_m hg (q_b BK311.out) : gb316 ≠ gb311)); revert n0_ n1_ n2_ n3_ n4_ n5_ n6_ n7_ n8_ n9_ n10_ n11_ n12_ n13_ n14_ n15_ n16_; clear HO302 HO306 HO310 HO315 BK296 BK297 BK311 HB; intro HO302 HO306 HO310 HO315 BK296 BK297 BK311 HB BK316 GW316 GE316 NB296_316 NB316_296 NB297_316 NB316_297 NB311_316 NB316_311; clear hb hbox hg; have hnb55 := NB316_296.out; have hnc55 := NB296_316.out; have hnb56 := NB316_297.out; have hnc56 := NB297_316.out; have hnb57 := NB316_311.out; have hnc57 := NB311_316.out; obtain ⟨hcz58_0, hcz58_1, hfz58_0, hfz58_1⟩ := q_2 BK316.out; obtain ⟨Ao59, co59, eo59⟩ := Kd.R_slice HO315.out; subst eo59; obtain ⟨hcz60_0, hfz60_0⟩ := q_1 BK311.out) | ((with_reducible refine gate_callee (f := 52) rfl ?_); refine goesLq (some 31) rfl rfl Try.func52 (by kernel_rfl) rfl #[.agg #[.slice Ao48 t308.length co48], .agg #[.int .i64 t312, .slice Ao59 t313.length co59]] rfl ?_; (with_reducible refine (impl_CanSettle.calls k _ _ t308 t312 _ _ t313 t317 _ ?side1 ?side2 ?side3 ?side4 A24.out).mono ?_); (case side1 => refine (Kd.S_reads' (e := 64) (base := w.heap.size) (ok := fun k_ => (True ∧ some k_ ≠ (.slice Ao42 t300.length co42 : Value).ownBlock)) (n := t308.length) (c := co48) ?_).2.2; exact (by (with_reducible repeat (first | apply Kd.S_alloc | apply Kd.S_drewN | apply Kd.S_drew)); exact (Kd.S_mono (Kd.S_far (p := ⟨gb316, 1, none⟩) (Kd.S_far (p := ⟨gb316, 0, none⟩) (Kd.S_types HO310.out BK316.out (by decide)) (fun _ hk => hk.2) (.int .i64 t312)) (fun _ hk => hk.2) (.slice Ao59 t313.length co59)) (fun _ h_ => h_.1)))); (case side2 => exact (Kd.S_reads' HO310.out).2.1); (case side3 => refine (Kd.R_reads' (e := 86) (base := w.heap.size) (ok := fun k_ => (True ∧ some k_ ≠ (.slice Ao43 t304.length co43 : Value).ownBlock)) (n := t313.length) (c := co59) ?_).2.2; exact (by (with_reducible repeat (first | apply Kd.R_alloc | apply Kd.R_drewN | apply Kd.R_drew)); exact (Kd.R_mono (Kd.R_far (p := ⟨gb316, 1, none⟩) (Kd.R_far (p := ⟨gb316, 0, none⟩) (Kd.R_types HO315.out BK316.out (by decide)) (fun _ hk => hk.2) (.int .i64 t312)) (fun _ hk => hk.2) (.slice Ao59 t313.length co59)) (fun _ h_ => h_.1)))); (case side4 => exact (Kd.R_reads' HO315.out).2.1); rintro e w61 ⟨rfl, hb⟩; refine ⟨_, rfl, ?_⟩; have n0_ := Aside0.mk (Kd.S_below (by (with_reducible repeat (first | apply Kd.S_alloc | apply Kd.S_drewN | apply Kd.S_drew)); exact (Kd.S_mono (Kd.S_far (p := ⟨gb316, 1, none⟩) (Kd.S_far (p := ⟨gb316, 0, none⟩) (Kd.S_types HO302.out BK316.out (by decide)) (fun _ hk => hk.2) (.int .i64 t312)) (fun _ hk => hk.2) (.slice Ao59 t313.length co59)) (fun _ h_ => h_.1))) hb); have n1_ := Aside0.mk (Kd.R_below (by (with_reducible repeat (first | apply Kd.R_alloc | apply Kd.R_drewN | apply Kd.R_drew)); exact (Kd.R_mono (Kd.R_far (p := ⟨gb316, 1, none⟩) (Kd.R_far (p := ⟨gb316, 0, none⟩) (Kd.R_types HO306.out BK316.out (by decide)) (fun _ hk => hk.2) (.int .i64 t312)) (fun _ hk => hk.2) (.slice Ao59 t313.length co59)) (fun _ h_ => h_.1))) hb); have n2_ := Aside0.mk (Kd.S_below (by (with_reducible repeat (first | apply Kd.S_alloc | apply Kd.S_drewN | apply Kd.S_drew)); exact (Kd.S_mono (Kd.S_far (p := ⟨gb316, 1, none⟩) (Kd.S_far (p := ⟨gb316, 0, none⟩) (Kd.S_types HO310.out BK316.out (by decide)) (fun _ hk => hk.2) (.int .i64 t312)) (fun _ hk => hk.2) (.slice Ao59 t313.length co59)) (fun _ h_ => h_.1))) hb); have n3_ := Aside0.mk (Kd.R_below (by (with_reducible repeat (first | apply Kd.R_alloc | apply Kd.R_drewN | apply Kd.R_drew)); exact (Kd.R_mono (Kd.R_far (p := ⟨gb316, 1, none⟩) (Kd.R_far (p := ⟨gb316, 0, none⟩) (Kd.R_types HO315.out BK316.out (by decide)) (fun _ hk => hk.2) (.int .i64 t312)) (fun _ hk => hk.2) (.slice Ao59 t313.length co59)) (fun _ h_ => h_.1))) hb); have n4_ := Aside0.mk (blk_below (g := gb296) (o := .cells #[.slice A0_0 l0_0.length c0_0] 47 (0, 0)) (by (with_reducible repeat (first | refine blk_drewN ?_ _ | refine blk_drew ?_ | refine blk_alloc ?_ _)); refine blk_far ?_ NB296_316.out _; (with_reducible repeat (first | refine blk_drewN ?_ _ | refine blk_drew ?_ | refine blk_alloc ?_ _)); refine blk_far ?_ NB296_316.out _; (with_reducible repeat (first | refine blk_drewN ?_ _ | refine blk_drew ?_ | refine blk_alloc ?_ _)); exact BK296.out) hb); have n5_ := Aside0.mk (blk_below (g := gb297) (o := .cells #[.int .i64 a1_0, .slice A1_1 l1_1.length c1_1] 50 (0, 0)) (by (with_reducible repeat (first | refine blk_drewN ?_ _ | refine blk_drew ?_ | refine blk_alloc ?_ _)); refine blk_far ?_ NB297_316.out _; (with_reducible repeat (first | refine blk_drewN ?_ _ | refine blk_drew ?_ | refine blk_alloc ?_ _)); refine blk_far ?_ NB297_316.out _; (with_reducible repeat (first | refine blk_drewN ?_ _ | refine blk_drew ?_ | refine blk_alloc ?_ _)); exact BK297.out) hb); have n6_ := Aside0.mk (blk_below (g := gb311) (o := .cells #[.slice Ao48 t308.length co48] 26 (0, 0)) (by (with_reducible repeat (first | refine blk_drewN ?_ _ | refine blk_drew ?_ | refine blk_alloc ?_ _)); refine blk_far ?_ NB311_316.out _; (with_reducible repeat (first | refine blk_drewN ?_ _ | refine blk_drew ?_ | refine blk_alloc ?_ _)); refine blk_far ?_ NB311_316.out _; (with_reducible repeat (first | refine blk_drewN ?_ _ | refine blk_drew ?_ | refine blk_alloc ?_ _)); exact BK311.out) hb); have n7_ := Aside0.mk (blk_below (g := gb316) (o := .cells #[.int .i64 t312, .slice Ao59 t313.length co59] 40 (0, 0)) (by (with_reducible repeat (first | refine blk_drewN ?_ _ | refine blk_drew ?_ | refine blk_alloc ?_ _)); refine blk_put (cs := #[.int .i64 t312, .slice none 0 0]) ?_ 1 _ rfl; (with_reducible repeat (first | refine blk_drewN ?_ _ | refine blk_drew ?_ | refine blk_alloc ?_ _)); refine blk_put (cs := #[.int .i64 0, .slice none 0 0]) ?_ 0 _ rfl; (with_reducible repeat (first | refine blk_drewN ?_ _ | refine blk_drew ?_ | refine blk_alloc ?_ _)); exact BK316.out) hb); have n8_ := Aside0.mk (below_step bq hb); revert n0_ n1_ n2_ n3_ n4_ n5_ n6_ n7_ n8_; clear HO302 HO306 HO310 HO315 BK296 BK297 BK311 BK316 HB; intro HO302 HO306 HO310 HO315 BK296 BK297 BK311 BK316 HB; (try clear hb); (try clear hb2); (try clear hk); (try clear hi)))
      have n0_ := Aside0.mk (Kd.S_drew HO302.out)
      have n1_ := Aside0.mk (Kd.R_drew HO306.out)
      have n2_ := Aside0.mk (Kd.S_drew HO310.out)
      have n3_ := Aside0.mk (Kd.R_drew HO315.out)
      have n4_ := Aside0.mk (blk_drew BK296.out)
      have n5_ := Aside0.mk (blk_drew BK297.out)
      have n6_ := Aside0.mk (blk_drew BK311.out)
      have n7_ := Aside0.mk (blk_drew BK316.out)
      have n8_ := Aside0.mk (below_drew1 HB.out)
      clear HO302
      clear HO306
      clear HO310
      clear HO315
      clear BK296
      clear BK297
      clear BK311
      clear BK316
      clear HB
      have HO302 := n0_
      have HO306 := n1_
      have HO310 := n2_
      have HO315 := n3_
      have BK296 := n4_
      have BK297 := n5_
      have BK311 := n6_
      have BK316 := n7_
      have HB := n8_
      clear n0_ n1_ n2_ n3_ n4_ n5_ n6_ n7_ n8_
      refine start_ (n := 5) (S := fun w' => w'.cell? ⟨gb311, 0, none⟩ = some (.slice Ao48 t308.length co48) ∧ w'.cell? ⟨gb296, 0, none⟩ = some (.slice A0_0 l0_0.length c0_0)) (ds := []) #[false, false, false, false, false] (by kernel_rfl) rfl rfl ⟨(blk_cell BK311.out 0).trans rfl, (blk_cell BK296.out 0).trans rfl⟩ (fun hHeld => ?_)
      generalize w61.drew = w62 at HO302 HO306 HO310 HO315 BK296 BK297 BK311 BK316 HB hHeld ⊢
      refine take_ (i := 0) (N := some 35) (v := ?_) (a' := ?_) #[true, false, false, false, false] rfl rfl (by kernel_rfl) (fun _ _ _ h => h) (Or.inl ⟨by rfl, ?_⟩) hHeld ?_ ?_
      rotate_left
      ·rintro w' ⟨s0, s1⟩
       go_simp
       with_reducible rfl
      rotate_left
      ·simp only [Act.put, List.setIfInBounds_toArray, List.set_cons_zero, List.set_cons_succ, i64_w, i32_w]
       rfl
      refine take_ (i := 1) (N := some 36) (v := ?_) (a' := ?_) #[true, true, false, false, false] rfl rfl (by kernel_rfl) (fun _ _ _ h => h) (Or.inl ⟨by rfl, ?_⟩) hHeld ?_ ?_
      rotate_left
      ·rintro w' ⟨s0, s1⟩
       go_simp
       with_reducible rfl
      rotate_left
      ·simp only [Act.put, List.setIfInBounds_toArray, List.set_cons_zero, List.set_cons_succ, i64_w, i32_w]
       rfl
      refine one_ (i := 2) (N := some 37) #[true, true, true, false, false] rfl rfl (by kernel_rfl) (by decide) (fun K hK => ?_)
      refine goes_ Try.func24 (by kernel_rfl) rfl #[.agg #[.slice A0_0 l0_0.length c0_0]] (by rfl) rfl rfl (by (try simp only [List.map_toArray, List.map_cons, List.map_nil]); first | done | rfl | (simp only [List.length_drop, List.length_take]; rfl)) ?_
      with_reducible refine (laws_toLedger.calls k _ _ l0_0 t318 _ ?side1 ?side2 A26.out).mono ?_
      (case side1 => exact q_c ((Kd.C_below HR0_0.out HB.out)))
      (case side2 => exact HC0_0.out)
      rintro e w63 ⟨v319, rfl, ho0, hb⟩
      refine ⟨_, rfl, ?_⟩
      have n0_ := Aside0.mk (Kd.S_elder' (q_s (HO302.out)) (Kd.S_base ho0) hb)
      have n1_ := Aside0.mk (Kd.R_below (q_r (HO306.out)) hb)
      have n2_ := Aside0.mk (Kd.S_elder' (q_s (HO310.out)) (Kd.S_base ho0) hb)
      have n3_ := Aside0.mk (Kd.R_below (q_r (HO315.out)) hb)
      have n4_ := Aside0.mk (Kd.S_lower (Kd.S_new' (Kd.S_new' ho0 (Kd.S_lt (q_s (HO302.out)))) (Kd.S_lt (q_s (HO310.out)))) (below_size bq))
      have n5_ := Aside0.mk (blk_below (q_b BK296.out) hb)
      have n6_ := Aside0.mk (blk_below (q_b BK297.out) hb)
      have n7_ := Aside0.mk (blk_below (q_b BK311.out) hb)
      have n8_ := Aside0.mk (blk_below (q_b BK316.out) hb)
      have n9_ := Aside0.mk (below_step bq hb)
      clear HO302
      clear HO306
      clear HO310
      clear HO315
      clear BK296
      clear BK297
      clear BK311
      clear BK316
      clear HB
      have HO302 := n0_
      have HO306 := n1_
      have HO310 := n2_
      have HO315 := n3_
      have HO320 := n4_
      have BK296 := n5_
      have BK297 := n6_
      have BK311 := n7_
      have BK316 := n8_
      have HB := n9_
      clear n0_ n1_ n2_ n3_ n4_ n5_ n6_ n7_ n8_ n9_
      (try clear hb)
      (try clear hb2)
      (try clear hk)
      (try clear hi)
      (try clear ho0)
      obtain ⟨Ao64, co64, eo64⟩ := Kd.S_slice HO320.out
      (first | subst eo64 | (injection eo64 with f1_ f2_ f3_; have f4_ := f1_.symm; have f5_ := f3_.symm; clear f1_ f2_ f3_; subst f4_; subst f5_))
      refine hK.out _ _ ⟨(blk_cell BK311.out 0).trans rfl, (blk_cell BK296.out 0).trans rfl⟩ (fun hHeld => ?_)
      clear hK K
      refine norm_ (a' := ?_) ?_ ?_
      rotate_left
      ·show Act.put _ (some 37) _ = _
       simp only [Act.put, List.setIfInBounds_toArray, List.set_cons_zero, List.set_cons_succ, i64_w, i32_w]
       rfl
      refine one_ (i := 3) (N := some 38) #[true, true, true, true, false] rfl rfl (by kernel_rfl) (by decide) (fun K hK => ?_)
      refine goes_ Try.func27 (by kernel_rfl) rfl #[.agg #[.slice Ao48 t308.length co48], .agg #[.slice Ao64 t318.length co64]] (by rfl) rfl rfl (by (try simp only [List.map_toArray, List.map_cons, List.map_nil]); first | done | rfl | (simp only [List.length_drop, List.length_take]; rfl)) ?_
      with_reducible refine (laws_eqLedger.calls k _ _ t308 _ _ t318 true _ ?side1 ?side2 ?side3 ?side4 A27.out).mono ?_
      (case side1 => exact q_c ((Kd.S_reads' HO310.out).2.2))
      (case side2 => exact (Kd.S_reads' HO310.out).2.1)
      (case side3 => exact q_c ((Kd.S_reads' HO320.out).2.2))
      (case side4 => exact (Kd.S_reads' HO320.out).2.1)
      rintro e w65 ⟨rfl, hb⟩
      refine ⟨_, rfl, ?_⟩
      have n0_ := Aside0.mk (Kd.S_below (q_s (HO302.out)) hb)
      have n1_ := Aside0.mk (Kd.R_below (q_r (HO306.out)) hb)
      have n2_ := Aside0.mk (Kd.S_below (q_s (HO310.out)) hb)
      have n3_ := Aside0.mk (Kd.R_below (q_r (HO315.out)) hb)
      have n4_ := Aside0.mk (Kd.S_below (q_s (HO320.out)) hb)
      have n5_ := Aside0.mk (blk_below (q_b BK296.out) hb)
      have n6_ := Aside0.mk (blk_below (q_b BK297.out) hb)
      have n7_ := Aside0.mk (blk_below (q_b BK311.out) hb)
      have n8_ := Aside0.mk (blk_below (q_b BK316.out) hb)
      have n9_ := Aside0.mk (below_step bq hb)
      clear HO302
      clear HO306
      clear HO310
      clear HO315
      clear HO320
      clear BK296
      clear BK297
      clear BK311
      clear BK316
      clear HB
      have HO302 := n0_
      have HO306 := n1_
      have HO310 := n2_
      have HO315 := n3_
      have HO320 := n4_
      have BK296 := n5_
      have BK297 := n6_
      have BK311 := n7_
      have BK316 := n8_
      have HB := n9_
      clear n0_ n1_ n2_ n3_ n4_ n5_ n6_ n7_ n8_ n9_
      (try clear hb)
      (try clear hb2)
      (try clear hk)
      (try clear hi)
      refine hK.out _ _ ⟨(blk_cell BK311.out 0).trans rfl, (blk_cell BK296.out 0).trans rfl⟩ (fun hHeld => ?_)
      clear hK K
      refine norm_ (a' := ?_) ?_ ?_
      rotate_left
      ·show Act.put _ (some 38) _ = _
       simp only [Act.put, List.setIfInBounds_toArray, List.set_cons_zero, List.set_cons_succ, i64_w, i32_w]
       rfl
      refine pure_ (i := 4) (N := some 39) (v := ?_) (a' := ?_) #[true, true, true, true, true] rfl rfl (by kernel_rfl) (fun _ _ _ h => h) (Or.inl ⟨by rfl, ?_⟩) ?_ ?_
      rotate_left
      ·intro w'
       go_simp
       with_reducible rfl
      rotate_left
      ·simp only [Act.put, List.setIfInBounds_toArray, List.set_cons_zero, List.set_cons_succ, i64_w, i32_w]
       rfl
      refine done_ (by kernel_rfl) ?_
      try go_wp2
      have n0_ := Aside0.mk (Kd.S_drew HO302.out)
      have n1_ := Aside0.mk (Kd.R_drew HO306.out)
      have n2_ := Aside0.mk (Kd.S_drew HO310.out)
      have n3_ := Aside0.mk (Kd.R_drew HO315.out)
      have n4_ := Aside0.mk (Kd.S_drew HO320.out)
      have n5_ := Aside0.mk (blk_drew BK296.out)
      have n6_ := Aside0.mk (blk_drew BK297.out)
      have n7_ := Aside0.mk (blk_drew BK311.out)
      have n8_ := Aside0.mk (blk_drew BK316.out)
      have n9_ := Aside0.mk (below_drew1 HB.out)
      clear HO302
      clear HO306
      clear HO310
      clear HO315
      clear HO320
      clear BK296
      clear BK297
      clear BK311
      clear BK316
      clear HB
      have HO302 := n0_
      have HO306 := n1_
      have HO310 := n2_
      have HO315 := n3_
      have HO320 := n4_
      have BK296 := n5_
      have BK297 := n6_
      have BK311 := n7_
      have BK316 := n8_
      have HB := n9_
      clear n0_ n1_ n2_ n3_ n4_ n5_ n6_ n7_ n8_ n9_
      refine start_ (n := 5) (S := fun w' => w'.cell? ⟨gb316, 0, none⟩ = some (.int .i64 t312) ∧ w'.cell? ⟨gb316, 1, none⟩ = some (.slice Ao59 t313.length co59) ∧ w'.cell? ⟨gb297, 0, none⟩ = some (.int .i64 a1_0) ∧ w'.cell? ⟨gb297, 1, none⟩ = some (.slice A1_1 l1_1.length c1_1)) (ds := []) #[false, false, false, false, false] (by kernel_rfl) rfl rfl ⟨(blk_cell BK316.out 0).trans rfl, (blk_cell BK316.out 1).trans rfl, (blk_cell BK297.out 0).trans rfl, (blk_cell BK297.out 1).trans rfl⟩ (fun hHeld => ?_)
      generalize w65.drew = w66 at HO302 HO306 HO310 HO315 HO320 BK296 BK297 BK311 BK316 HB hHeld ⊢
      refine take_ (i := 0) (N := some 40) (v := ?_) (a' := ?_) #[true, false, false, false, false] rfl rfl (by kernel_rfl) (fun _ _ _ h => h) (Or.inl ⟨by rfl, ?_⟩) hHeld ?_ ?_
      rotate_left
      ·rintro w' ⟨s0, s1, s2, s3⟩
       go_simp
       with_reducible rfl
      rotate_left
      ·simp only [Act.put, List.setIfInBounds_toArray, List.set_cons_zero, List.set_cons_succ, i64_w, i32_w]
       rfl
      refine take_ (i := 1) (N := some 41) (v := ?_) (a' := ?_) #[true, true, false, false, false] rfl rfl (by kernel_rfl) (fun _ _ _ h => h) (Or.inl ⟨by rfl, ?_⟩) hHeld ?_ ?_
      rotate_left
      ·rintro w' ⟨s0, s1, s2, s3⟩
       go_simp
       with_reducible rfl
      rotate_left
      ·simp only [Act.put, List.setIfInBounds_toArray, List.set_cons_zero, List.set_cons_succ, i64_w, i32_w]
       rfl
      refine one_ (i := 2) (N := some 42) #[true, true, true, false, false] rfl rfl (by kernel_rfl) (by decide) (fun K hK => ?_)
      refine goes_ Try.func25 (by kernel_rfl) rfl #[.agg #[.int .i64 a1_0, .slice A1_1 l1_1.length c1_1]] (by rfl) rfl rfl (by (try simp only [List.map_toArray, List.map_cons, List.map_nil]); first | done | rfl | (simp only [List.length_drop, List.length_take]; rfl)) ?_
      with_reducible refine (laws_toContract.calls k a1_0 _ _ l1_1 t322 t323 _ ?side1 ?side2 A29.out).mono ?_
      (case side1 => exact q_c ((Kd.C_below HR1_1.out HB.out)))
      (case side2 => exact HC1_1.out)
      rintro e w67 ⟨v324, rfl, ho0, hb⟩
      refine ⟨_, rfl, ?_⟩
      have n0_ := Aside0.mk (Kd.S_below (q_s (HO302.out)) hb)
      have n1_ := Aside0.mk (Kd.R_elder' (q_r (HO306.out)) (Kd.R_base ho0) hb)
      have n2_ := Aside0.mk (Kd.S_below (q_s (HO310.out)) hb)
      have n3_ := Aside0.mk (Kd.R_elder' (q_r (HO315.out)) (Kd.R_base ho0) hb)
      have n4_ := Aside0.mk (Kd.S_below (q_s (HO320.out)) hb)
      have n5_ := Aside0.mk (Kd.R_lower (Kd.R_new' (Kd.R_new' ho0 (Kd.R_lt (q_r (HO306.out)))) (Kd.R_lt (q_r (HO315.out)))) (below_size bq))
      have n6_ := Aside0.mk (blk_below (q_b BK296.out) hb)
      have n7_ := Aside0.mk (blk_below (q_b BK297.out) hb)
      have n8_ := Aside0.mk (blk_below (q_b BK311.out) hb)
      have n9_ := Aside0.mk (blk_below (q_b BK316.out) hb)
      have n10_ := Aside0.mk (below_step bq hb)
      clear HO302
      clear HO306
      clear HO310
      clear HO315
      clear HO320
      clear BK296
      clear BK297
      clear BK311
      clear BK316
      clear HB
      have HO302 := n0_
      have HO306 := n1_
      have HO310 := n2_
      have HO315 := n3_
      have HO320 := n4_
      have HO325 := n5_
      have BK296 := n6_
      have BK297 := n7_
      have BK311 := n8_
      have BK316 := n9_
      have HB := n10_
      clear n0_ n1_ n2_ n3_ n4_ n5_ n6_ n7_ n8_ n9_ n10_
      (try clear hb)
      (try clear hb2)
      (try clear hk)
      (try clear hi)
      (try clear ho0)
      obtain ⟨Ao68, co68, eo68⟩ := Kd.R_slice HO325.out
      (first | subst eo68 | (injection eo68 with f1_ f2_ f3_; have f4_ := f1_.symm; have f5_ := f3_.symm; clear f1_ f2_ f3_; subst f4_; subst f5_))
      refine hK.out _ _ ⟨(blk_cell BK316.out 0).trans rfl, (blk_cell BK316.out 1).trans rfl, (blk_cell BK297.out 0).trans rfl, (blk_cell BK297.out 1).trans rfl⟩ (fun hHeld => ?_)
      clear hK K
      refine norm_ (a' := ?_) ?_ ?_
      rotate_left
      ·show Act.put _ (some 42) _ = _
       simp only [Act.put, List.setIfInBounds_toArray, List.set_cons_zero, List.set_cons_succ, i64_w, i32_w]
       rfl
      refine one_ (i := 3) (N := some 43) #[true, true, true, true, false] rfl rfl (by kernel_rfl) (by decide) (fun K hK => ?_)
      refine goes_ Try.func28 (by kernel_rfl) rfl #[.agg #[.int .i64 t312, .slice Ao59 t313.length co59], .agg #[.int .i64 t322, .slice Ao68 t323.length co68]] (by rfl) rfl rfl (by (try simp only [List.map_toArray, List.map_cons, List.map_nil]); first | done | rfl | (simp only [List.length_drop, List.length_take]; rfl)) ?_
      with_reducible refine (laws_eqContract.calls k t312 _ _ t313 t322 _ _ t323 true _ ?side1 ?side2 ?side3 ?side4 A30.out).mono ?_
      (case side1 => exact q_c ((Kd.R_reads' HO315.out).2.2))
      (case side2 => exact (Kd.R_reads' HO315.out).2.1)
      (case side3 => exact q_c ((Kd.R_reads' HO325.out).2.2))
      (case side4 => exact (Kd.R_reads' HO325.out).2.1)
      rintro e w69 ⟨rfl, hb⟩
      refine ⟨_, rfl, ?_⟩
      have n0_ := Aside0.mk (Kd.S_below (q_s (HO302.out)) hb)
      have n1_ := Aside0.mk (Kd.R_below (q_r (HO306.out)) hb)
      have n2_ := Aside0.mk (Kd.S_below (q_s (HO310.out)) hb)
      have n3_ := Aside0.mk (Kd.R_below (q_r (HO315.out)) hb)
      have n4_ := Aside0.mk (Kd.S_below (q_s (HO320.out)) hb)
      have n5_ := Aside0.mk (Kd.R_below (q_r (HO325.out)) hb)
      have n6_ := Aside0.mk (blk_below (q_b BK296.out) hb)
      have n7_ := Aside0.mk (blk_below (q_b BK297.out) hb)
      have n8_ := Aside0.mk (blk_below (q_b BK311.out) hb)
      have n9_ := Aside0.mk (blk_below (q_b BK316.out) hb)
      have n10_ := Aside0.mk (below_step bq hb)
      clear HO302
      clear HO306
      clear HO310
      clear HO315
      clear HO320
      clear HO325
      clear BK296
      clear BK297
      clear BK311
      clear BK316
      clear HB
      have HO302 := n0_
      have HO306 := n1_
      have HO310 := n2_
      have HO315 := n3_
      have HO320 := n4_
      have HO325 := n5_
      have BK296 := n6_
      have BK297 := n7_
      have BK311 := n8_
      have BK316 := n9_
      have HB := n10_
      clear n0_ n1_ n2_ n3_ n4_ n5_ n6_ n7_ n8_ n9_ n10_
      (try clear hb)
      (try clear hb2)
      (try clear hk)
      (try clear hi)
      refine hK.out _ _ ⟨(blk_cell BK316.out 0).trans rfl, (blk_cell BK316.out 1).trans rfl, (blk_cell BK297.out 0).trans rfl, (blk_cell BK297.out 1).trans rfl⟩ (fun hHeld => ?_)
      clear hK K
      refine norm_ (a' := ?_) ?_ ?_
      rotate_left
      ·show Act.put _ (some 43) _ = _
       simp only [Act.put, List.setIfInBounds_toArray, List.set_cons_zero, List.set_cons_succ, i64_w, i32_w]
       rfl
      refine pure_ (i := 4) (N := some 44) (v := ?_) (a' := ?_) #[true, true, true, true, true] rfl rfl (by kernel_rfl) (fun _ _ _ h => h) (Or.inl ⟨by rfl, ?_⟩) ?_ ?_
      rotate_left
      ·intro w'
       go_simp
       with_reducible rfl
      rotate_left
      ·simp only [Act.put, List.setIfInBounds_toArray, List.set_cons_zero, List.set_cons_succ, i64_w, i32_w]
       rfl
      refine done_ (by kernel_rfl) ?_
      try go_wp2
      go_ret
      exact ⟨q_e, bq⟩
     ·replace c31 := Bool.eq_false_iff.mpr c31
      subst c31
      have H1 : (some false) = some r := by rw [if_neg (show ¬ (false = true) by decide)] at H; exact H
      clear H
      have H := H1
      clear H1
      obtain rfl := Option.some.inj H
      go_enter Try.func11, Try.ntmps11
      try go_wp2_with (first | ((with_reducible refine gate_dst (N := 2) rfl ?_); refine q_box (N := 2) (cs := #[.slice A0_0 l0_0.length c0_0]) (t := 47) ?_; intro gb296 hg w70 hbox hb; have n0_ := Aside0.mk (below_step bq hb); have n1_ := Aside0.mk (hbox); have n2_ := Aside0.mk ((q_g hg bq : w.heap.size ≤ gb296)); have n3_ := Aside0.mk ((q_g hg bq : w.heap.size ≤ gb296)); revert n0_ n1_ n2_ n3_; clear HB; intro HB BK296 GW296 GE296; clear hb hbox hg) | ((with_reducible refine gate_dst (N := 3) rfl ?_); refine q_box (N := 3) (cs := #[.int .i64 a1_0, .slice A1_1 l1_1.length c1_1]) (t := 50) ?_; intro gb297 hg w71 hbox hb; have n0_ := Aside0.mk (blk_below (q_b BK296.out) hb); have n1_ := Aside0.mk (below_step bq hb); have n2_ := Aside0.mk (hbox); have n3_ := Aside0.mk ((q_g hg bq : w.heap.size ≤ gb297)); have n4_ := Aside0.mk ((q_g hg bq : w.heap.size ≤ gb297)); have n5_ := Aside0.mk ((q_n hg (q_b BK296.out) : gb296 ≠ gb297)); have n6_ := Aside0.mk ((q_m hg (q_b BK296.out) : gb297 ≠ gb296)); revert n0_ n1_ n2_ n3_ n4_ n5_ n6_; clear BK296 HB; intro BK296 HB BK297 GW297 GE297 NB296_297 NB297_296; clear hb hbox hg; have hnb72 := NB296_297.out; have hnc72 := NB297_296.out; obtain ⟨hcz73_0, hfz73_0⟩ := q_1 BK296.out) | ((with_reducible refine gate_callee (f := 21) rfl ?_); refine goesLq (some 12) rfl rfl Try.func21 (by kernel_rfl) rfl #[.agg #[.slice A0_0 l0_0.length c0_0], .int .i64 1048576] rfl ?_; (with_reducible refine (laws_szLedger.calls k _ _ l0_0 1048576 t298 _ ?side1 ?side2 A3.out).mono ?_); (case side1 => exact q_c ((Kd.C_below HR0_0.out HB.out))); (case side2 => exact HC0_0.out); rintro e w74 ⟨rfl, hb⟩; refine ⟨_, rfl, ?_⟩; have n0_ := Aside0.mk (blk_below (q_b BK296.out) hb); have n1_ := Aside0.mk (blk_below (q_b BK297.out) hb); have n2_ := Aside0.mk (below_step bq hb); revert n0_ n1_ n2_; clear BK296 BK297 HB; intro BK296 BK297 HB; (try clear hb); (try clear hb2); (try clear hk); (try clear hi); obtain ⟨hcz75_0, hcz75_1, hfz75_0, hfz75_1⟩ := q_2 BK297.out) | ((with_reducible refine gate_callee (f := 22) rfl ?_); refine goesLq (some 17) rfl rfl Try.func22 (by kernel_rfl) rfl #[.agg #[.int .i64 a1_0, .slice A1_1 l1_1.length c1_1], .int .i64 t298] rfl ?_; (with_reducible refine (laws_szContract.calls a1_0 _ _ l1_1 t298 t299 _ ?side1 ?side2 A10.out).mono ?_); (case side1 => exact q_c ((Kd.C_below HR1_1.out HB.out))); (case side2 => exact HC1_1.out); rintro e w76 ⟨rfl, hb⟩; refine ⟨_, rfl, ?_⟩; have n0_ := Aside0.mk (blk_below (q_b BK296.out) hb); have n1_ := Aside0.mk (blk_below (q_b BK297.out) hb); have n2_ := Aside0.mk (below_step bq hb); revert n0_ n1_ n2_; clear BK296 BK297 HB; intro BK296 BK297 HB; (try clear hb); (try clear hb2); (try clear hk); (try clear hi)))
      have n0_ := Aside0.mk (blk_drew BK296.out)
      have n1_ := Aside0.mk (blk_drew BK297.out)
      have n2_ := Aside0.mk (below_drew1 HB.out)
      clear BK296
      clear BK297
      clear HB
      have BK296 := n0_
      have BK297 := n1_
      have HB := n2_
      clear n0_ n1_ n2_
      refine start_ (n := 6) (S := fun w' => w'.cell? ⟨gb296, 0, none⟩ = some (.slice A0_0 l0_0.length c0_0) ∧ w'.cell? ⟨gb297, 0, none⟩ = some (.int .i64 a1_0) ∧ w'.cell? ⟨gb297, 1, none⟩ = some (.slice A1_1 l1_1.length c1_1)) (ds := []) #[false, false, false, false, false, false] (by kernel_rfl) rfl rfl ⟨(blk_cell BK296.out 0).trans rfl, (blk_cell BK297.out 0).trans rfl, (blk_cell BK297.out 1).trans rfl⟩ (fun hHeld => ?_)
      generalize w76.drew = w77 at BK296 BK297 HB hHeld ⊢
      refine take_ (i := 0) (N := some 20) (v := ?_) (a' := ?_) #[true, false, false, false, false, false] rfl rfl (by kernel_rfl) (fun _ _ _ h => h) (Or.inl ⟨by rfl, ?_⟩) hHeld ?_ ?_
      rotate_left
      ·rintro w' ⟨s0, s1, s2⟩
       go_simp
       with_reducible rfl
      rotate_left
      ·simp only [Act.put, List.setIfInBounds_toArray, List.set_cons_zero, List.set_cons_succ, i64_w, i32_w]
       rfl
      refine take_ (i := 2) (N := some 22) (v := ?_) (a' := ?_) #[true, false, true, false, false, false] rfl rfl (by kernel_rfl) (fun _ _ _ h => h) (Or.inl ⟨by rfl, ?_⟩) hHeld ?_ ?_
      rotate_left
      ·rintro w' ⟨s0, s1, s2⟩
       go_simp
       with_reducible rfl
      rotate_left
      ·simp only [Act.put, List.setIfInBounds_toArray, List.set_cons_zero, List.set_cons_succ, i64_w, i32_w]
       rfl
      refine one_ (i := 1) (N := some 21) #[true, true, true, false, false, false] rfl rfl (by kernel_rfl) (by decide) (fun K hK => ?_)
      refine goes_ Try.func24 (by kernel_rfl) rfl #[.agg #[.slice A0_0 l0_0.length c0_0]] (by rfl) rfl rfl (by (try simp only [List.map_toArray, List.map_cons, List.map_nil]); first | done | rfl | (simp only [List.length_drop, List.length_take]; rfl)) ?_
      with_reducible refine (laws_toLedger.calls k _ _ l0_0 t300 _ ?side1 ?side2 A19.out).mono ?_
      (case side1 => exact q_c ((Kd.C_below HR0_0.out HB.out)))
      (case side2 => exact HC0_0.out)
      rintro e w78 ⟨v301, rfl, ho0, hb⟩
      refine ⟨_, rfl, ?_⟩
      have n0_ := Aside0.mk (Kd.S_lower ho0 (below_size bq))
      have n1_ := Aside0.mk (blk_below (q_b BK296.out) hb)
      have n2_ := Aside0.mk (blk_below (q_b BK297.out) hb)
      have n3_ := Aside0.mk (below_step bq hb)
      clear BK296
      clear BK297
      clear HB
      have HO302 := n0_
      have BK296 := n1_
      have BK297 := n2_
      have HB := n3_
      clear n0_ n1_ n2_ n3_
      (try clear hb)
      (try clear hb2)
      (try clear hk)
      (try clear hi)
      (try clear ho0)
      refine hK.out _ _ ⟨(blk_cell BK296.out 0).trans rfl, (blk_cell BK297.out 0).trans rfl, (blk_cell BK297.out 1).trans rfl⟩ (fun hHeld => ?_)
      clear hK K
      refine norm_ (a' := ?_) ?_ ?_
      rotate_left
      ·show Act.put _ (some 21) _ = _
       simp only [Act.put, List.setIfInBounds_toArray, List.set_cons_zero, List.set_cons_succ, i64_w, i32_w]
       rfl
      refine one_ (i := 3) (N := some 23) #[true, true, true, true, false, false] rfl rfl (by kernel_rfl) (by decide) (fun K hK => ?_)
      refine goes_ Try.func25 (by kernel_rfl) rfl #[.agg #[.int .i64 a1_0, .slice A1_1 l1_1.length c1_1]] (by rfl) rfl rfl (by (try simp only [List.map_toArray, List.map_cons, List.map_nil]); first | done | rfl | (simp only [List.length_drop, List.length_take]; rfl)) ?_
      with_reducible refine (laws_toContract.calls k a1_0 _ _ l1_1 t303 t304 _ ?side1 ?side2 A20.out).mono ?_
      (case side1 => exact q_c ((Kd.C_below HR1_1.out HB.out)))
      (case side2 => exact HC1_1.out)
      rintro e w79 ⟨v305, rfl, ho0, hb⟩
      refine ⟨_, rfl, ?_⟩
      have n0_ := Aside0.mk (Kd.S_below (q_s (HO302.out)) hb)
      have n1_ := Aside0.mk (Kd.R_lower ho0 (below_size bq))
      have n2_ := Aside0.mk (blk_below (q_b BK296.out) hb)
      have n3_ := Aside0.mk (blk_below (q_b BK297.out) hb)
      have n4_ := Aside0.mk (below_step bq hb)
      clear HO302
      clear BK296
      clear BK297
      clear HB
      have HO302 := n0_
      have HO306 := n1_
      have BK296 := n2_
      have BK297 := n3_
      have HB := n4_
      clear n0_ n1_ n2_ n3_ n4_
      (try clear hb)
      (try clear hb2)
      (try clear hk)
      (try clear hi)
      (try clear ho0)
      obtain ⟨Ao80, co80, eo80⟩ := Kd.S_slice HO302.out
      (first | subst eo80 | (injection eo80 with f1_ f2_ f3_; have f4_ := f1_.symm; have f5_ := f3_.symm; clear f1_ f2_ f3_; subst f4_; subst f5_))
      obtain ⟨Ao81, co81, eo81⟩ := Kd.R_slice HO306.out
      (first | subst eo81 | (injection eo81 with f1_ f2_ f3_; have f4_ := f1_.symm; have f5_ := f3_.symm; clear f1_ f2_ f3_; subst f4_; subst f5_))
      refine hK.out _ _ ⟨(blk_cell BK296.out 0).trans rfl, (blk_cell BK297.out 0).trans rfl, (blk_cell BK297.out 1).trans rfl⟩ (fun hHeld => ?_)
      clear hK K
      refine norm_ (a' := ?_) ?_ ?_
      rotate_left
      ·show Act.put _ (some 23) _ = _
       simp only [Act.put, List.setIfInBounds_toArray, List.set_cons_zero, List.set_cons_succ, i64_w, i32_w]
       rfl
      refine one_ (i := 4) (N := some 24) #[true, true, true, true, true, false] rfl rfl (by kernel_rfl) (by decide) (fun K hK => ?_)
      refine goes_ Try.func51 (by kernel_rfl) rfl #[.agg #[.slice Ao80 t300.length co80], .agg #[.int .i64 t303, .slice Ao81 t304.length co81]] (by rfl) rfl rfl (by (try simp only [List.map_toArray, List.map_cons, List.map_nil]); first | done | rfl | (simp only [List.length_drop, List.length_take]; rfl)) ?_
      with_reducible refine (spec_CanSettle.calls k _ _ t300 t303 _ _ t304 t307 _ ?side1 ?side2 ?side3 ?side4 A21.out).mono ?_
      (case side1 => exact q_c ((Kd.S_reads' HO302.out).2.2))
      (case side2 => exact (Kd.S_reads' HO302.out).2.1)
      (case side3 => exact q_c ((Kd.R_reads' HO306.out).2.2))
      (case side4 => exact (Kd.R_reads' HO306.out).2.1)
      rintro e w82 ⟨rfl, hb⟩
      refine ⟨_, rfl, ?_⟩
      have n0_ := Aside0.mk (Kd.S_below (q_s (HO302.out)) hb)
      have n1_ := Aside0.mk (Kd.R_below (q_r (HO306.out)) hb)
      have n2_ := Aside0.mk (blk_below (q_b BK296.out) hb)
      have n3_ := Aside0.mk (blk_below (q_b BK297.out) hb)
      have n4_ := Aside0.mk (below_step bq hb)
      clear HO302
      clear HO306
      clear BK296
      clear BK297
      clear HB
      have HO302 := n0_
      have HO306 := n1_
      have BK296 := n2_
      have BK297 := n3_
      have HB := n4_
      clear n0_ n1_ n2_ n3_ n4_
      (try clear hb)
      (try clear hb2)
      (try clear hk)
      (try clear hi)
      refine hK.out _ _ ⟨(blk_cell BK296.out 0).trans rfl, (blk_cell BK297.out 0).trans rfl, (blk_cell BK297.out 1).trans rfl⟩ (fun hHeld => ?_)
      clear hK K
      refine norm_ (a' := ?_) ?_ ?_
      rotate_left
      ·show Act.put _ (some 24) _ = _
       simp only [Act.put, List.setIfInBounds_toArray, List.set_cons_zero, List.set_cons_succ, i64_w, i32_w]
       rfl
      refine pure_ (i := 5) (N := some 6) (v := ?_) (a' := ?_) #[true, true, true, true, true, true] rfl rfl (by kernel_rfl) (fun _ _ _ h => h) (Or.inl ⟨by rfl, ?_⟩) ?_ ?_
      rotate_left
      ·intro w'
       go_simp
       with_reducible rfl
      rotate_left
      ·simp only [Act.put, List.setIfInBounds_toArray, List.set_cons_zero, List.set_cons_succ, i64_w, i32_w]
       rfl
      refine done_ (by kernel_rfl) ?_
      obtain ⟨hcz83_0, hfz83_0⟩ := q_1 BK296.out
      try go_wp2_with (first | ((with_reducible refine gate_callee (f := 24) rfl ?_); refine goesLq (some 26) rfl rfl Try.func24 (by kernel_rfl) rfl #[.agg #[.slice A0_0 l0_0.length c0_0]] rfl ?_; (with_reducible refine (laws_toLedger.calls k _ _ l0_0 t308 _ ?side1 ?side2 A22.out).mono ?_); (case side1 => exact q_c ((Kd.C_below HR0_0.out HB.out))); (case side2 => exact HC0_0.out); rintro e w84 ⟨v309, rfl, ho0, hb⟩; refine ⟨_, rfl, ?_⟩; have n0_ := Aside0.mk (Kd.S_elder' (q_s (HO302.out)) (Kd.S_base ho0) hb); have n1_ := Aside0.mk (Kd.R_below (q_r (HO306.out)) hb); have n2_ := Aside0.mk (Kd.S_lower (Kd.S_new' ho0 (Kd.S_lt (q_s (HO302.out)))) (below_size bq)); have n3_ := Aside0.mk (blk_below (q_b BK296.out) hb); have n4_ := Aside0.mk (blk_below (q_b BK297.out) hb); have n5_ := Aside0.mk (below_step bq hb); revert n0_ n1_ n2_ n3_ n4_ n5_; clear HO302 HO306 BK296 BK297 HB; intro HO302 HO306 HO310 BK296 BK297 HB; (try clear hb); (try clear hb2); (try clear hk); (try clear hi); (try clear ho0)) | ((with_reducible refine gate_dst (N := 7) rfl ?_); refine q_box (N := 7) (cs := #[.slice none 0 0]) (t := 26) ?_; intro gb311 hg w85 hbox hb; have n0_ := Aside0.mk (Kd.S_below (q_s (HO302.out)) hb); have n1_ := Aside0.mk (Kd.R_below (q_r (HO306.out)) hb); have n2_ := Aside0.mk (Kd.S_below (q_s (HO310.out)) hb); have n3_ := Aside0.mk (blk_below (q_b BK296.out) hb); have n4_ := Aside0.mk (blk_below (q_b BK297.out) hb); have n5_ := Aside0.mk (below_step bq hb); have n6_ := Aside0.mk (hbox); have n7_ := Aside0.mk ((q_g hg bq : w.heap.size ≤ gb311)); have n8_ := Aside0.mk ((q_g hg bq : w.heap.size ≤ gb311)); have n9_ := Aside0.mk ((q_n hg (q_b BK296.out) : gb296 ≠ gb311)); have n10_ := Aside0.mk ((q_m hg (q_b BK296.out) : gb311 ≠ gb296)); have n11_ := Aside0.mk ((q_n hg (q_b BK297.out) : gb297 ≠ gb311)); have n12_ := Aside0.mk ((q_m hg (q_b BK297.out) : gb311 ≠ gb297)); revert n0_ n1_ n2_ n3_ n4_ n5_ n6_ n7_ n8_ n9_ n10_ n11_ n12_; clear HO302 HO306 HO310 BK296 BK297 HB; intro HO302 HO306 HO310 BK296 BK297 HB BK311 GW311 GE311 NB296_311 NB311_296 NB297_311 NB311_297; clear hb hbox hg; obtain ⟨Ao86, co86, eo86⟩ := Kd.S_slice HO310.out; subst eo86; have hnb87 := NB311_296.out; have hnc87 := NB296_311.out; have hnb88 := NB311_297.out; have hnc88 := NB297_311.out; obtain ⟨hcz89_0, hfz89_0⟩ := q_1 BK311.out; obtain ⟨hcz90_0, hcz90_1, hfz90_0, hfz90_1⟩ := q_2 BK297.out) | ((with_reducible refine gate_callee (f := 25) rfl ?_); refine goesLq (some 28) rfl rfl Try.func25 (by kernel_rfl) rfl #[.agg #[.int .i64 a1_0, .slice A1_1 l1_1.length c1_1]] rfl ?_; (with_reducible refine (laws_toContract.calls k a1_0 _ _ l1_1 t312 t313 _ ?side1 ?side2 A23.out).mono ?_); (case side1 => exact Kd.C_below HR1_1.out bq); (case side2 => exact HC1_1.out); rintro e w91 ⟨v314, rfl, ho0, hb⟩; refine ⟨_, rfl, ?_⟩; have n0_ := Aside0.mk (Kd.S_below (by (with_reducible repeat (first | apply Kd.S_alloc | apply Kd.S_drewN | apply Kd.S_drew)); exact (Kd.S_mono (Kd.S_far (p := ⟨gb311, 0, none⟩) (Kd.S_types HO302.out BK311.out (by decide)) (fun _ hk => hk.2) (.slice Ao86 t308.length co86)) (fun _ h_ => h_.1))) hb); have n1_ := Aside0.mk (Kd.R_elder' (by (with_reducible repeat (first | apply Kd.R_alloc | apply Kd.R_drewN | apply Kd.R_drew)); exact (Kd.R_mono (Kd.R_far (p := ⟨gb311, 0, none⟩) (Kd.R_types HO306.out BK311.out (by decide)) (fun _ hk => hk.2) (.slice Ao86 t308.length co86)) (fun _ h_ => h_.1))) (Kd.R_base ho0) hb); have n2_ := Aside0.mk (Kd.S_below (by (with_reducible repeat (first | apply Kd.S_alloc | apply Kd.S_drewN | apply Kd.S_drew)); exact (Kd.S_mono (Kd.S_far (p := ⟨gb311, 0, none⟩) (Kd.S_types HO310.out BK311.out (by decide)) (fun _ hk => hk.2) (.slice Ao86 t308.length co86)) (fun _ h_ => h_.1))) hb); have n3_ := Aside0.mk (Kd.R_lower (Kd.R_new' ho0 (Kd.R_lt (by (with_reducible repeat (first | apply Kd.R_alloc | apply Kd.R_drewN | apply Kd.R_drew)); exact (Kd.R_mono (Kd.R_far (p := ⟨gb311, 0, none⟩) (Kd.R_types HO306.out BK311.out (by decide)) (fun _ hk => hk.2) (.slice Ao86 t308.length co86)) (fun _ h_ => h_.1))))) (below_size bq)); have n4_ := Aside0.mk (blk_below (g := gb296) (o := .cells #[.slice A0_0 l0_0.length c0_0] 47 (0, 0)) (by (with_reducible repeat (first | refine blk_drewN ?_ _ | refine blk_drew ?_ | refine blk_alloc ?_ _)); refine blk_far ?_ NB296_311.out _; (with_reducible repeat (first | refine blk_drewN ?_ _ | refine blk_drew ?_ | refine blk_alloc ?_ _)); exact BK296.out) hb); have n5_ := Aside0.mk (blk_below (g := gb297) (o := .cells #[.int .i64 a1_0, .slice A1_1 l1_1.length c1_1] 50 (0, 0)) (by (with_reducible repeat (first | refine blk_drewN ?_ _ | refine blk_drew ?_ | refine blk_alloc ?_ _)); refine blk_far ?_ NB297_311.out _; (with_reducible repeat (first | refine blk_drewN ?_ _ | refine blk_drew ?_ | refine blk_alloc ?_ _)); exact BK297.out) hb); have n6_ := Aside0.mk (blk_below (g := gb311) (o := .cells #[.slice Ao86 t308.length co86] 26 (0, 0)) (by (with_reducible repeat (first | refine blk_drewN ?_ _ | refine blk_drew ?_ | refine blk_alloc ?_ _)); refine blk_put (cs := #[.slice none 0 0]) ?_ 0 _ rfl; (with_reducible repeat (first | refine blk_drewN ?_ _ | refine blk_drew ?_ | refine blk_alloc ?_ _)); exact BK311.out) hb); have n7_ := Aside0.mk (below_step bq hb); revert n0_ n1_ n2_ n3_ n4_ n5_ n6_ n7_; clear HO302 HO306 HO310 BK296 BK297 BK311 HB; intro HO302 HO306 HO310 HO315 BK296 BK297 BK311 HB; (try clear hb); (try clear hb2); (try clear hk); (try clear hi); (try clear ho0)) | ((with_reducible refine gate_dst (N := 8) rfl ?_); refine q_box (N := 8) (cs := #[.int .i64 0, .slice none 0 0]) (t := 40) ?_; intro gb316 hg w92 hbox hb; have n0_ := Aside0.mk (Kd.S_below (q_s (HO302.out)) hb); have n1_ := Aside0.mk (Kd.R_below (q_r (HO306.out)) hb); have n2_ := Aside0.mk (Kd.S_below (q_s (HO310.out)) hb); have n3_ := Aside0.mk (Kd.R_below (q_r (HO315.out)) hb); have n4_ := Aside0.mk (blk_below (q_b BK296.out) hb); have n5_ := Aside0.mk (blk_below (q_b BK297.out) hb); have n6_ := Aside0.mk (blk_below (q_b BK311.out) hb); have n7_ := Aside0.mk (below_step bq hb); have n8_ := Aside0.mk (hbox); have n9_ := Aside0.mk ((q_g hg bq : w.heap.size ≤ gb316)); have n10_ := Aside0.mk ((q_g hg bq : w.heap.size ≤ gb316)); have n11_ := Aside0.mk ((q_n hg (q_b BK296.out) : gb296 ≠ gb316)); have n12_ := Aside0.mk ((q_m hg (q_b BK296.out) : gb316 ≠ gb296)); have n13_ := Aside0.mk ((q_n hg (q_b BK297.out) : gb297 ≠ gb316)); have n14_ := Aside0.mk ((q_m hg (q_b BK297.out) : gb316 ≠ gb297)); have n15_ := Aside0.mk ((q_n hg (q_b BK311.out) : gb311 ≠ gb316)); have n16_ := Aside0.mk ((q_m hg (q_b BK311.out) : gb316 ≠ gb311)); revert n0_ n1_ n2_ n3_ n4_ n5_ n6_ n7_ n8_ n9_ n10_ n11_ n12_ n13_ n14_ n15_ n16_; clear HO302 HO306 HO310 HO315 BK296 BK297 BK311 HB; intro HO302 HO306 HO310 HO315 BK296 BK297 BK311 HB BK316 GW316 GE316 NB296_316 NB316_296 NB297_316 NB316_297 NB311_316 NB316_311; clear hb hbox hg; have hnb93 := NB316_296.out; have hnc93 := NB296_316.out; have hnb94 := NB316_297.out; have hnc94 := NB297_316.out; have hnb95 := NB316_311.out; have hnc95 := NB311_316.out; obtain ⟨hcz96_0, hcz96_1, hfz96_0, hfz96_1⟩ := q_2 BK316.out; obtain ⟨Ao97, co97, eo97⟩ := Kd.R_slice HO315.out; subst eo97; obtain ⟨hcz98_0, hfz98_0⟩ := q_1 BK311.out) | ((with_reducible refine gate_callee (f := 52) rfl ?_); refine goesLq (some 31) rfl rfl Try.func52 (by kernel_rfl) rfl #[.agg #[.slice Ao86 t308.length co86], .agg #[.int .i64 t312, .slice Ao97 t313.length co97]] rfl ?_; (with_reducible refine (impl_CanSettle.calls k _ _ t308 t312 _ _ t313 t317 _ ?side1 ?side2 ?side3 ?side4 A24.out).mono ?_); (case side1 => refine (Kd.S_reads' (e := 64) (base := w.heap.size) (ok := fun k_ => (True ∧ some k_ ≠ (.slice Ao80 t300.length co80 : Value).ownBlock)) (n := t308.length) (c := co86) ?_).2.2; exact (by (with_reducible repeat (first | apply Kd.S_alloc | apply Kd.S_drewN | apply Kd.S_drew)); exact (Kd.S_mono (Kd.S_far (p := ⟨gb316, 1, none⟩) (Kd.S_far (p := ⟨gb316, 0, none⟩) (Kd.S_types HO310.out BK316.out (by decide)) (fun _ hk => hk.2) (.int .i64 t312)) (fun _ hk => hk.2) (.slice Ao97 t313.length co97)) (fun _ h_ => h_.1)))); (case side2 => exact (Kd.S_reads' HO310.out).2.1); (case side3 => refine (Kd.R_reads' (e := 86) (base := w.heap.size) (ok := fun k_ => (True ∧ some k_ ≠ (.slice Ao81 t304.length co81 : Value).ownBlock)) (n := t313.length) (c := co97) ?_).2.2; exact (by (with_reducible repeat (first | apply Kd.R_alloc | apply Kd.R_drewN | apply Kd.R_drew)); exact (Kd.R_mono (Kd.R_far (p := ⟨gb316, 1, none⟩) (Kd.R_far (p := ⟨gb316, 0, none⟩) (Kd.R_types HO315.out BK316.out (by decide)) (fun _ hk => hk.2) (.int .i64 t312)) (fun _ hk => hk.2) (.slice Ao97 t313.length co97)) (fun _ h_ => h_.1)))); (case side4 => exact (Kd.R_reads' HO315.out).2.1); rintro e w99 ⟨rfl, hb⟩; refine ⟨_, rfl, ?_⟩; have n0_ := Aside0.mk (Kd.S_below (by (with_reducible repeat (first | apply Kd.S_alloc | apply Kd.S_drewN | apply Kd.S_drew)); exact (Kd.S_mono (Kd.S_far (p := ⟨gb316, 1, none⟩) (Kd.S_far (p := ⟨gb316, 0, none⟩) (Kd.S_types HO302.out BK316.out (by decide)) (fun _ hk => hk.2) (.int .i64 t312)) (fun _ hk => hk.2) (.slice Ao97 t313.length co97)) (fun _ h_ => h_.1))) hb); have n1_ := Aside0.mk (Kd.R_below (by (with_reducible repeat (first | apply Kd.R_alloc | apply Kd.R_drewN | apply Kd.R_drew)); exact (Kd.R_mono (Kd.R_far (p := ⟨gb316, 1, none⟩) (Kd.R_far (p := ⟨gb316, 0, none⟩) (Kd.R_types HO306.out BK316.out (by decide)) (fun _ hk => hk.2) (.int .i64 t312)) (fun _ hk => hk.2) (.slice Ao97 t313.length co97)) (fun _ h_ => h_.1))) hb); have n2_ := Aside0.mk (Kd.S_below (by (with_reducible repeat (first | apply Kd.S_alloc | apply Kd.S_drewN | apply Kd.S_drew)); exact (Kd.S_mono (Kd.S_far (p := ⟨gb316, 1, none⟩) (Kd.S_far (p := ⟨gb316, 0, none⟩) (Kd.S_types HO310.out BK316.out (by decide)) (fun _ hk => hk.2) (.int .i64 t312)) (fun _ hk => hk.2) (.slice Ao97 t313.length co97)) (fun _ h_ => h_.1))) hb); have n3_ := Aside0.mk (Kd.R_below (by (with_reducible repeat (first | apply Kd.R_alloc | apply Kd.R_drewN | apply Kd.R_drew)); exact (Kd.R_mono (Kd.R_far (p := ⟨gb316, 1, none⟩) (Kd.R_far (p := ⟨gb316, 0, none⟩) (Kd.R_types HO315.out BK316.out (by decide)) (fun _ hk => hk.2) (.int .i64 t312)) (fun _ hk => hk.2) (.slice Ao97 t313.length co97)) (fun _ h_ => h_.1))) hb); have n4_ := Aside0.mk (blk_below (g := gb296) (o := .cells #[.slice A0_0 l0_0.length c0_0] 47 (0, 0)) (by (with_reducible repeat (first | refine blk_drewN ?_ _ | refine blk_drew ?_ | refine blk_alloc ?_ _)); refine blk_far ?_ NB296_316.out _; (with_reducible repeat (first | refine blk_drewN ?_ _ | refine blk_drew ?_ | refine blk_alloc ?_ _)); refine blk_far ?_ NB296_316.out _; (with_reducible repeat (first | refine blk_drewN ?_ _ | refine blk_drew ?_ | refine blk_alloc ?_ _)); exact BK296.out) hb); have n5_ := Aside0.mk (blk_below (g := gb297) (o := .cells #[.int .i64 a1_0, .slice A1_1 l1_1.length c1_1] 50 (0, 0)) (by (with_reducible repeat (first | refine blk_drewN ?_ _ | refine blk_drew ?_ | refine blk_alloc ?_ _)); refine blk_far ?_ NB297_316.out _; (with_reducible repeat (first | refine blk_drewN ?_ _ | refine blk_drew ?_ | refine blk_alloc ?_ _)); refine blk_far ?_ NB297_316.out _; (with_reducible repeat (first | refine blk_drewN ?_ _ | refine blk_drew ?_ | refine blk_alloc ?_ _)); exact BK297.out) hb); have n6_ := Aside0.mk (blk_below (g := gb311) (o := .cells #[.slice Ao86 t308.length co86] 26 (0, 0)) (by (with_reducible repeat (first | refine blk_drewN ?_ _ | refine blk_drew ?_ | refine blk_alloc ?_ _)); refine blk_far ?_ NB311_316.out _; (with_reducible repeat (first | refine blk_drewN ?_ _ | refine blk_drew ?_ | refine blk_alloc ?_ _)); refine blk_far ?_ NB311_316.out _; (with_reducible repeat (first | refine blk_drewN ?_ _ | refine blk_drew ?_ | refine blk_alloc ?_ _)); exact BK311.out) hb); have n7_ := Aside0.mk (blk_below (g := gb316) (o := .cells #[.int .i64 t312, .slice Ao97 t313.length co97] 40 (0, 0)) (by (with_reducible repeat (first | refine blk_drewN ?_ _ | refine blk_drew ?_ | refine blk_alloc ?_ _)); refine blk_put (cs := #[.int .i64 t312, .slice none 0 0]) ?_ 1 _ rfl; (with_reducible repeat (first | refine blk_drewN ?_ _ | refine blk_drew ?_ | refine blk_alloc ?_ _)); refine blk_put (cs := #[.int .i64 0, .slice none 0 0]) ?_ 0 _ rfl; (with_reducible repeat (first | refine blk_drewN ?_ _ | refine blk_drew ?_ | refine blk_alloc ?_ _)); exact BK316.out) hb); have n8_ := Aside0.mk (below_step bq hb); revert n0_ n1_ n2_ n3_ n4_ n5_ n6_ n7_ n8_; clear HO302 HO306 HO310 HO315 BK296 BK297 BK311 BK316 HB; intro HO302 HO306 HO310 HO315 BK296 BK297 BK311 BK316 HB; (try clear hb); (try clear hb2); (try clear hk); (try clear hi)))
      have n0_ := Aside0.mk (Kd.S_drew HO302.out)
      have n1_ := Aside0.mk (Kd.R_drew HO306.out)
      have n2_ := Aside0.mk (Kd.S_drew HO310.out)
      have n3_ := Aside0.mk (Kd.R_drew HO315.out)
      have n4_ := Aside0.mk (blk_drew BK296.out)
      have n5_ := Aside0.mk (blk_drew BK297.out)
      have n6_ := Aside0.mk (blk_drew BK311.out)
      have n7_ := Aside0.mk (blk_drew BK316.out)
      have n8_ := Aside0.mk (below_drew1 HB.out)
      clear HO302
      clear HO306
      clear HO310
      clear HO315
      clear BK296
      clear BK297
      clear BK311
      clear BK316
      clear HB
      have HO302 := n0_
      have HO306 := n1_
      have HO310 := n2_
      have HO315 := n3_
      have BK296 := n4_
      have BK297 := n5_
      have BK311 := n6_
      have BK316 := n7_
      have HB := n8_
      clear n0_ n1_ n2_ n3_ n4_ n5_ n6_ n7_ n8_
      refine start_ (n := 5) (S := fun w' => w'.cell? ⟨gb311, 0, none⟩ = some (.slice Ao86 t308.length co86) ∧ w'.cell? ⟨gb296, 0, none⟩ = some (.slice A0_0 l0_0.length c0_0)) (ds := []) #[false, false, false, false, false] (by kernel_rfl) rfl rfl ⟨(blk_cell BK311.out 0).trans rfl, (blk_cell BK296.out 0).trans rfl⟩ (fun hHeld => ?_)
      generalize w99.drew = w100 at HO302 HO306 HO310 HO315 BK296 BK297 BK311 BK316 HB hHeld ⊢
      refine take_ (i := 0) (N := some 35) (v := ?_) (a' := ?_) #[true, false, false, false, false] rfl rfl (by kernel_rfl) (fun _ _ _ h => h) (Or.inl ⟨by rfl, ?_⟩) hHeld ?_ ?_
      rotate_left
      ·rintro w' ⟨s0, s1⟩
       go_simp
       with_reducible rfl
      rotate_left
      ·simp only [Act.put, List.setIfInBounds_toArray, List.set_cons_zero, List.set_cons_succ, i64_w, i32_w]
       rfl
      refine take_ (i := 1) (N := some 36) (v := ?_) (a' := ?_) #[true, true, false, false, false] rfl rfl (by kernel_rfl) (fun _ _ _ h => h) (Or.inl ⟨by rfl, ?_⟩) hHeld ?_ ?_
      rotate_left
      ·rintro w' ⟨s0, s1⟩
       go_simp
       with_reducible rfl
      rotate_left
      ·simp only [Act.put, List.setIfInBounds_toArray, List.set_cons_zero, List.set_cons_succ, i64_w, i32_w]
       rfl
      refine one_ (i := 2) (N := some 37) #[true, true, true, false, false] rfl rfl (by kernel_rfl) (by decide) (fun K hK => ?_)
      refine goes_ Try.func24 (by kernel_rfl) rfl #[.agg #[.slice A0_0 l0_0.length c0_0]] (by rfl) rfl rfl (by (try simp only [List.map_toArray, List.map_cons, List.map_nil]); first | done | rfl | (simp only [List.length_drop, List.length_take]; rfl)) ?_
      with_reducible refine (laws_toLedger.calls k _ _ l0_0 t318 _ ?side1 ?side2 A26.out).mono ?_
      (case side1 => exact q_c ((Kd.C_below HR0_0.out HB.out)))
      (case side2 => exact HC0_0.out)
      rintro e w101 ⟨v319, rfl, ho0, hb⟩
      refine ⟨_, rfl, ?_⟩
      have n0_ := Aside0.mk (Kd.S_elder' (q_s (HO302.out)) (Kd.S_base ho0) hb)
      have n1_ := Aside0.mk (Kd.R_below (q_r (HO306.out)) hb)
      have n2_ := Aside0.mk (Kd.S_elder' (q_s (HO310.out)) (Kd.S_base ho0) hb)
      have n3_ := Aside0.mk (Kd.R_below (q_r (HO315.out)) hb)
      have n4_ := Aside0.mk (Kd.S_lower (Kd.S_new' (Kd.S_new' ho0 (Kd.S_lt (q_s (HO302.out)))) (Kd.S_lt (q_s (HO310.out)))) (below_size bq))
      have n5_ := Aside0.mk (blk_below (q_b BK296.out) hb)
      have n6_ := Aside0.mk (blk_below (q_b BK297.out) hb)
      have n7_ := Aside0.mk (blk_below (q_b BK311.out) hb)
      have n8_ := Aside0.mk (blk_below (q_b BK316.out) hb)
      have n9_ := Aside0.mk (below_step bq hb)
      clear HO302
      clear HO306
      clear HO310
      clear HO315
      clear BK296
      clear BK297
      clear BK311
      clear BK316
      clear HB
      have HO302 := n0_
      have HO306 := n1_
      have HO310 := n2_
      have HO315 := n3_
      have HO320 := n4_
      have BK296 := n5_
      have BK297 := n6_
      have BK311 := n7_
      have BK316 := n8_
      have HB := n9_
      clear n0_ n1_ n2_ n3_ n4_ n5_ n6_ n7_ n8_ n9_
      (try clear hb)
      (try clear hb2)
      (try clear hk)
      (try clear hi)
      (try clear ho0)
      obtain ⟨Ao102, co102, eo102⟩ := Kd.S_slice HO320.out
      (first | subst eo102 | (injection eo102 with f1_ f2_ f3_; have f4_ := f1_.symm; have f5_ := f3_.symm; clear f1_ f2_ f3_; subst f4_; subst f5_))
      refine hK.out _ _ ⟨(blk_cell BK311.out 0).trans rfl, (blk_cell BK296.out 0).trans rfl⟩ (fun hHeld => ?_)
      clear hK K
      refine norm_ (a' := ?_) ?_ ?_
      rotate_left
      ·show Act.put _ (some 37) _ = _
       simp only [Act.put, List.setIfInBounds_toArray, List.set_cons_zero, List.set_cons_succ, i64_w, i32_w]
       rfl
      refine one_ (i := 3) (N := some 38) #[true, true, true, true, false] rfl rfl (by kernel_rfl) (by decide) (fun K hK => ?_)
      refine goes_ Try.func27 (by kernel_rfl) rfl #[.agg #[.slice Ao86 t308.length co86], .agg #[.slice Ao102 t318.length co102]] (by rfl) rfl rfl (by (try simp only [List.map_toArray, List.map_cons, List.map_nil]); first | done | rfl | (simp only [List.length_drop, List.length_take]; rfl)) ?_
      with_reducible refine (laws_eqLedger.calls k _ _ t308 _ _ t318 true _ ?side1 ?side2 ?side3 ?side4 A27.out).mono ?_
      (case side1 => exact q_c ((Kd.S_reads' HO310.out).2.2))
      (case side2 => exact (Kd.S_reads' HO310.out).2.1)
      (case side3 => exact q_c ((Kd.S_reads' HO320.out).2.2))
      (case side4 => exact (Kd.S_reads' HO320.out).2.1)
      rintro e w103 ⟨rfl, hb⟩
      refine ⟨_, rfl, ?_⟩
      have n0_ := Aside0.mk (Kd.S_below (q_s (HO302.out)) hb)
      have n1_ := Aside0.mk (Kd.R_below (q_r (HO306.out)) hb)
      have n2_ := Aside0.mk (Kd.S_below (q_s (HO310.out)) hb)
      have n3_ := Aside0.mk (Kd.R_below (q_r (HO315.out)) hb)
      have n4_ := Aside0.mk (Kd.S_below (q_s (HO320.out)) hb)
      have n5_ := Aside0.mk (blk_below (q_b BK296.out) hb)
      have n6_ := Aside0.mk (blk_below (q_b BK297.out) hb)
      have n7_ := Aside0.mk (blk_below (q_b BK311.out) hb)
      have n8_ := Aside0.mk (blk_below (q_b BK316.out) hb)
      have n9_ := Aside0.mk (below_step bq hb)
      clear HO302
      clear HO306
      clear HO310
      clear HO315
      clear HO320
      clear BK296
      clear BK297
      clear BK311
      clear BK316
      clear HB
      have HO302 := n0_
      have HO306 := n1_
      have HO310 := n2_
      have HO315 := n3_
      have HO320 := n4_
      have BK296 := n5_
      have BK297 := n6_
      have BK311 := n7_
      have BK316 := n8_
      have HB := n9_
      clear n0_ n1_ n2_ n3_ n4_ n5_ n6_ n7_ n8_ n9_
      (try clear hb)
      (try clear hb2)
      (try clear hk)
      (try clear hi)
      refine hK.out _ _ ⟨(blk_cell BK311.out 0).trans rfl, (blk_cell BK296.out 0).trans rfl⟩ (fun hHeld => ?_)
      clear hK K
      refine norm_ (a' := ?_) ?_ ?_
      rotate_left
      ·show Act.put _ (some 38) _ = _
       simp only [Act.put, List.setIfInBounds_toArray, List.set_cons_zero, List.set_cons_succ, i64_w, i32_w]
       rfl
      refine pure_ (i := 4) (N := some 39) (v := ?_) (a' := ?_) #[true, true, true, true, true] rfl rfl (by kernel_rfl) (fun _ _ _ h => h) (Or.inl ⟨by rfl, ?_⟩) ?_ ?_
      rotate_left
      ·intro w'
       go_simp
       with_reducible rfl
      rotate_left
      ·simp only [Act.put, List.setIfInBounds_toArray, List.set_cons_zero, List.set_cons_succ, i64_w, i32_w]
       rfl
      refine done_ (by kernel_rfl) ?_
      try go_wp2
      have n0_ := Aside0.mk (Kd.S_drew HO302.out)
      have n1_ := Aside0.mk (Kd.R_drew HO306.out)
      have n2_ := Aside0.mk (Kd.S_drew HO310.out)
      have n3_ := Aside0.mk (Kd.R_drew HO315.out)
      have n4_ := Aside0.mk (Kd.S_drew HO320.out)
      have n5_ := Aside0.mk (blk_drew BK296.out)
      have n6_ := Aside0.mk (blk_drew BK297.out)
      have n7_ := Aside0.mk (blk_drew BK311.out)
      have n8_ := Aside0.mk (blk_drew BK316.out)
      have n9_ := Aside0.mk (below_drew1 HB.out)
      clear HO302
      clear HO306
      clear HO310
      clear HO315
      clear HO320
      clear BK296
      clear BK297
      clear BK311
      clear BK316
      clear HB
      have HO302 := n0_
      have HO306 := n1_
      have HO310 := n2_
      have HO315 := n3_
      have HO320 := n4_
      have BK296 := n5_
      have BK297 := n6_
      have BK311 := n7_
      have BK316 := n8_
      have HB := n9_
      clear n0_ n1_ n2_ n3_ n4_ n5_ n6_ n7_ n8_ n9_
      refine start_ (n := 5) (S := fun w' => w'.cell? ⟨gb316, 0, none⟩ = some (.int .i64 t312) ∧ w'.cell? ⟨gb316, 1, none⟩ = some (.slice Ao97 t313.length co97) ∧ w'.cell? ⟨gb297, 0, none⟩ = some (.int .i64 a1_0) ∧ w'.cell? ⟨gb297, 1, none⟩ = some (.slice A1_1 l1_1.length c1_1)) (ds := []) #[false, false, false, false, false] (by kernel_rfl) rfl rfl ⟨(blk_cell BK316.out 0).trans rfl, (blk_cell BK316.out 1).trans rfl, (blk_cell BK297.out 0).trans rfl, (blk_cell BK297.out 1).trans rfl⟩ (fun hHeld => ?_)
      generalize w103.drew = w104 at HO302 HO306 HO310 HO315 HO320 BK296 BK297 BK311 BK316 HB hHeld ⊢
      refine take_ (i := 0) (N := some 40) (v := ?_) (a' := ?_) #[true, false, false, false, false] rfl rfl (by kernel_rfl) (fun _ _ _ h => h) (Or.inl ⟨by rfl, ?_⟩) hHeld ?_ ?_
      rotate_left
      ·rintro w' ⟨s0, s1, s2, s3⟩
       go_simp
       with_reducible rfl
      rotate_left
      ·simp only [Act.put, List.setIfInBounds_toArray, List.set_cons_zero, List.set_cons_succ, i64_w, i32_w]
       rfl
      refine take_ (i := 1) (N := some 41) (v := ?_) (a' := ?_) #[true, true, false, false, false] rfl rfl (by kernel_rfl) (fun _ _ _ h => h) (Or.inl ⟨by rfl, ?_⟩) hHeld ?_ ?_
      rotate_left
      ·rintro w' ⟨s0, s1, s2, s3⟩
       go_simp
       with_reducible rfl
      rotate_left
      ·simp only [Act.put, List.setIfInBounds_toArray, List.set_cons_zero, List.set_cons_succ, i64_w, i32_w]
       rfl
      refine one_ (i := 2) (N := some 42) #[true, true, true, false, false] rfl rfl (by kernel_rfl) (by decide) (fun K hK => ?_)
      refine goes_ Try.func25 (by kernel_rfl) rfl #[.agg #[.int .i64 a1_0, .slice A1_1 l1_1.length c1_1]] (by rfl) rfl rfl (by (try simp only [List.map_toArray, List.map_cons, List.map_nil]); first | done | rfl | (simp only [List.length_drop, List.length_take]; rfl)) ?_
      with_reducible refine (laws_toContract.calls k a1_0 _ _ l1_1 t322 t323 _ ?side1 ?side2 A29.out).mono ?_
      (case side1 => exact q_c ((Kd.C_below HR1_1.out HB.out)))
      (case side2 => exact HC1_1.out)
      rintro e w105 ⟨v324, rfl, ho0, hb⟩
      refine ⟨_, rfl, ?_⟩
      have n0_ := Aside0.mk (Kd.S_below (q_s (HO302.out)) hb)
      have n1_ := Aside0.mk (Kd.R_elder' (q_r (HO306.out)) (Kd.R_base ho0) hb)
      have n2_ := Aside0.mk (Kd.S_below (q_s (HO310.out)) hb)
      have n3_ := Aside0.mk (Kd.R_elder' (q_r (HO315.out)) (Kd.R_base ho0) hb)
      have n4_ := Aside0.mk (Kd.S_below (q_s (HO320.out)) hb)
      have n5_ := Aside0.mk (Kd.R_lower (Kd.R_new' (Kd.R_new' ho0 (Kd.R_lt (q_r (HO306.out)))) (Kd.R_lt (q_r (HO315.out)))) (below_size bq))
      have n6_ := Aside0.mk (blk_below (q_b BK296.out) hb)
      have n7_ := Aside0.mk (blk_below (q_b BK297.out) hb)
      have n8_ := Aside0.mk (blk_below (q_b BK311.out) hb)
      have n9_ := Aside0.mk (blk_below (q_b BK316.out) hb)
      have n10_ := Aside0.mk (below_step bq hb)
      clear HO302
      clear HO306
      clear HO310
      clear HO315
      clear HO320
      clear BK296
      clear BK297
      clear BK311
      clear BK316
      clear HB
      have HO302 := n0_
      have HO306 := n1_
      have HO310 := n2_
      have HO315 := n3_
      have HO320 := n4_
      have HO325 := n5_
      have BK296 := n6_
      have BK297 := n7_
      have BK311 := n8_
      have BK316 := n9_
      have HB := n10_
      clear n0_ n1_ n2_ n3_ n4_ n5_ n6_ n7_ n8_ n9_ n10_
      (try clear hb)
      (try clear hb2)
      (try clear hk)
      (try clear hi)
      (try clear ho0)
      obtain ⟨Ao106, co106, eo106⟩ := Kd.R_slice HO325.out
      (first | subst eo106 | (injection eo106 with f1_ f2_ f3_; have f4_ := f1_.symm; have f5_ := f3_.symm; clear f1_ f2_ f3_; subst f4_; subst f5_))
      refine hK.out _ _ ⟨(blk_cell BK316.out 0).trans rfl, (blk_cell BK316.out 1).trans rfl, (blk_cell BK297.out 0).trans rfl, (blk_cell BK297.out 1).trans rfl⟩ (fun hHeld => ?_)
      clear hK K
      refine norm_ (a' := ?_) ?_ ?_
      rotate_left
      ·show Act.put _ (some 42) _ = _
       simp only [Act.put, List.setIfInBounds_toArray, List.set_cons_zero, List.set_cons_succ, i64_w, i32_w]
       rfl
      refine one_ (i := 3) (N := some 43) #[true, true, true, true, false] rfl rfl (by kernel_rfl) (by decide) (fun K hK => ?_)
      refine goes_ Try.func28 (by kernel_rfl) rfl #[.agg #[.int .i64 t312, .slice Ao97 t313.length co97], .agg #[.int .i64 t322, .slice Ao106 t323.length co106]] (by rfl) rfl rfl (by (try simp only [List.map_toArray, List.map_cons, List.map_nil]); first | done | rfl | (simp only [List.length_drop, List.length_take]; rfl)) ?_
      with_reducible refine (laws_eqContract.calls k t312 _ _ t313 t322 _ _ t323 false _ ?side1 ?side2 ?side3 ?side4 A30.out).mono ?_
      (case side1 => exact q_c ((Kd.R_reads' HO315.out).2.2))
      (case side2 => exact (Kd.R_reads' HO315.out).2.1)
      (case side3 => exact q_c ((Kd.R_reads' HO325.out).2.2))
      (case side4 => exact (Kd.R_reads' HO325.out).2.1)
      rintro e w107 ⟨rfl, hb⟩
      refine ⟨_, rfl, ?_⟩
      have n0_ := Aside0.mk (Kd.S_below (q_s (HO302.out)) hb)
      have n1_ := Aside0.mk (Kd.R_below (q_r (HO306.out)) hb)
      have n2_ := Aside0.mk (Kd.S_below (q_s (HO310.out)) hb)
      have n3_ := Aside0.mk (Kd.R_below (q_r (HO315.out)) hb)
      have n4_ := Aside0.mk (Kd.S_below (q_s (HO320.out)) hb)
      have n5_ := Aside0.mk (Kd.R_below (q_r (HO325.out)) hb)
      have n6_ := Aside0.mk (blk_below (q_b BK296.out) hb)
      have n7_ := Aside0.mk (blk_below (q_b BK297.out) hb)
      have n8_ := Aside0.mk (blk_below (q_b BK311.out) hb)
      have n9_ := Aside0.mk (blk_below (q_b BK316.out) hb)
      have n10_ := Aside0.mk (below_step bq hb)
      clear HO302
      clear HO306
      clear HO310
      clear HO315
      clear HO320
      clear HO325
      clear BK296
      clear BK297
      clear BK311
      clear BK316
      clear HB
      have HO302 := n0_
      have HO306 := n1_
      have HO310 := n2_
      have HO315 := n3_
      have HO320 := n4_
      have HO325 := n5_
      have BK296 := n6_
      have BK297 := n7_
      have BK311 := n8_
      have BK316 := n9_
      have HB := n10_
      clear n0_ n1_ n2_ n3_ n4_ n5_ n6_ n7_ n8_ n9_ n10_
      (try clear hb)
      (try clear hb2)
      (try clear hk)
      (try clear hi)
      refine hK.out _ _ ⟨(blk_cell BK316.out 0).trans rfl, (blk_cell BK316.out 1).trans rfl, (blk_cell BK297.out 0).trans rfl, (blk_cell BK297.out 1).trans rfl⟩ (fun hHeld => ?_)
      clear hK K
      refine norm_ (a' := ?_) ?_ ?_
      rotate_left
      ·show Act.put _ (some 43) _ = _
       simp only [Act.put, List.setIfInBounds_toArray, List.set_cons_zero, List.set_cons_succ, i64_w, i32_w]
       rfl
      refine pure_ (i := 4) (N := some 44) (v := ?_) (a' := ?_) #[true, true, true, true, true] rfl rfl (by kernel_rfl) (fun _ _ _ h => h) (Or.inl ⟨by rfl, ?_⟩) ?_ ?_
      rotate_left
      ·intro w'
       go_simp
       with_reducible rfl
      rotate_left
      ·simp only [Act.put, List.setIfInBounds_toArray, List.set_cons_zero, List.set_cons_succ, i64_w, i32_w]
       rfl
      refine done_ (by kernel_rfl) ?_
      try go_wp2
      go_ret
      exact ⟨q_e, bq⟩
    ·replace c28 := Bool.eq_false_iff.mpr c28
     subst c28
     have H1 : (some false) = some r := by rw [if_neg (show ¬ (false = true) by decide)] at H; exact H
     clear H
     have H := H1
     clear H1
     obtain rfl := Option.some.inj H
     go_enter Try.func11, Try.ntmps11
     try go_wp2_with (first | ((with_reducible refine gate_dst (N := 2) rfl ?_); refine q_box (N := 2) (cs := #[.slice A0_0 l0_0.length c0_0]) (t := 47) ?_; intro gb296 hg w108 hbox hb; have n0_ := Aside0.mk (below_step bq hb); have n1_ := Aside0.mk (hbox); have n2_ := Aside0.mk ((q_g hg bq : w.heap.size ≤ gb296)); have n3_ := Aside0.mk ((q_g hg bq : w.heap.size ≤ gb296)); revert n0_ n1_ n2_ n3_; clear HB; intro HB BK296 GW296 GE296; clear hb hbox hg) | ((with_reducible refine gate_dst (N := 3) rfl ?_); refine q_box (N := 3) (cs := #[.int .i64 a1_0, .slice A1_1 l1_1.length c1_1]) (t := 50) ?_; intro gb297 hg w109 hbox hb; have n0_ := Aside0.mk (blk_below (q_b BK296.out) hb); have n1_ := Aside0.mk (below_step bq hb); have n2_ := Aside0.mk (hbox); have n3_ := Aside0.mk ((q_g hg bq : w.heap.size ≤ gb297)); have n4_ := Aside0.mk ((q_g hg bq : w.heap.size ≤ gb297)); have n5_ := Aside0.mk ((q_n hg (q_b BK296.out) : gb296 ≠ gb297)); have n6_ := Aside0.mk ((q_m hg (q_b BK296.out) : gb297 ≠ gb296)); revert n0_ n1_ n2_ n3_ n4_ n5_ n6_; clear BK296 HB; intro BK296 HB BK297 GW297 GE297 NB296_297 NB297_296; clear hb hbox hg; have hnb110 := NB296_297.out; have hnc110 := NB297_296.out; obtain ⟨hcz111_0, hfz111_0⟩ := q_1 BK296.out) | ((with_reducible refine gate_callee (f := 21) rfl ?_); refine goesLq (some 12) rfl rfl Try.func21 (by kernel_rfl) rfl #[.agg #[.slice A0_0 l0_0.length c0_0], .int .i64 1048576] rfl ?_; (with_reducible refine (laws_szLedger.calls k _ _ l0_0 1048576 t298 _ ?side1 ?side2 A3.out).mono ?_); (case side1 => exact q_c ((Kd.C_below HR0_0.out HB.out))); (case side2 => exact HC0_0.out); rintro e w112 ⟨rfl, hb⟩; refine ⟨_, rfl, ?_⟩; have n0_ := Aside0.mk (blk_below (q_b BK296.out) hb); have n1_ := Aside0.mk (blk_below (q_b BK297.out) hb); have n2_ := Aside0.mk (below_step bq hb); revert n0_ n1_ n2_; clear BK296 BK297 HB; intro BK296 BK297 HB; (try clear hb); (try clear hb2); (try clear hk); (try clear hi); obtain ⟨hcz113_0, hcz113_1, hfz113_0, hfz113_1⟩ := q_2 BK297.out) | ((with_reducible refine gate_callee (f := 22) rfl ?_); refine goesLq (some 17) rfl rfl Try.func22 (by kernel_rfl) rfl #[.agg #[.int .i64 a1_0, .slice A1_1 l1_1.length c1_1], .int .i64 t298] rfl ?_; (with_reducible refine (laws_szContract.calls a1_0 _ _ l1_1 t298 t299 _ ?side1 ?side2 A10.out).mono ?_); (case side1 => exact q_c ((Kd.C_below HR1_1.out HB.out))); (case side2 => exact HC1_1.out); rintro e w114 ⟨rfl, hb⟩; refine ⟨_, rfl, ?_⟩; have n0_ := Aside0.mk (blk_below (q_b BK296.out) hb); have n1_ := Aside0.mk (blk_below (q_b BK297.out) hb); have n2_ := Aside0.mk (below_step bq hb); revert n0_ n1_ n2_; clear BK296 BK297 HB; intro BK296 BK297 HB; (try clear hb); (try clear hb2); (try clear hk); (try clear hi)))
     have n0_ := Aside0.mk (blk_drew BK296.out)
     have n1_ := Aside0.mk (blk_drew BK297.out)
     have n2_ := Aside0.mk (below_drew1 HB.out)
     clear BK296
     clear BK297
     clear HB
     have BK296 := n0_
     have BK297 := n1_
     have HB := n2_
     clear n0_ n1_ n2_
     refine start_ (n := 6) (S := fun w' => w'.cell? ⟨gb296, 0, none⟩ = some (.slice A0_0 l0_0.length c0_0) ∧ w'.cell? ⟨gb297, 0, none⟩ = some (.int .i64 a1_0) ∧ w'.cell? ⟨gb297, 1, none⟩ = some (.slice A1_1 l1_1.length c1_1)) (ds := []) #[false, false, false, false, false, false] (by kernel_rfl) rfl rfl ⟨(blk_cell BK296.out 0).trans rfl, (blk_cell BK297.out 0).trans rfl, (blk_cell BK297.out 1).trans rfl⟩ (fun hHeld => ?_)
     generalize w114.drew = w115 at BK296 BK297 HB hHeld ⊢
     refine take_ (i := 0) (N := some 20) (v := ?_) (a' := ?_) #[true, false, false, false, false, false] rfl rfl (by kernel_rfl) (fun _ _ _ h => h) (Or.inl ⟨by rfl, ?_⟩) hHeld ?_ ?_
     rotate_left
     ·rintro w' ⟨s0, s1, s2⟩
      go_simp
      with_reducible rfl
     rotate_left
     ·simp only [Act.put, List.setIfInBounds_toArray, List.set_cons_zero, List.set_cons_succ, i64_w, i32_w]
      rfl
     refine take_ (i := 2) (N := some 22) (v := ?_) (a' := ?_) #[true, false, true, false, false, false] rfl rfl (by kernel_rfl) (fun _ _ _ h => h) (Or.inl ⟨by rfl, ?_⟩) hHeld ?_ ?_
     rotate_left
     ·rintro w' ⟨s0, s1, s2⟩
      go_simp
      with_reducible rfl
     rotate_left
     ·simp only [Act.put, List.setIfInBounds_toArray, List.set_cons_zero, List.set_cons_succ, i64_w, i32_w]
      rfl
     refine one_ (i := 1) (N := some 21) #[true, true, true, false, false, false] rfl rfl (by kernel_rfl) (by decide) (fun K hK => ?_)
     refine goes_ Try.func24 (by kernel_rfl) rfl #[.agg #[.slice A0_0 l0_0.length c0_0]] (by rfl) rfl rfl (by (try simp only [List.map_toArray, List.map_cons, List.map_nil]); first | done | rfl | (simp only [List.length_drop, List.length_take]; rfl)) ?_
     with_reducible refine (laws_toLedger.calls k _ _ l0_0 t300 _ ?side1 ?side2 A19.out).mono ?_
     (case side1 => exact q_c ((Kd.C_below HR0_0.out HB.out)))
     (case side2 => exact HC0_0.out)
     rintro e w116 ⟨v301, rfl, ho0, hb⟩
     refine ⟨_, rfl, ?_⟩
     have n0_ := Aside0.mk (Kd.S_lower ho0 (below_size bq))
     have n1_ := Aside0.mk (blk_below (q_b BK296.out) hb)
     have n2_ := Aside0.mk (blk_below (q_b BK297.out) hb)
     have n3_ := Aside0.mk (below_step bq hb)
     clear BK296
     clear BK297
     clear HB
     have HO302 := n0_
     have BK296 := n1_
     have BK297 := n2_
     have HB := n3_
     clear n0_ n1_ n2_ n3_
     (try clear hb)
     (try clear hb2)
     (try clear hk)
     (try clear hi)
     (try clear ho0)
     refine hK.out _ _ ⟨(blk_cell BK296.out 0).trans rfl, (blk_cell BK297.out 0).trans rfl, (blk_cell BK297.out 1).trans rfl⟩ (fun hHeld => ?_)
     clear hK K
     refine norm_ (a' := ?_) ?_ ?_
     rotate_left
     ·show Act.put _ (some 21) _ = _
      simp only [Act.put, List.setIfInBounds_toArray, List.set_cons_zero, List.set_cons_succ, i64_w, i32_w]
      rfl
     refine one_ (i := 3) (N := some 23) #[true, true, true, true, false, false] rfl rfl (by kernel_rfl) (by decide) (fun K hK => ?_)
     refine goes_ Try.func25 (by kernel_rfl) rfl #[.agg #[.int .i64 a1_0, .slice A1_1 l1_1.length c1_1]] (by rfl) rfl rfl (by (try simp only [List.map_toArray, List.map_cons, List.map_nil]); first | done | rfl | (simp only [List.length_drop, List.length_take]; rfl)) ?_
     with_reducible refine (laws_toContract.calls k a1_0 _ _ l1_1 t303 t304 _ ?side1 ?side2 A20.out).mono ?_
     (case side1 => exact q_c ((Kd.C_below HR1_1.out HB.out)))
     (case side2 => exact HC1_1.out)
     rintro e w117 ⟨v305, rfl, ho0, hb⟩
     refine ⟨_, rfl, ?_⟩
     have n0_ := Aside0.mk (Kd.S_below (q_s (HO302.out)) hb)
     have n1_ := Aside0.mk (Kd.R_lower ho0 (below_size bq))
     have n2_ := Aside0.mk (blk_below (q_b BK296.out) hb)
     have n3_ := Aside0.mk (blk_below (q_b BK297.out) hb)
     have n4_ := Aside0.mk (below_step bq hb)
     clear HO302
     clear BK296
     clear BK297
     clear HB
     have HO302 := n0_
     have HO306 := n1_
     have BK296 := n2_
     have BK297 := n3_
     have HB := n4_
     clear n0_ n1_ n2_ n3_ n4_
     (try clear hb)
     (try clear hb2)
     (try clear hk)
     (try clear hi)
     (try clear ho0)
     obtain ⟨Ao118, co118, eo118⟩ := Kd.S_slice HO302.out
     (first | subst eo118 | (injection eo118 with f1_ f2_ f3_; have f4_ := f1_.symm; have f5_ := f3_.symm; clear f1_ f2_ f3_; subst f4_; subst f5_))
     obtain ⟨Ao119, co119, eo119⟩ := Kd.R_slice HO306.out
     (first | subst eo119 | (injection eo119 with f1_ f2_ f3_; have f4_ := f1_.symm; have f5_ := f3_.symm; clear f1_ f2_ f3_; subst f4_; subst f5_))
     refine hK.out _ _ ⟨(blk_cell BK296.out 0).trans rfl, (blk_cell BK297.out 0).trans rfl, (blk_cell BK297.out 1).trans rfl⟩ (fun hHeld => ?_)
     clear hK K
     refine norm_ (a' := ?_) ?_ ?_
     rotate_left
     ·show Act.put _ (some 23) _ = _
      simp only [Act.put, List.setIfInBounds_toArray, List.set_cons_zero, List.set_cons_succ, i64_w, i32_w]
      rfl
     refine one_ (i := 4) (N := some 24) #[true, true, true, true, true, false] rfl rfl (by kernel_rfl) (by decide) (fun K hK => ?_)
     refine goes_ Try.func51 (by kernel_rfl) rfl #[.agg #[.slice Ao118 t300.length co118], .agg #[.int .i64 t303, .slice Ao119 t304.length co119]] (by rfl) rfl rfl (by (try simp only [List.map_toArray, List.map_cons, List.map_nil]); first | done | rfl | (simp only [List.length_drop, List.length_take]; rfl)) ?_
     with_reducible refine (spec_CanSettle.calls k _ _ t300 t303 _ _ t304 t307 _ ?side1 ?side2 ?side3 ?side4 A21.out).mono ?_
     (case side1 => exact q_c ((Kd.S_reads' HO302.out).2.2))
     (case side2 => exact (Kd.S_reads' HO302.out).2.1)
     (case side3 => exact q_c ((Kd.R_reads' HO306.out).2.2))
     (case side4 => exact (Kd.R_reads' HO306.out).2.1)
     rintro e w120 ⟨rfl, hb⟩
     refine ⟨_, rfl, ?_⟩
     have n0_ := Aside0.mk (Kd.S_below (q_s (HO302.out)) hb)
     have n1_ := Aside0.mk (Kd.R_below (q_r (HO306.out)) hb)
     have n2_ := Aside0.mk (blk_below (q_b BK296.out) hb)
     have n3_ := Aside0.mk (blk_below (q_b BK297.out) hb)
     have n4_ := Aside0.mk (below_step bq hb)
     clear HO302
     clear HO306
     clear BK296
     clear BK297
     clear HB
     have HO302 := n0_
     have HO306 := n1_
     have BK296 := n2_
     have BK297 := n3_
     have HB := n4_
     clear n0_ n1_ n2_ n3_ n4_
     (try clear hb)
     (try clear hb2)
     (try clear hk)
     (try clear hi)
     refine hK.out _ _ ⟨(blk_cell BK296.out 0).trans rfl, (blk_cell BK297.out 0).trans rfl, (blk_cell BK297.out 1).trans rfl⟩ (fun hHeld => ?_)
     clear hK K
     refine norm_ (a' := ?_) ?_ ?_
     rotate_left
     ·show Act.put _ (some 24) _ = _
      simp only [Act.put, List.setIfInBounds_toArray, List.set_cons_zero, List.set_cons_succ, i64_w, i32_w]
      rfl
     refine pure_ (i := 5) (N := some 6) (v := ?_) (a' := ?_) #[true, true, true, true, true, true] rfl rfl (by kernel_rfl) (fun _ _ _ h => h) (Or.inl ⟨by rfl, ?_⟩) ?_ ?_
     rotate_left
     ·intro w'
      go_simp
      with_reducible rfl
     rotate_left
     ·simp only [Act.put, List.setIfInBounds_toArray, List.set_cons_zero, List.set_cons_succ, i64_w, i32_w]
      rfl
     refine done_ (by kernel_rfl) ?_
     obtain ⟨hcz121_0, hfz121_0⟩ := q_1 BK296.out
     try go_wp2_with (first | ((with_reducible refine gate_callee (f := 24) rfl ?_); refine goesLq (some 26) rfl rfl Try.func24 (by kernel_rfl) rfl #[.agg #[.slice A0_0 l0_0.length c0_0]] rfl ?_; (with_reducible refine (laws_toLedger.calls k _ _ l0_0 t308 _ ?side1 ?side2 A22.out).mono ?_); (case side1 => exact q_c ((Kd.C_below HR0_0.out HB.out))); (case side2 => exact HC0_0.out); rintro e w122 ⟨v309, rfl, ho0, hb⟩; refine ⟨_, rfl, ?_⟩; have n0_ := Aside0.mk (Kd.S_elder' (q_s (HO302.out)) (Kd.S_base ho0) hb); have n1_ := Aside0.mk (Kd.R_below (q_r (HO306.out)) hb); have n2_ := Aside0.mk (Kd.S_lower (Kd.S_new' ho0 (Kd.S_lt (q_s (HO302.out)))) (below_size bq)); have n3_ := Aside0.mk (blk_below (q_b BK296.out) hb); have n4_ := Aside0.mk (blk_below (q_b BK297.out) hb); have n5_ := Aside0.mk (below_step bq hb); revert n0_ n1_ n2_ n3_ n4_ n5_; clear HO302 HO306 BK296 BK297 HB; intro HO302 HO306 HO310 BK296 BK297 HB; (try clear hb); (try clear hb2); (try clear hk); (try clear hi); (try clear ho0)) | ((with_reducible refine gate_dst (N := 7) rfl ?_); refine q_box (N := 7) (cs := #[.slice none 0 0]) (t := 26) ?_; intro gb311 hg w123 hbox hb; have n0_ := Aside0.mk (Kd.S_below (q_s (HO302.out)) hb); have n1_ := Aside0.mk (Kd.R_below (q_r (HO306.out)) hb); have n2_ := Aside0.mk (Kd.S_below (q_s (HO310.out)) hb); have n3_ := Aside0.mk (blk_below (q_b BK296.out) hb); have n4_ := Aside0.mk (blk_below (q_b BK297.out) hb); have n5_ := Aside0.mk (below_step bq hb); have n6_ := Aside0.mk (hbox); have n7_ := Aside0.mk ((q_g hg bq : w.heap.size ≤ gb311)); have n8_ := Aside0.mk ((q_g hg bq : w.heap.size ≤ gb311)); have n9_ := Aside0.mk ((q_n hg (q_b BK296.out) : gb296 ≠ gb311)); have n10_ := Aside0.mk ((q_m hg (q_b BK296.out) : gb311 ≠ gb296)); have n11_ := Aside0.mk ((q_n hg (q_b BK297.out) : gb297 ≠ gb311)); have n12_ := Aside0.mk ((q_m hg (q_b BK297.out) : gb311 ≠ gb297)); revert n0_ n1_ n2_ n3_ n4_ n5_ n6_ n7_ n8_ n9_ n10_ n11_ n12_; clear HO302 HO306 HO310 BK296 BK297 HB; intro HO302 HO306 HO310 BK296 BK297 HB BK311 GW311 GE311 NB296_311 NB311_296 NB297_311 NB311_297; clear hb hbox hg; obtain ⟨Ao124, co124, eo124⟩ := Kd.S_slice HO310.out; subst eo124; have hnb125 := NB311_296.out; have hnc125 := NB296_311.out; have hnb126 := NB311_297.out; have hnc126 := NB297_311.out; obtain ⟨hcz127_0, hfz127_0⟩ := q_1 BK311.out; obtain ⟨hcz128_0, hcz128_1, hfz128_0, hfz128_1⟩ := q_2 BK297.out) | ((with_reducible refine gate_callee (f := 25) rfl ?_); refine goesLq (some 28) rfl rfl Try.func25 (by kernel_rfl) rfl #[.agg #[.int .i64 a1_0, .slice A1_1 l1_1.length c1_1]] rfl ?_; (with_reducible refine (laws_toContract.calls k a1_0 _ _ l1_1 t312 t313 _ ?side1 ?side2 A23.out).mono ?_); (case side1 => exact Kd.C_below HR1_1.out bq); (case side2 => exact HC1_1.out); rintro e w129 ⟨v314, rfl, ho0, hb⟩; refine ⟨_, rfl, ?_⟩; have n0_ := Aside0.mk (Kd.S_below (by (with_reducible repeat (first | apply Kd.S_alloc | apply Kd.S_drewN | apply Kd.S_drew)); exact (Kd.S_mono (Kd.S_far (p := ⟨gb311, 0, none⟩) (Kd.S_types HO302.out BK311.out (by decide)) (fun _ hk => hk.2) (.slice Ao124 t308.length co124)) (fun _ h_ => h_.1))) hb); have n1_ := Aside0.mk (Kd.R_elder' (by (with_reducible repeat (first | apply Kd.R_alloc | apply Kd.R_drewN | apply Kd.R_drew)); exact (Kd.R_mono (Kd.R_far (p := ⟨gb311, 0, none⟩) (Kd.R_types HO306.out BK311.out (by decide)) (fun _ hk => hk.2) (.slice Ao124 t308.length co124)) (fun _ h_ => h_.1))) (Kd.R_base ho0) hb); have n2_ := Aside0.mk (Kd.S_below (by (with_reducible repeat (first | apply Kd.S_alloc | apply Kd.S_drewN | apply Kd.S_drew)); exact (Kd.S_mono (Kd.S_far (p := ⟨gb311, 0, none⟩) (Kd.S_types HO310.out BK311.out (by decide)) (fun _ hk => hk.2) (.slice Ao124 t308.length co124)) (fun _ h_ => h_.1))) hb); have n3_ := Aside0.mk (Kd.R_lower (Kd.R_new' ho0 (Kd.R_lt (by (with_reducible repeat (first | apply Kd.R_alloc | apply Kd.R_drewN | apply Kd.R_drew)); exact (Kd.R_mono (Kd.R_far (p := ⟨gb311, 0, none⟩) (Kd.R_types HO306.out BK311.out (by decide)) (fun _ hk => hk.2) (.slice Ao124 t308.length co124)) (fun _ h_ => h_.1))))) (below_size bq)); have n4_ := Aside0.mk (blk_below (g := gb296) (o := .cells #[.slice A0_0 l0_0.length c0_0] 47 (0, 0)) (by (with_reducible repeat (first | refine blk_drewN ?_ _ | refine blk_drew ?_ | refine blk_alloc ?_ _)); refine blk_far ?_ NB296_311.out _; (with_reducible repeat (first | refine blk_drewN ?_ _ | refine blk_drew ?_ | refine blk_alloc ?_ _)); exact BK296.out) hb); have n5_ := Aside0.mk (blk_below (g := gb297) (o := .cells #[.int .i64 a1_0, .slice A1_1 l1_1.length c1_1] 50 (0, 0)) (by (with_reducible repeat (first | refine blk_drewN ?_ _ | refine blk_drew ?_ | refine blk_alloc ?_ _)); refine blk_far ?_ NB297_311.out _; (with_reducible repeat (first | refine blk_drewN ?_ _ | refine blk_drew ?_ | refine blk_alloc ?_ _)); exact BK297.out) hb); have n6_ := Aside0.mk (blk_below (g := gb311) (o := .cells #[.slice Ao124 t308.length co124] 26 (0, 0)) (by (with_reducible repeat (first | refine blk_drewN ?_ _ | refine blk_drew ?_ | refine blk_alloc ?_ _)); refine blk_put (cs := #[.slice none 0 0]) ?_ 0 _ rfl; (with_reducible repeat (first | refine blk_drewN ?_ _ | refine blk_drew ?_ | refine blk_alloc ?_ _)); exact BK311.out) hb); have n7_ := Aside0.mk (below_step bq hb); revert n0_ n1_ n2_ n3_ n4_ n5_ n6_ n7_; clear HO302 HO306 HO310 BK296 BK297 BK311 HB; intro HO302 HO306 HO310 HO315 BK296 BK297 BK311 HB; (try clear hb); (try clear hb2); (try clear hk); (try clear hi); (try clear ho0)) | ((with_reducible refine gate_dst (N := 8) rfl ?_); refine q_box (N := 8) (cs := #[.int .i64 0, .slice none 0 0]) (t := 40) ?_; intro gb316 hg w130 hbox hb; have n0_ := Aside0.mk (Kd.S_below (q_s (HO302.out)) hb); have n1_ := Aside0.mk (Kd.R_below (q_r (HO306.out)) hb); have n2_ := Aside0.mk (Kd.S_below (q_s (HO310.out)) hb); have n3_ := Aside0.mk (Kd.R_below (q_r (HO315.out)) hb); have n4_ := Aside0.mk (blk_below (q_b BK296.out) hb); have n5_ := Aside0.mk (blk_below (q_b BK297.out) hb); have n6_ := Aside0.mk (blk_below (q_b BK311.out) hb); have n7_ := Aside0.mk (below_step bq hb); have n8_ := Aside0.mk (hbox); have n9_ := Aside0.mk ((q_g hg bq : w.heap.size ≤ gb316)); have n10_ := Aside0.mk ((q_g hg bq : w.heap.size ≤ gb316)); have n11_ := Aside0.mk ((q_n hg (q_b BK296.out) : gb296 ≠ gb316)); have n12_ := Aside0.mk ((q_m hg (q_b BK296.out) : gb316 ≠ gb296)); have n13_ := Aside0.mk ((q_n hg (q_b BK297.out) : gb297 ≠ gb316)); have n14_ := Aside0.mk ((q_m hg (q_b BK297.out) : gb316 ≠ gb297)); have n15_ := Aside0.mk ((q_n hg (q_b BK311.out) : gb311 ≠ gb316)); have n16_ := Aside0.mk ((q_m hg (q_b BK311.out) : gb316 ≠ gb311)); revert n0_ n1_ n2_ n3_ n4_ n5_ n6_ n7_ n8_ n9_ n10_ n11_ n12_ n13_ n14_ n15_ n16_; clear HO302 HO306 HO310 HO315 BK296 BK297 BK311 HB; intro HO302 HO306 HO310 HO315 BK296 BK297 BK311 HB BK316 GW316 GE316 NB296_316 NB316_296 NB297_316 NB316_297 NB311_316 NB316_311; clear hb hbox hg; have hnb131 := NB316_296.out; have hnc131 := NB296_316.out; have hnb132 := NB316_297.out; have hnc132 := NB297_316.out; have hnb133 := NB316_311.out; have hnc133 := NB311_316.out; obtain ⟨hcz134_0, hcz134_1, hfz134_0, hfz134_1⟩ := q_2 BK316.out; obtain ⟨Ao135, co135, eo135⟩ := Kd.R_slice HO315.out; subst eo135; obtain ⟨hcz136_0, hfz136_0⟩ := q_1 BK311.out) | ((with_reducible refine gate_callee (f := 52) rfl ?_); refine goesLq (some 31) rfl rfl Try.func52 (by kernel_rfl) rfl #[.agg #[.slice Ao124 t308.length co124], .agg #[.int .i64 t312, .slice Ao135 t313.length co135]] rfl ?_; (with_reducible refine (impl_CanSettle.calls k _ _ t308 t312 _ _ t313 t317 _ ?side1 ?side2 ?side3 ?side4 A24.out).mono ?_); (case side1 => refine (Kd.S_reads' (e := 64) (base := w.heap.size) (ok := fun k_ => (True ∧ some k_ ≠ (.slice Ao118 t300.length co118 : Value).ownBlock)) (n := t308.length) (c := co124) ?_).2.2; exact (by (with_reducible repeat (first | apply Kd.S_alloc | apply Kd.S_drewN | apply Kd.S_drew)); exact (Kd.S_mono (Kd.S_far (p := ⟨gb316, 1, none⟩) (Kd.S_far (p := ⟨gb316, 0, none⟩) (Kd.S_types HO310.out BK316.out (by decide)) (fun _ hk => hk.2) (.int .i64 t312)) (fun _ hk => hk.2) (.slice Ao135 t313.length co135)) (fun _ h_ => h_.1)))); (case side2 => exact (Kd.S_reads' HO310.out).2.1); (case side3 => refine (Kd.R_reads' (e := 86) (base := w.heap.size) (ok := fun k_ => (True ∧ some k_ ≠ (.slice Ao119 t304.length co119 : Value).ownBlock)) (n := t313.length) (c := co135) ?_).2.2; exact (by (with_reducible repeat (first | apply Kd.R_alloc | apply Kd.R_drewN | apply Kd.R_drew)); exact (Kd.R_mono (Kd.R_far (p := ⟨gb316, 1, none⟩) (Kd.R_far (p := ⟨gb316, 0, none⟩) (Kd.R_types HO315.out BK316.out (by decide)) (fun _ hk => hk.2) (.int .i64 t312)) (fun _ hk => hk.2) (.slice Ao135 t313.length co135)) (fun _ h_ => h_.1)))); (case side4 => exact (Kd.R_reads' HO315.out).2.1); rintro e w137 ⟨rfl, hb⟩; refine ⟨_, rfl, ?_⟩; have n0_ := Aside0.mk (Kd.S_below (by (with_reducible repeat (first | apply Kd.S_alloc | apply Kd.S_drewN | apply Kd.S_drew)); exact (Kd.S_mono (Kd.S_far (p := ⟨gb316, 1, none⟩) (Kd.S_far (p := ⟨gb316, 0, none⟩) (Kd.S_types HO302.out BK316.out (by decide)) (fun _ hk => hk.2) (.int .i64 t312)) (fun _ hk => hk.2) (.slice Ao135 t313.length co135)) (fun _ h_ => h_.1))) hb); have n1_ := Aside0.mk (Kd.R_below (by (with_reducible repeat (first | apply Kd.R_alloc | apply Kd.R_drewN | apply Kd.R_drew)); exact (Kd.R_mono (Kd.R_far (p := ⟨gb316, 1, none⟩) (Kd.R_far (p := ⟨gb316, 0, none⟩) (Kd.R_types HO306.out BK316.out (by decide)) (fun _ hk => hk.2) (.int .i64 t312)) (fun _ hk => hk.2) (.slice Ao135 t313.length co135)) (fun _ h_ => h_.1))) hb); have n2_ := Aside0.mk (Kd.S_below (by (with_reducible repeat (first | apply Kd.S_alloc | apply Kd.S_drewN | apply Kd.S_drew)); exact (Kd.S_mono (Kd.S_far (p := ⟨gb316, 1, none⟩) (Kd.S_far (p := ⟨gb316, 0, none⟩) (Kd.S_types HO310.out BK316.out (by decide)) (fun _ hk => hk.2) (.int .i64 t312)) (fun _ hk => hk.2) (.slice Ao135 t313.length co135)) (fun _ h_ => h_.1))) hb); have n3_ := Aside0.mk (Kd.R_below (by (with_reducible repeat (first | apply Kd.R_alloc | apply Kd.R_drewN | apply Kd.R_drew)); exact (Kd.R_mono (Kd.R_far (p := ⟨gb316, 1, none⟩) (Kd.R_far (p := ⟨gb316, 0, none⟩) (Kd.R_types HO315.out BK316.out (by decide)) (fun _ hk => hk.2) (.int .i64 t312)) (fun _ hk => hk.2) (.slice Ao135 t313.length co135)) (fun _ h_ => h_.1))) hb); have n4_ := Aside0.mk (blk_below (g := gb296) (o := .cells #[.slice A0_0 l0_0.length c0_0] 47 (0, 0)) (by (with_reducible repeat (first | refine blk_drewN ?_ _ | refine blk_drew ?_ | refine blk_alloc ?_ _)); refine blk_far ?_ NB296_316.out _; (with_reducible repeat (first | refine blk_drewN ?_ _ | refine blk_drew ?_ | refine blk_alloc ?_ _)); refine blk_far ?_ NB296_316.out _; (with_reducible repeat (first | refine blk_drewN ?_ _ | refine blk_drew ?_ | refine blk_alloc ?_ _)); exact BK296.out) hb); have n5_ := Aside0.mk (blk_below (g := gb297) (o := .cells #[.int .i64 a1_0, .slice A1_1 l1_1.length c1_1] 50 (0, 0)) (by (with_reducible repeat (first | refine blk_drewN ?_ _ | refine blk_drew ?_ | refine blk_alloc ?_ _)); refine blk_far ?_ NB297_316.out _; (with_reducible repeat (first | refine blk_drewN ?_ _ | refine blk_drew ?_ | refine blk_alloc ?_ _)); refine blk_far ?_ NB297_316.out _; (with_reducible repeat (first | refine blk_drewN ?_ _ | refine blk_drew ?_ | refine blk_alloc ?_ _)); exact BK297.out) hb); have n6_ := Aside0.mk (blk_below (g := gb311) (o := .cells #[.slice Ao124 t308.length co124] 26 (0, 0)) (by (with_reducible repeat (first | refine blk_drewN ?_ _ | refine blk_drew ?_ | refine blk_alloc ?_ _)); refine blk_far ?_ NB311_316.out _; (with_reducible repeat (first | refine blk_drewN ?_ _ | refine blk_drew ?_ | refine blk_alloc ?_ _)); refine blk_far ?_ NB311_316.out _; (with_reducible repeat (first | refine blk_drewN ?_ _ | refine blk_drew ?_ | refine blk_alloc ?_ _)); exact BK311.out) hb); have n7_ := Aside0.mk (blk_below (g := gb316) (o := .cells #[.int .i64 t312, .slice Ao135 t313.length co135] 40 (0, 0)) (by (with_reducible repeat (first | refine blk_drewN ?_ _ | refine blk_drew ?_ | refine blk_alloc ?_ _)); refine blk_put (cs := #[.int .i64 t312, .slice none 0 0]) ?_ 1 _ rfl; (with_reducible repeat (first | refine blk_drewN ?_ _ | refine blk_drew ?_ | refine blk_alloc ?_ _)); refine blk_put (cs := #[.int .i64 0, .slice none 0 0]) ?_ 0 _ rfl; (with_reducible repeat (first | refine blk_drewN ?_ _ | refine blk_drew ?_ | refine blk_alloc ?_ _)); exact BK316.out) hb); have n8_ := Aside0.mk (below_step bq hb); revert n0_ n1_ n2_ n3_ n4_ n5_ n6_ n7_ n8_; clear HO302 HO306 HO310 HO315 BK296 BK297 BK311 BK316 HB; intro HO302 HO306 HO310 HO315 BK296 BK297 BK311 BK316 HB; (try clear hb); (try clear hb2); (try clear hk); (try clear hi)))
     have n0_ := Aside0.mk (Kd.S_drew HO302.out)
     have n1_ := Aside0.mk (Kd.R_drew HO306.out)
     have n2_ := Aside0.mk (Kd.S_drew HO310.out)
     have n3_ := Aside0.mk (Kd.R_drew HO315.out)
     have n4_ := Aside0.mk (blk_drew BK296.out)
     have n5_ := Aside0.mk (blk_drew BK297.out)
     have n6_ := Aside0.mk (blk_drew BK311.out)
     have n7_ := Aside0.mk (blk_drew BK316.out)
     have n8_ := Aside0.mk (below_drew1 HB.out)
     clear HO302
     clear HO306
     clear HO310
     clear HO315
     clear BK296
     clear BK297
     clear BK311
     clear BK316
     clear HB
     have HO302 := n0_
     have HO306 := n1_
     have HO310 := n2_
     have HO315 := n3_
     have BK296 := n4_
     have BK297 := n5_
     have BK311 := n6_
     have BK316 := n7_
     have HB := n8_
     clear n0_ n1_ n2_ n3_ n4_ n5_ n6_ n7_ n8_
     refine start_ (n := 5) (S := fun w' => w'.cell? ⟨gb311, 0, none⟩ = some (.slice Ao124 t308.length co124) ∧ w'.cell? ⟨gb296, 0, none⟩ = some (.slice A0_0 l0_0.length c0_0)) (ds := []) #[false, false, false, false, false] (by kernel_rfl) rfl rfl ⟨(blk_cell BK311.out 0).trans rfl, (blk_cell BK296.out 0).trans rfl⟩ (fun hHeld => ?_)
     generalize w137.drew = w138 at HO302 HO306 HO310 HO315 BK296 BK297 BK311 BK316 HB hHeld ⊢
     refine take_ (i := 0) (N := some 35) (v := ?_) (a' := ?_) #[true, false, false, false, false] rfl rfl (by kernel_rfl) (fun _ _ _ h => h) (Or.inl ⟨by rfl, ?_⟩) hHeld ?_ ?_
     rotate_left
     ·rintro w' ⟨s0, s1⟩
      go_simp
      with_reducible rfl
     rotate_left
     ·simp only [Act.put, List.setIfInBounds_toArray, List.set_cons_zero, List.set_cons_succ, i64_w, i32_w]
      rfl
     refine take_ (i := 1) (N := some 36) (v := ?_) (a' := ?_) #[true, true, false, false, false] rfl rfl (by kernel_rfl) (fun _ _ _ h => h) (Or.inl ⟨by rfl, ?_⟩) hHeld ?_ ?_
     rotate_left
     ·rintro w' ⟨s0, s1⟩
      go_simp
      with_reducible rfl
     rotate_left
     ·simp only [Act.put, List.setIfInBounds_toArray, List.set_cons_zero, List.set_cons_succ, i64_w, i32_w]
      rfl
     refine one_ (i := 2) (N := some 37) #[true, true, true, false, false] rfl rfl (by kernel_rfl) (by decide) (fun K hK => ?_)
     refine goes_ Try.func24 (by kernel_rfl) rfl #[.agg #[.slice A0_0 l0_0.length c0_0]] (by rfl) rfl rfl (by (try simp only [List.map_toArray, List.map_cons, List.map_nil]); first | done | rfl | (simp only [List.length_drop, List.length_take]; rfl)) ?_
     with_reducible refine (laws_toLedger.calls k _ _ l0_0 t318 _ ?side1 ?side2 A26.out).mono ?_
     (case side1 => exact q_c ((Kd.C_below HR0_0.out HB.out)))
     (case side2 => exact HC0_0.out)
     rintro e w139 ⟨v319, rfl, ho0, hb⟩
     refine ⟨_, rfl, ?_⟩
     have n0_ := Aside0.mk (Kd.S_elder' (q_s (HO302.out)) (Kd.S_base ho0) hb)
     have n1_ := Aside0.mk (Kd.R_below (q_r (HO306.out)) hb)
     have n2_ := Aside0.mk (Kd.S_elder' (q_s (HO310.out)) (Kd.S_base ho0) hb)
     have n3_ := Aside0.mk (Kd.R_below (q_r (HO315.out)) hb)
     have n4_ := Aside0.mk (Kd.S_lower (Kd.S_new' (Kd.S_new' ho0 (Kd.S_lt (q_s (HO302.out)))) (Kd.S_lt (q_s (HO310.out)))) (below_size bq))
     have n5_ := Aside0.mk (blk_below (q_b BK296.out) hb)
     have n6_ := Aside0.mk (blk_below (q_b BK297.out) hb)
     have n7_ := Aside0.mk (blk_below (q_b BK311.out) hb)
     have n8_ := Aside0.mk (blk_below (q_b BK316.out) hb)
     have n9_ := Aside0.mk (below_step bq hb)
     clear HO302
     clear HO306
     clear HO310
     clear HO315
     clear BK296
     clear BK297
     clear BK311
     clear BK316
     clear HB
     have HO302 := n0_
     have HO306 := n1_
     have HO310 := n2_
     have HO315 := n3_
     have HO320 := n4_
     have BK296 := n5_
     have BK297 := n6_
     have BK311 := n7_
     have BK316 := n8_
     have HB := n9_
     clear n0_ n1_ n2_ n3_ n4_ n5_ n6_ n7_ n8_ n9_
     (try clear hb)
     (try clear hb2)
     (try clear hk)
     (try clear hi)
     (try clear ho0)
     obtain ⟨Ao140, co140, eo140⟩ := Kd.S_slice HO320.out
     (first | subst eo140 | (injection eo140 with f1_ f2_ f3_; have f4_ := f1_.symm; have f5_ := f3_.symm; clear f1_ f2_ f3_; subst f4_; subst f5_))
     refine hK.out _ _ ⟨(blk_cell BK311.out 0).trans rfl, (blk_cell BK296.out 0).trans rfl⟩ (fun hHeld => ?_)
     clear hK K
     refine norm_ (a' := ?_) ?_ ?_
     rotate_left
     ·show Act.put _ (some 37) _ = _
      simp only [Act.put, List.setIfInBounds_toArray, List.set_cons_zero, List.set_cons_succ, i64_w, i32_w]
      rfl
     refine one_ (i := 3) (N := some 38) #[true, true, true, true, false] rfl rfl (by kernel_rfl) (by decide) (fun K hK => ?_)
     refine goes_ Try.func27 (by kernel_rfl) rfl #[.agg #[.slice Ao124 t308.length co124], .agg #[.slice Ao140 t318.length co140]] (by rfl) rfl rfl (by (try simp only [List.map_toArray, List.map_cons, List.map_nil]); first | done | rfl | (simp only [List.length_drop, List.length_take]; rfl)) ?_
     with_reducible refine (laws_eqLedger.calls k _ _ t308 _ _ t318 false _ ?side1 ?side2 ?side3 ?side4 A27.out).mono ?_
     (case side1 => exact q_c ((Kd.S_reads' HO310.out).2.2))
     (case side2 => exact (Kd.S_reads' HO310.out).2.1)
     (case side3 => exact q_c ((Kd.S_reads' HO320.out).2.2))
     (case side4 => exact (Kd.S_reads' HO320.out).2.1)
     rintro e w141 ⟨rfl, hb⟩
     refine ⟨_, rfl, ?_⟩
     have n0_ := Aside0.mk (Kd.S_below (q_s (HO302.out)) hb)
     have n1_ := Aside0.mk (Kd.R_below (q_r (HO306.out)) hb)
     have n2_ := Aside0.mk (Kd.S_below (q_s (HO310.out)) hb)
     have n3_ := Aside0.mk (Kd.R_below (q_r (HO315.out)) hb)
     have n4_ := Aside0.mk (Kd.S_below (q_s (HO320.out)) hb)
     have n5_ := Aside0.mk (blk_below (q_b BK296.out) hb)
     have n6_ := Aside0.mk (blk_below (q_b BK297.out) hb)
     have n7_ := Aside0.mk (blk_below (q_b BK311.out) hb)
     have n8_ := Aside0.mk (blk_below (q_b BK316.out) hb)
     have n9_ := Aside0.mk (below_step bq hb)
     clear HO302
     clear HO306
     clear HO310
     clear HO315
     clear HO320
     clear BK296
     clear BK297
     clear BK311
     clear BK316
     clear HB
     have HO302 := n0_
     have HO306 := n1_
     have HO310 := n2_
     have HO315 := n3_
     have HO320 := n4_
     have BK296 := n5_
     have BK297 := n6_
     have BK311 := n7_
     have BK316 := n8_
     have HB := n9_
     clear n0_ n1_ n2_ n3_ n4_ n5_ n6_ n7_ n8_ n9_
     (try clear hb)
     (try clear hb2)
     (try clear hk)
     (try clear hi)
     refine hK.out _ _ ⟨(blk_cell BK311.out 0).trans rfl, (blk_cell BK296.out 0).trans rfl⟩ (fun hHeld => ?_)
     clear hK K
     refine norm_ (a' := ?_) ?_ ?_
     rotate_left
     ·show Act.put _ (some 38) _ = _
      simp only [Act.put, List.setIfInBounds_toArray, List.set_cons_zero, List.set_cons_succ, i64_w, i32_w]
      rfl
     refine pure_ (i := 4) (N := some 39) (v := ?_) (a' := ?_) #[true, true, true, true, true] rfl rfl (by kernel_rfl) (fun _ _ _ h => h) (Or.inl ⟨by rfl, ?_⟩) ?_ ?_
     rotate_left
     ·intro w'
      go_simp
      with_reducible rfl
     rotate_left
     ·simp only [Act.put, List.setIfInBounds_toArray, List.set_cons_zero, List.set_cons_succ, i64_w, i32_w]
      rfl
     refine done_ (by kernel_rfl) ?_
     try go_wp2
     go_ret
     exact ⟨q_e, bq⟩
   ·rw [if_neg c25] at H
    have c25b0 : (t317 == t307) = false := beq_eq_false_iff_ne.mpr c25
    have c25b1 : (t317 != t307) = true := bne_iff_ne.mpr c25
    obtain rfl := Option.some.inj H
    go_enter Try.func11, Try.ntmps11
    try go_wp2_with (first | ((with_reducible refine gate_dst (N := 2) rfl ?_); refine q_box (N := 2) (cs := #[.slice A0_0 l0_0.length c0_0]) (t := 47) ?_; intro gb296 hg w142 hbox hb; have n0_ := Aside0.mk (below_step bq hb); have n1_ := Aside0.mk (hbox); have n2_ := Aside0.mk ((q_g hg bq : w.heap.size ≤ gb296)); have n3_ := Aside0.mk ((q_g hg bq : w.heap.size ≤ gb296)); revert n0_ n1_ n2_ n3_; clear HB; intro HB BK296 GW296 GE296; clear hb hbox hg) | ((with_reducible refine gate_dst (N := 3) rfl ?_); refine q_box (N := 3) (cs := #[.int .i64 a1_0, .slice A1_1 l1_1.length c1_1]) (t := 50) ?_; intro gb297 hg w143 hbox hb; have n0_ := Aside0.mk (blk_below (q_b BK296.out) hb); have n1_ := Aside0.mk (below_step bq hb); have n2_ := Aside0.mk (hbox); have n3_ := Aside0.mk ((q_g hg bq : w.heap.size ≤ gb297)); have n4_ := Aside0.mk ((q_g hg bq : w.heap.size ≤ gb297)); have n5_ := Aside0.mk ((q_n hg (q_b BK296.out) : gb296 ≠ gb297)); have n6_ := Aside0.mk ((q_m hg (q_b BK296.out) : gb297 ≠ gb296)); revert n0_ n1_ n2_ n3_ n4_ n5_ n6_; clear BK296 HB; intro BK296 HB BK297 GW297 GE297 NB296_297 NB297_296; clear hb hbox hg; have hnb144 := NB296_297.out; have hnc144 := NB297_296.out; obtain ⟨hcz145_0, hfz145_0⟩ := q_1 BK296.out) | ((with_reducible refine gate_callee (f := 21) rfl ?_); refine goesLq (some 12) rfl rfl Try.func21 (by kernel_rfl) rfl #[.agg #[.slice A0_0 l0_0.length c0_0], .int .i64 1048576] rfl ?_; (with_reducible refine (laws_szLedger.calls k _ _ l0_0 1048576 t298 _ ?side1 ?side2 A3.out).mono ?_); (case side1 => exact q_c ((Kd.C_below HR0_0.out HB.out))); (case side2 => exact HC0_0.out); rintro e w146 ⟨rfl, hb⟩; refine ⟨_, rfl, ?_⟩; have n0_ := Aside0.mk (blk_below (q_b BK296.out) hb); have n1_ := Aside0.mk (blk_below (q_b BK297.out) hb); have n2_ := Aside0.mk (below_step bq hb); revert n0_ n1_ n2_; clear BK296 BK297 HB; intro BK296 BK297 HB; (try clear hb); (try clear hb2); (try clear hk); (try clear hi); obtain ⟨hcz147_0, hcz147_1, hfz147_0, hfz147_1⟩ := q_2 BK297.out) | ((with_reducible refine gate_callee (f := 22) rfl ?_); refine goesLq (some 17) rfl rfl Try.func22 (by kernel_rfl) rfl #[.agg #[.int .i64 a1_0, .slice A1_1 l1_1.length c1_1], .int .i64 t298] rfl ?_; (with_reducible refine (laws_szContract.calls a1_0 _ _ l1_1 t298 t299 _ ?side1 ?side2 A10.out).mono ?_); (case side1 => exact q_c ((Kd.C_below HR1_1.out HB.out))); (case side2 => exact HC1_1.out); rintro e w148 ⟨rfl, hb⟩; refine ⟨_, rfl, ?_⟩; have n0_ := Aside0.mk (blk_below (q_b BK296.out) hb); have n1_ := Aside0.mk (blk_below (q_b BK297.out) hb); have n2_ := Aside0.mk (below_step bq hb); revert n0_ n1_ n2_; clear BK296 BK297 HB; intro BK296 BK297 HB; (try clear hb); (try clear hb2); (try clear hk); (try clear hi)))
    have n0_ := Aside0.mk (blk_drew BK296.out)
    have n1_ := Aside0.mk (blk_drew BK297.out)
    have n2_ := Aside0.mk (below_drew1 HB.out)
    clear BK296
    clear BK297
    clear HB
    have BK296 := n0_
    have BK297 := n1_
    have HB := n2_
    clear n0_ n1_ n2_
    refine start_ (n := 6) (S := fun w' => w'.cell? ⟨gb296, 0, none⟩ = some (.slice A0_0 l0_0.length c0_0) ∧ w'.cell? ⟨gb297, 0, none⟩ = some (.int .i64 a1_0) ∧ w'.cell? ⟨gb297, 1, none⟩ = some (.slice A1_1 l1_1.length c1_1)) (ds := []) #[false, false, false, false, false, false] (by kernel_rfl) rfl rfl ⟨(blk_cell BK296.out 0).trans rfl, (blk_cell BK297.out 0).trans rfl, (blk_cell BK297.out 1).trans rfl⟩ (fun hHeld => ?_)
    generalize w148.drew = w149 at BK296 BK297 HB hHeld ⊢
    refine take_ (i := 0) (N := some 20) (v := ?_) (a' := ?_) #[true, false, false, false, false, false] rfl rfl (by kernel_rfl) (fun _ _ _ h => h) (Or.inl ⟨by rfl, ?_⟩) hHeld ?_ ?_
    rotate_left
    ·rintro w' ⟨s0, s1, s2⟩
     go_simp
     with_reducible rfl
    rotate_left
    ·simp only [Act.put, List.setIfInBounds_toArray, List.set_cons_zero, List.set_cons_succ, i64_w, i32_w]
     rfl
    refine take_ (i := 2) (N := some 22) (v := ?_) (a' := ?_) #[true, false, true, false, false, false] rfl rfl (by kernel_rfl) (fun _ _ _ h => h) (Or.inl ⟨by rfl, ?_⟩) hHeld ?_ ?_
    rotate_left
    ·rintro w' ⟨s0, s1, s2⟩
     go_simp
     with_reducible rfl
    rotate_left
    ·simp only [Act.put, List.setIfInBounds_toArray, List.set_cons_zero, List.set_cons_succ, i64_w, i32_w]
     rfl
    refine one_ (i := 1) (N := some 21) #[true, true, true, false, false, false] rfl rfl (by kernel_rfl) (by decide) (fun K hK => ?_)
    refine goes_ Try.func24 (by kernel_rfl) rfl #[.agg #[.slice A0_0 l0_0.length c0_0]] (by rfl) rfl rfl (by (try simp only [List.map_toArray, List.map_cons, List.map_nil]); first | done | rfl | (simp only [List.length_drop, List.length_take]; rfl)) ?_
    with_reducible refine (laws_toLedger.calls k _ _ l0_0 t300 _ ?side1 ?side2 A19.out).mono ?_
    (case side1 => exact q_c ((Kd.C_below HR0_0.out HB.out)))
    (case side2 => exact HC0_0.out)
    rintro e w150 ⟨v301, rfl, ho0, hb⟩
    refine ⟨_, rfl, ?_⟩
    have n0_ := Aside0.mk (Kd.S_lower ho0 (below_size bq))
    have n1_ := Aside0.mk (blk_below (q_b BK296.out) hb)
    have n2_ := Aside0.mk (blk_below (q_b BK297.out) hb)
    have n3_ := Aside0.mk (below_step bq hb)
    clear BK296
    clear BK297
    clear HB
    have HO302 := n0_
    have BK296 := n1_
    have BK297 := n2_
    have HB := n3_
    clear n0_ n1_ n2_ n3_
    (try clear hb)
    (try clear hb2)
    (try clear hk)
    (try clear hi)
    (try clear ho0)
    refine hK.out _ _ ⟨(blk_cell BK296.out 0).trans rfl, (blk_cell BK297.out 0).trans rfl, (blk_cell BK297.out 1).trans rfl⟩ (fun hHeld => ?_)
    clear hK K
    refine norm_ (a' := ?_) ?_ ?_
    rotate_left
    ·show Act.put _ (some 21) _ = _
     simp only [Act.put, List.setIfInBounds_toArray, List.set_cons_zero, List.set_cons_succ, i64_w, i32_w]
     rfl
    refine one_ (i := 3) (N := some 23) #[true, true, true, true, false, false] rfl rfl (by kernel_rfl) (by decide) (fun K hK => ?_)
    refine goes_ Try.func25 (by kernel_rfl) rfl #[.agg #[.int .i64 a1_0, .slice A1_1 l1_1.length c1_1]] (by rfl) rfl rfl (by (try simp only [List.map_toArray, List.map_cons, List.map_nil]); first | done | rfl | (simp only [List.length_drop, List.length_take]; rfl)) ?_
    with_reducible refine (laws_toContract.calls k a1_0 _ _ l1_1 t303 t304 _ ?side1 ?side2 A20.out).mono ?_
    (case side1 => exact q_c ((Kd.C_below HR1_1.out HB.out)))
    (case side2 => exact HC1_1.out)
    rintro e w151 ⟨v305, rfl, ho0, hb⟩
    refine ⟨_, rfl, ?_⟩
    have n0_ := Aside0.mk (Kd.S_below (q_s (HO302.out)) hb)
    have n1_ := Aside0.mk (Kd.R_lower ho0 (below_size bq))
    have n2_ := Aside0.mk (blk_below (q_b BK296.out) hb)
    have n3_ := Aside0.mk (blk_below (q_b BK297.out) hb)
    have n4_ := Aside0.mk (below_step bq hb)
    clear HO302
    clear BK296
    clear BK297
    clear HB
    have HO302 := n0_
    have HO306 := n1_
    have BK296 := n2_
    have BK297 := n3_
    have HB := n4_
    clear n0_ n1_ n2_ n3_ n4_
    (try clear hb)
    (try clear hb2)
    (try clear hk)
    (try clear hi)
    (try clear ho0)
    obtain ⟨Ao152, co152, eo152⟩ := Kd.S_slice HO302.out
    (first | subst eo152 | (injection eo152 with f1_ f2_ f3_; have f4_ := f1_.symm; have f5_ := f3_.symm; clear f1_ f2_ f3_; subst f4_; subst f5_))
    obtain ⟨Ao153, co153, eo153⟩ := Kd.R_slice HO306.out
    (first | subst eo153 | (injection eo153 with f1_ f2_ f3_; have f4_ := f1_.symm; have f5_ := f3_.symm; clear f1_ f2_ f3_; subst f4_; subst f5_))
    refine hK.out _ _ ⟨(blk_cell BK296.out 0).trans rfl, (blk_cell BK297.out 0).trans rfl, (blk_cell BK297.out 1).trans rfl⟩ (fun hHeld => ?_)
    clear hK K
    refine norm_ (a' := ?_) ?_ ?_
    rotate_left
    ·show Act.put _ (some 23) _ = _
     simp only [Act.put, List.setIfInBounds_toArray, List.set_cons_zero, List.set_cons_succ, i64_w, i32_w]
     rfl
    refine one_ (i := 4) (N := some 24) #[true, true, true, true, true, false] rfl rfl (by kernel_rfl) (by decide) (fun K hK => ?_)
    refine goes_ Try.func51 (by kernel_rfl) rfl #[.agg #[.slice Ao152 t300.length co152], .agg #[.int .i64 t303, .slice Ao153 t304.length co153]] (by rfl) rfl rfl (by (try simp only [List.map_toArray, List.map_cons, List.map_nil]); first | done | rfl | (simp only [List.length_drop, List.length_take]; rfl)) ?_
    with_reducible refine (spec_CanSettle.calls k _ _ t300 t303 _ _ t304 t307 _ ?side1 ?side2 ?side3 ?side4 A21.out).mono ?_
    (case side1 => exact q_c ((Kd.S_reads' HO302.out).2.2))
    (case side2 => exact (Kd.S_reads' HO302.out).2.1)
    (case side3 => exact q_c ((Kd.R_reads' HO306.out).2.2))
    (case side4 => exact (Kd.R_reads' HO306.out).2.1)
    rintro e w154 ⟨rfl, hb⟩
    refine ⟨_, rfl, ?_⟩
    have n0_ := Aside0.mk (Kd.S_below (q_s (HO302.out)) hb)
    have n1_ := Aside0.mk (Kd.R_below (q_r (HO306.out)) hb)
    have n2_ := Aside0.mk (blk_below (q_b BK296.out) hb)
    have n3_ := Aside0.mk (blk_below (q_b BK297.out) hb)
    have n4_ := Aside0.mk (below_step bq hb)
    clear HO302
    clear HO306
    clear BK296
    clear BK297
    clear HB
    have HO302 := n0_
    have HO306 := n1_
    have BK296 := n2_
    have BK297 := n3_
    have HB := n4_
    clear n0_ n1_ n2_ n3_ n4_
    (try clear hb)
    (try clear hb2)
    (try clear hk)
    (try clear hi)
    refine hK.out _ _ ⟨(blk_cell BK296.out 0).trans rfl, (blk_cell BK297.out 0).trans rfl, (blk_cell BK297.out 1).trans rfl⟩ (fun hHeld => ?_)
    clear hK K
    refine norm_ (a' := ?_) ?_ ?_
    rotate_left
    ·show Act.put _ (some 24) _ = _
     simp only [Act.put, List.setIfInBounds_toArray, List.set_cons_zero, List.set_cons_succ, i64_w, i32_w]
     rfl
    refine pure_ (i := 5) (N := some 6) (v := ?_) (a' := ?_) #[true, true, true, true, true, true] rfl rfl (by kernel_rfl) (fun _ _ _ h => h) (Or.inl ⟨by rfl, ?_⟩) ?_ ?_
    rotate_left
    ·intro w'
     go_simp
     with_reducible rfl
    rotate_left
    ·simp only [Act.put, List.setIfInBounds_toArray, List.set_cons_zero, List.set_cons_succ, i64_w, i32_w]
     rfl
    refine done_ (by kernel_rfl) ?_
    obtain ⟨hcz155_0, hfz155_0⟩ := q_1 BK296.out
    try go_wp2_with (first | ((with_reducible refine gate_callee (f := 24) rfl ?_); refine goesLq (some 26) rfl rfl Try.func24 (by kernel_rfl) rfl #[.agg #[.slice A0_0 l0_0.length c0_0]] rfl ?_; (with_reducible refine (laws_toLedger.calls k _ _ l0_0 t308 _ ?side1 ?side2 A22.out).mono ?_); (case side1 => exact q_c ((Kd.C_below HR0_0.out HB.out))); (case side2 => exact HC0_0.out); rintro e w156 ⟨v309, rfl, ho0, hb⟩; refine ⟨_, rfl, ?_⟩; have n0_ := Aside0.mk (Kd.S_elder' (q_s (HO302.out)) (Kd.S_base ho0) hb); have n1_ := Aside0.mk (Kd.R_below (q_r (HO306.out)) hb); have n2_ := Aside0.mk (Kd.S_lower (Kd.S_new' ho0 (Kd.S_lt (q_s (HO302.out)))) (below_size bq)); have n3_ := Aside0.mk (blk_below (q_b BK296.out) hb); have n4_ := Aside0.mk (blk_below (q_b BK297.out) hb); have n5_ := Aside0.mk (below_step bq hb); revert n0_ n1_ n2_ n3_ n4_ n5_; clear HO302 HO306 BK296 BK297 HB; intro HO302 HO306 HO310 BK296 BK297 HB; (try clear hb); (try clear hb2); (try clear hk); (try clear hi); (try clear ho0)) | ((with_reducible refine gate_dst (N := 7) rfl ?_); refine q_box (N := 7) (cs := #[.slice none 0 0]) (t := 26) ?_; intro gb311 hg w157 hbox hb; have n0_ := Aside0.mk (Kd.S_below (q_s (HO302.out)) hb); have n1_ := Aside0.mk (Kd.R_below (q_r (HO306.out)) hb); have n2_ := Aside0.mk (Kd.S_below (q_s (HO310.out)) hb); have n3_ := Aside0.mk (blk_below (q_b BK296.out) hb); have n4_ := Aside0.mk (blk_below (q_b BK297.out) hb); have n5_ := Aside0.mk (below_step bq hb); have n6_ := Aside0.mk (hbox); have n7_ := Aside0.mk ((q_g hg bq : w.heap.size ≤ gb311)); have n8_ := Aside0.mk ((q_g hg bq : w.heap.size ≤ gb311)); have n9_ := Aside0.mk ((q_n hg (q_b BK296.out) : gb296 ≠ gb311)); have n10_ := Aside0.mk ((q_m hg (q_b BK296.out) : gb311 ≠ gb296)); have n11_ := Aside0.mk ((q_n hg (q_b BK297.out) : gb297 ≠ gb311)); have n12_ := Aside0.mk ((q_m hg (q_b BK297.out) : gb311 ≠ gb297)); revert n0_ n1_ n2_ n3_ n4_ n5_ n6_ n7_ n8_ n9_ n10_ n11_ n12_; clear HO302 HO306 HO310 BK296 BK297 HB; intro HO302 HO306 HO310 BK296 BK297 HB BK311 GW311 GE311 NB296_311 NB311_296 NB297_311 NB311_297; clear hb hbox hg; obtain ⟨Ao158, co158, eo158⟩ := Kd.S_slice HO310.out; subst eo158; have hnb159 := NB311_296.out; have hnc159 := NB296_311.out; have hnb160 := NB311_297.out; have hnc160 := NB297_311.out; obtain ⟨hcz161_0, hfz161_0⟩ := q_1 BK311.out; obtain ⟨hcz162_0, hcz162_1, hfz162_0, hfz162_1⟩ := q_2 BK297.out) | ((with_reducible refine gate_callee (f := 25) rfl ?_); refine goesLq (some 28) rfl rfl Try.func25 (by kernel_rfl) rfl #[.agg #[.int .i64 a1_0, .slice A1_1 l1_1.length c1_1]] rfl ?_; (with_reducible refine (laws_toContract.calls k a1_0 _ _ l1_1 t312 t313 _ ?side1 ?side2 A23.out).mono ?_); (case side1 => exact Kd.C_below HR1_1.out bq); (case side2 => exact HC1_1.out); rintro e w163 ⟨v314, rfl, ho0, hb⟩; refine ⟨_, rfl, ?_⟩; have n0_ := Aside0.mk (Kd.S_below (by (with_reducible repeat (first | apply Kd.S_alloc | apply Kd.S_drewN | apply Kd.S_drew)); exact (Kd.S_mono (Kd.S_far (p := ⟨gb311, 0, none⟩) (Kd.S_types HO302.out BK311.out (by decide)) (fun _ hk => hk.2) (.slice Ao158 t308.length co158)) (fun _ h_ => h_.1))) hb); have n1_ := Aside0.mk (Kd.R_elder' (by (with_reducible repeat (first | apply Kd.R_alloc | apply Kd.R_drewN | apply Kd.R_drew)); exact (Kd.R_mono (Kd.R_far (p := ⟨gb311, 0, none⟩) (Kd.R_types HO306.out BK311.out (by decide)) (fun _ hk => hk.2) (.slice Ao158 t308.length co158)) (fun _ h_ => h_.1))) (Kd.R_base ho0) hb); have n2_ := Aside0.mk (Kd.S_below (by (with_reducible repeat (first | apply Kd.S_alloc | apply Kd.S_drewN | apply Kd.S_drew)); exact (Kd.S_mono (Kd.S_far (p := ⟨gb311, 0, none⟩) (Kd.S_types HO310.out BK311.out (by decide)) (fun _ hk => hk.2) (.slice Ao158 t308.length co158)) (fun _ h_ => h_.1))) hb); have n3_ := Aside0.mk (Kd.R_lower (Kd.R_new' ho0 (Kd.R_lt (by (with_reducible repeat (first | apply Kd.R_alloc | apply Kd.R_drewN | apply Kd.R_drew)); exact (Kd.R_mono (Kd.R_far (p := ⟨gb311, 0, none⟩) (Kd.R_types HO306.out BK311.out (by decide)) (fun _ hk => hk.2) (.slice Ao158 t308.length co158)) (fun _ h_ => h_.1))))) (below_size bq)); have n4_ := Aside0.mk (blk_below (g := gb296) (o := .cells #[.slice A0_0 l0_0.length c0_0] 47 (0, 0)) (by (with_reducible repeat (first | refine blk_drewN ?_ _ | refine blk_drew ?_ | refine blk_alloc ?_ _)); refine blk_far ?_ NB296_311.out _; (with_reducible repeat (first | refine blk_drewN ?_ _ | refine blk_drew ?_ | refine blk_alloc ?_ _)); exact BK296.out) hb); have n5_ := Aside0.mk (blk_below (g := gb297) (o := .cells #[.int .i64 a1_0, .slice A1_1 l1_1.length c1_1] 50 (0, 0)) (by (with_reducible repeat (first | refine blk_drewN ?_ _ | refine blk_drew ?_ | refine blk_alloc ?_ _)); refine blk_far ?_ NB297_311.out _; (with_reducible repeat (first | refine blk_drewN ?_ _ | refine blk_drew ?_ | refine blk_alloc ?_ _)); exact BK297.out) hb); have n6_ := Aside0.mk (blk_below (g := gb311) (o := .cells #[.slice Ao158 t308.length co158] 26 (0, 0)) (by (with_reducible repeat (first | refine blk_drewN ?_ _ | refine blk_drew ?_ | refine blk_alloc ?_ _)); refine blk_put (cs := #[.slice none 0 0]) ?_ 0 _ rfl; (with_reducible repeat (first | refine blk_drewN ?_ _ | refine blk_drew ?_ | refine blk_alloc ?_ _)); exact BK311.out) hb); have n7_ := Aside0.mk (below_step bq hb); revert n0_ n1_ n2_ n3_ n4_ n5_ n6_ n7_; clear HO302 HO306 HO310 BK296 BK297 BK311 HB; intro HO302 HO306 HO310 HO315 BK296 BK297 BK311 HB; (try clear hb); (try clear hb2); (try clear hk); (try clear hi); (try clear ho0)) | ((with_reducible refine gate_dst (N := 8) rfl ?_); refine q_box (N := 8) (cs := #[.int .i64 0, .slice none 0 0]) (t := 40) ?_; intro gb316 hg w164 hbox hb; have n0_ := Aside0.mk (Kd.S_below (q_s (HO302.out)) hb); have n1_ := Aside0.mk (Kd.R_below (q_r (HO306.out)) hb); have n2_ := Aside0.mk (Kd.S_below (q_s (HO310.out)) hb); have n3_ := Aside0.mk (Kd.R_below (q_r (HO315.out)) hb); have n4_ := Aside0.mk (blk_below (q_b BK296.out) hb); have n5_ := Aside0.mk (blk_below (q_b BK297.out) hb); have n6_ := Aside0.mk (blk_below (q_b BK311.out) hb); have n7_ := Aside0.mk (below_step bq hb); have n8_ := Aside0.mk (hbox); have n9_ := Aside0.mk ((q_g hg bq : w.heap.size ≤ gb316)); have n10_ := Aside0.mk ((q_g hg bq : w.heap.size ≤ gb316)); have n11_ := Aside0.mk ((q_n hg (q_b BK296.out) : gb296 ≠ gb316)); have n12_ := Aside0.mk ((q_m hg (q_b BK296.out) : gb316 ≠ gb296)); have n13_ := Aside0.mk ((q_n hg (q_b BK297.out) : gb297 ≠ gb316)); have n14_ := Aside0.mk ((q_m hg (q_b BK297.out) : gb316 ≠ gb297)); have n15_ := Aside0.mk ((q_n hg (q_b BK311.out) : gb311 ≠ gb316)); have n16_ := Aside0.mk ((q_m hg (q_b BK311.out) : gb316 ≠ gb311)); revert n0_ n1_ n2_ n3_ n4_ n5_ n6_ n7_ n8_ n9_ n10_ n11_ n12_ n13_ n14_ n15_ n16_; clear HO302 HO306 HO310 HO315 BK296 BK297 BK311 HB; intro HO302 HO306 HO310 HO315 BK296 BK297 BK311 HB BK316 GW316 GE316 NB296_316 NB316_296 NB297_316 NB316_297 NB311_316 NB316_311; clear hb hbox hg; have hnb165 := NB316_296.out; have hnc165 := NB296_316.out; have hnb166 := NB316_297.out; have hnc166 := NB297_316.out; have hnb167 := NB316_311.out; have hnc167 := NB311_316.out; obtain ⟨hcz168_0, hcz168_1, hfz168_0, hfz168_1⟩ := q_2 BK316.out; obtain ⟨Ao169, co169, eo169⟩ := Kd.R_slice HO315.out; subst eo169; obtain ⟨hcz170_0, hfz170_0⟩ := q_1 BK311.out) | ((with_reducible refine gate_callee (f := 52) rfl ?_); refine goesLq (some 31) rfl rfl Try.func52 (by kernel_rfl) rfl #[.agg #[.slice Ao158 t308.length co158], .agg #[.int .i64 t312, .slice Ao169 t313.length co169]] rfl ?_; (with_reducible refine (impl_CanSettle.calls k _ _ t308 t312 _ _ t313 t317 _ ?side1 ?side2 ?side3 ?side4 A24.out).mono ?_); (case side1 => refine (Kd.S_reads' (e := 64) (base := w.heap.size) (ok := fun k_ => (True ∧ some k_ ≠ (.slice Ao152 t300.length co152 : Value).ownBlock)) (n := t308.length) (c := co158) ?_).2.2; exact (by (with_reducible repeat (first | apply Kd.S_alloc | apply Kd.S_drewN | apply Kd.S_drew)); exact (Kd.S_mono (Kd.S_far (p := ⟨gb316, 1, none⟩) (Kd.S_far (p := ⟨gb316, 0, none⟩) (Kd.S_types HO310.out BK316.out (by decide)) (fun _ hk => hk.2) (.int .i64 t312)) (fun _ hk => hk.2) (.slice Ao169 t313.length co169)) (fun _ h_ => h_.1)))); (case side2 => exact (Kd.S_reads' HO310.out).2.1); (case side3 => refine (Kd.R_reads' (e := 86) (base := w.heap.size) (ok := fun k_ => (True ∧ some k_ ≠ (.slice Ao153 t304.length co153 : Value).ownBlock)) (n := t313.length) (c := co169) ?_).2.2; exact (by (with_reducible repeat (first | apply Kd.R_alloc | apply Kd.R_drewN | apply Kd.R_drew)); exact (Kd.R_mono (Kd.R_far (p := ⟨gb316, 1, none⟩) (Kd.R_far (p := ⟨gb316, 0, none⟩) (Kd.R_types HO315.out BK316.out (by decide)) (fun _ hk => hk.2) (.int .i64 t312)) (fun _ hk => hk.2) (.slice Ao169 t313.length co169)) (fun _ h_ => h_.1)))); (case side4 => exact (Kd.R_reads' HO315.out).2.1); rintro e w171 ⟨rfl, hb⟩; refine ⟨_, rfl, ?_⟩; have n0_ := Aside0.mk (Kd.S_below (by (with_reducible repeat (first | apply Kd.S_alloc | apply Kd.S_drewN | apply Kd.S_drew)); exact (Kd.S_mono (Kd.S_far (p := ⟨gb316, 1, none⟩) (Kd.S_far (p := ⟨gb316, 0, none⟩) (Kd.S_types HO302.out BK316.out (by decide)) (fun _ hk => hk.2) (.int .i64 t312)) (fun _ hk => hk.2) (.slice Ao169 t313.length co169)) (fun _ h_ => h_.1))) hb); have n1_ := Aside0.mk (Kd.R_below (by (with_reducible repeat (first | apply Kd.R_alloc | apply Kd.R_drewN | apply Kd.R_drew)); exact (Kd.R_mono (Kd.R_far (p := ⟨gb316, 1, none⟩) (Kd.R_far (p := ⟨gb316, 0, none⟩) (Kd.R_types HO306.out BK316.out (by decide)) (fun _ hk => hk.2) (.int .i64 t312)) (fun _ hk => hk.2) (.slice Ao169 t313.length co169)) (fun _ h_ => h_.1))) hb); have n2_ := Aside0.mk (Kd.S_below (by (with_reducible repeat (first | apply Kd.S_alloc | apply Kd.S_drewN | apply Kd.S_drew)); exact (Kd.S_mono (Kd.S_far (p := ⟨gb316, 1, none⟩) (Kd.S_far (p := ⟨gb316, 0, none⟩) (Kd.S_types HO310.out BK316.out (by decide)) (fun _ hk => hk.2) (.int .i64 t312)) (fun _ hk => hk.2) (.slice Ao169 t313.length co169)) (fun _ h_ => h_.1))) hb); have n3_ := Aside0.mk (Kd.R_below (by (with_reducible repeat (first | apply Kd.R_alloc | apply Kd.R_drewN | apply Kd.R_drew)); exact (Kd.R_mono (Kd.R_far (p := ⟨gb316, 1, none⟩) (Kd.R_far (p := ⟨gb316, 0, none⟩) (Kd.R_types HO315.out BK316.out (by decide)) (fun _ hk => hk.2) (.int .i64 t312)) (fun _ hk => hk.2) (.slice Ao169 t313.length co169)) (fun _ h_ => h_.1))) hb); have n4_ := Aside0.mk (blk_below (g := gb296) (o := .cells #[.slice A0_0 l0_0.length c0_0] 47 (0, 0)) (by (with_reducible repeat (first | refine blk_drewN ?_ _ | refine blk_drew ?_ | refine blk_alloc ?_ _)); refine blk_far ?_ NB296_316.out _; (with_reducible repeat (first | refine blk_drewN ?_ _ | refine blk_drew ?_ | refine blk_alloc ?_ _)); refine blk_far ?_ NB296_316.out _; (with_reducible repeat (first | refine blk_drewN ?_ _ | refine blk_drew ?_ | refine blk_alloc ?_ _)); exact BK296.out) hb); have n5_ := Aside0.mk (blk_below (g := gb297) (o := .cells #[.int .i64 a1_0, .slice A1_1 l1_1.length c1_1] 50 (0, 0)) (by (with_reducible repeat (first | refine blk_drewN ?_ _ | refine blk_drew ?_ | refine blk_alloc ?_ _)); refine blk_far ?_ NB297_316.out _; (with_reducible repeat (first | refine blk_drewN ?_ _ | refine blk_drew ?_ | refine blk_alloc ?_ _)); refine blk_far ?_ NB297_316.out _; (with_reducible repeat (first | refine blk_drewN ?_ _ | refine blk_drew ?_ | refine blk_alloc ?_ _)); exact BK297.out) hb); have n6_ := Aside0.mk (blk_below (g := gb311) (o := .cells #[.slice Ao158 t308.length co158] 26 (0, 0)) (by (with_reducible repeat (first | refine blk_drewN ?_ _ | refine blk_drew ?_ | refine blk_alloc ?_ _)); refine blk_far ?_ NB311_316.out _; (with_reducible repeat (first | refine blk_drewN ?_ _ | refine blk_drew ?_ | refine blk_alloc ?_ _)); refine blk_far ?_ NB311_316.out _; (with_reducible repeat (first | refine blk_drewN ?_ _ | refine blk_drew ?_ | refine blk_alloc ?_ _)); exact BK311.out) hb); have n7_ := Aside0.mk (blk_below (g := gb316) (o := .cells #[.int .i64 t312, .slice Ao169 t313.length co169] 40 (0, 0)) (by (with_reducible repeat (first | refine blk_drewN ?_ _ | refine blk_drew ?_ | refine blk_alloc ?_ _)); refine blk_put (cs := #[.int .i64 t312, .slice none 0 0]) ?_ 1 _ rfl; (with_reducible repeat (first | refine blk_drewN ?_ _ | refine blk_drew ?_ | refine blk_alloc ?_ _)); refine blk_put (cs := #[.int .i64 0, .slice none 0 0]) ?_ 0 _ rfl; (with_reducible repeat (first | refine blk_drewN ?_ _ | refine blk_drew ?_ | refine blk_alloc ?_ _)); exact BK316.out) hb); have n8_ := Aside0.mk (below_step bq hb); revert n0_ n1_ n2_ n3_ n4_ n5_ n6_ n7_ n8_; clear HO302 HO306 HO310 HO315 BK296 BK297 BK311 BK316 HB; intro HO302 HO306 HO310 HO315 BK296 BK297 BK311 BK316 HB; (try clear hb); (try clear hb2); (try clear hk); (try clear hi)))
    go_ret
    exact ⟨q_e, bq⟩

end Go.Proofs.Ytanegggacfmkcaa.PFnExactCanSettle
