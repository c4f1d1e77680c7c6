/- The functions that a law reaches, each as a plain Lean function with the proof that the machine comes to its answer: written by program (the kit's print, turned by wip/gen). No conditions. -/
import Derived.Test.YtcdpiejcdeedoaaPFnCrashLogsx0
import Derived.Test.YtcdpiejcdeedoaaPFnCrashLogsx1
import Derived.Test.YtcdpiejcdeedoaaPFnCrashLogsx4
import Derived.Test.YtcdpiejcdeedoaaPFnCrashLogsx5
import Derived.Test.YtcdpiejcdeedoaaPFnCrashLogsx7
namespace Go.Proofs.Ytcdpiejcdeedoaa.PFnCrashLogs
open Go.RowKit Go.Proofs.YtcdpiejcdeedoaaW.PrintWords Go.Proofs.YtcdpiejcdeedoaaW.PrintLast Go.Proofs.YtcdpiejcdeedoaaW.PrintMore
attribute [local go_sem] max2_int min2_int max_two min_two max_three min_three max_four min_four   -- for this text's walks alone
set_option linter.unusedVariables false
set_option linter.unusedSimpArgs false

/-! ### spec_DrawCrashLog: function 47 -/
def spec_DrawCrashLog.f (k : Nat) (l0 : List Int) : Option (List Int × List Int × Int) := (spec_l1Source.f l0).bind fun bt362 => ((spec_l4Log.f k bt362.1 bt362.2).bind fun bt365 => ((spec_l1Next.f bt362.1 bt365.2.2 (wrap64 ((bt365.2.1.length : Int) + 1))).bind fun bt373 => ((spec_l1Next.f bt362.1 bt373.2 (wrap64 ((bt365.2.1.length : Int) + 1))).bind fun bt375 => ((spec_l1Pick.f bt362.1 bt375.2 (([bt373.1, bt375.1, 0, (bt365.2.1.length : Int), wrap64 ((bt365.2.1.length : Int) + 1), (-1)] : List Int))).bind fun bt380 => (some (bt365.1, bt365.2.1, bt380.1))))))
def spec_DrawCrashLog.T4 : Bool × List (List Nat × List Nat) := (true, [([], []), ([], []), ([], []), ([], []), ([3], [3]), ([2, 4], [2, 4]), ([], []), ([], []), ([7], [7]), ([6, 8, 5], [6, 8]), ([], []), ([], []), ([11], [11]), ([5, 9, 10, 12], [5, 9, 10, 12]), ([1, 13, 9], [1, 13]), ([0, 14, 0], [0]), ([14, 15, 0, 1, 2, 3, 4, 5, 6, 7, 8, 9, 10, 11, 12, 13, 14, 15], [14])])
def spec_DrawCrashLog.B4 : List Nat := [0, 0, 0, 0, 8, 28, 0, 0, 128, 508, 0, 0, 2048, 8188, 16382, 32767, 65535]
theorem spec_DrawCrashLog.tab4 : rtab .any (opsOf Try.f47 4) = spec_DrawCrashLog.T4 := by kernel_rfl
theorem spec_DrawCrashLog.bits4 : waitsOk spec_DrawCrashLog.T4.2 spec_DrawCrashLog.B4 = true := by kernel_rfl
set_option maxHeartbeats 8000000 in
set_option maxRecDepth 100000 in
theorem spec_DrawCrashLog.calls (k : Nat) (A0 : Option Addr) (c0 : Nat) (l0 : List Int) (r1 : List Int) (r2 : List Int) (r3 : Int) (w : World) (hr0 : Kd.C (Kd.int .u8) w A0 l0.length l0) (hc0 : l0.length ≤ c0) (h : spec_DrawCrashLog.f k l0 = some (r1, r2, r3)) :
  Calls Try.prog 47 #[.slice A0 l0.length c0] w fun e w' => ∃ v0_ v1_ : Value, e = .returned (.tuple #[.agg #[v0_, v1_], .int .i64 r3]) ∧ Kd.R (Kd.int .u8) 5 w' w.heap.size (fun k_ => some k_ ≠ (v1_ : Value).ownBlock) v0_ r1 ∧ Kd.R (Kd.int .u8) 5 w' w.heap.size (fun k_ => some k_ ≠ (v0_ : Value).ownBlock) v1_ r2 ∧ Below w.heap.size w w' := by
 have hu27 := Try.underlying27
 have HR0 := Aside0.mk hr0
 have HC0 := Aside0.mk hc0
 clear hr0 hc0
 have HB := Aside0.mk (Below.refl w.heap.size w)
 have H : ((spec_l1Source.f l0).bind fun bt362 => ((spec_l4Log.f k bt362.1 bt362.2).bind fun bt365 => ((spec_l1Next.f bt362.1 bt365.2.2 (wrap64 ((bt365.2.1.length : Int) + 1))).bind fun bt373 => ((spec_l1Next.f bt362.1 bt373.2 (wrap64 ((bt365.2.1.length : Int) + 1))).bind fun bt375 => ((spec_l1Pick.f bt362.1 bt375.2 (([bt373.1, bt375.1, 0, (bt365.2.1.length : Int), wrap64 ((bt365.2.1.length : Int) + 1), (-1)] : List Int))).bind fun bt380 => (some (bt365.1, bt365.2.1, bt380.1))))))) = some (r1, r2, r3) := h
 clear h
 replace H := Option.bind_eq_some_iff.mp H
 obtain ⟨⟨t362, t363⟩, A20, H⟩ := H
 replace H : ((spec_l4Log.f k t362 t363).bind fun bt365 => ((spec_l1Next.f t362 bt365.2.2 (wrap64 ((bt365.2.1.length : Int) + 1))).bind fun bt373 => ((spec_l1Next.f t362 bt373.2 (wrap64 ((bt365.2.1.length : Int) + 1))).bind fun bt375 => ((spec_l1Pick.f t362 bt375.2 (([bt373.1, bt375.1, 0, (bt365.2.1.length : Int), wrap64 ((bt365.2.1.length : Int) + 1), (-1)] : List Int))).bind fun bt380 => (some (bt365.1, bt365.2.1, bt380.1)))))) = some (r1, r2, r3) := H
 have A2 := Aside0.mk A20
 clear A20
 replace H := Option.bind_eq_some_iff.mp H
 obtain ⟨⟨t365, t368, t371⟩, A30, H⟩ := H
 replace H : ((spec_l1Next.f t362 t371 (wrap64 ((t368.length : Int) + 1))).bind fun bt373 => ((spec_l1Next.f t362 bt373.2 (wrap64 ((t368.length : Int) + 1))).bind fun bt375 => ((spec_l1Pick.f t362 bt375.2 (([bt373.1, bt375.1, 0, (t368.length : Int), wrap64 ((t368.length : Int) + 1), (-1)] : List Int))).bind fun bt380 => (some (t365, t368, bt380.1))))) = some (r1, r2, r3) := H
 have A3 := Aside0.mk A30
 clear A30
 replace H := Option.bind_eq_some_iff.mp H
 obtain ⟨⟨t373, t374⟩, A40, H⟩ := H
 replace H : ((spec_l1Next.f t362 t374 (wrap64 ((t368.length : Int) + 1))).bind fun bt375 => ((spec_l1Pick.f t362 bt375.2 (([t373, bt375.1, 0, (t368.length : Int), wrap64 ((t368.length : Int) + 1), (-1)] : List Int))).bind fun bt380 => (some (t365, t368, bt380.1)))) = some (r1, r2, r3) := H
 have A4 := Aside0.mk A40
 clear A40
 replace H := Option.bind_eq_some_iff.mp H
 obtain ⟨⟨t375, t376⟩, A50, H⟩ := H
 replace H : ((spec_l1Pick.f t362 t376 (([t373, t375, 0, (t368.length : Int), wrap64 ((t368.length : Int) + 1), (-1)] : List Int))).bind fun bt380 => (some (t365, t368, bt380.1))) = some (r1, r2, r3) := H
 have A5 := Aside0.mk A50
 clear A50
 obtain ⟨y377, hy377⟩ : ∃ y_ : List Int, y_ = (([t373, t375, 0, (t368.length : Int), wrap64 ((t368.length : Int) + 1), (-1)] : List Int)) := ⟨_, rfl⟩
 replace H : ((spec_l1Pick.f t362 t376 y377).bind fun bt380 => (some (t365, t368, bt380.1))) = some (r1, r2, r3) := q_h hy377 H
 have Ny377 := Aside0.mk hy377
 clear hy377
 replace H := Option.bind_eq_some_iff.mp H
 obtain ⟨⟨t380, t381⟩, A60, H⟩ := H
 replace H : (some (t365, t368, t380)) = some (r1, r2, r3) := H
 have A6 := Aside0.mk A60
 clear A60
 simp only [Option.some.injEq, Prod.mk.injEq] at H
 obtain ⟨rfl, rfl, rfl⟩ := H
 go_enter Try.func47, Try.ntmps47
 try go_wp2_with (first | ((with_reducible refine gate_dst (N := 2) rfl ?_); refine q_box (N := 2) (cs := #[.slice none 0 0, .slice none 0 0]) (t := 27) ?_; intro gb361 hg w7 hbox hb; have n0_ := Aside0.mk (below_step bq hb); have n1_ := Aside0.mk (hbox); have n2_ := Aside0.mk ((q_g hg bq : w.heap.size ≤ gb361)); have n3_ := Aside0.mk ((q_g hg bq : w.heap.size ≤ gb361)); revert n0_ n1_ n2_ n3_; clear HB; intro HB BK361 GW361 GE361; clear hb hbox hg) | ((with_reducible refine gate_callee (f := 58) rfl ?_); refine goesLq (some 8) rfl rfl Try.func58 (by kernel_rfl) rfl #[.slice A0 l0.length c0] rfl ?_; (with_reducible refine (spec_l1Source.calls _ _ l0 t362 t363 w _ ?side1 ?side2 ?side3 A2.out).mono ?_); (case side1 => repeat (first | (with_reducible first | exact HB.out | apply below_alloc | apply pw_below_drewN | apply below_drew1 | refine below_set ?_ GE361.out) | exact HB.out)); (case side2 => exact HR0.out); (case side3 => exact HC0.out); rintro e w8 ⟨g364, rfl, hi, hb, hb2⟩; refine ⟨_, rfl, ?_⟩; have n0_ := Aside0.mk (blk_below (q_b BK361.out) hb2); have n1_ := Aside0.mk (hb); have n2_ := Aside0.mk (hi); have n3_ := Aside0.mk (IsS83.ne_blk hi (blk_below (q_b BK361.out) hb2) (by decide)); have n4_ := Aside0.mk (Ne.symm (IsS83.ne_blk hi (blk_below (q_b BK361.out) hb2) (by decide))); revert n0_ n1_ n2_ n3_ n4_; clear BK361 HB; intro BK361 HB HI364 NB364_361 NB361_364; (try clear hb); (try clear hb2); (try clear hk); (try clear hi)) | ((with_reducible refine gate_callee (f := 74) rfl ?_); refine goesLq (some 10) rfl rfl Try.func74 (by kernel_rfl) rfl #[.pointer (some ⟨g364, 0, none⟩)] rfl ?_; (with_reducible refine (spec_l4Log.calls k g364 t362 t363 t365 t368 t371 w _ ?side1 ?side2 A3.out).mono ?_); (case side1 => repeat (first | (with_reducible first | exact HI364.out | apply IsS83.alloc | apply IsS83.drewN | apply IsS83.drew | apply IsS83.set_1 | refine IsS83.far ?_ NB364_361.out _) | exact HI364.out)); (case side2 => repeat (first | (with_reducible first | exact HB.out | apply below_alloc | apply pw_below_drewN | apply below_drew1 | refine below_set ?_ (IsS83.ge HI364.out) | refine below_set ?_ GE361.out) | exact HB.out)); rintro e w9 ⟨v366, v369, rfl, ho0, ho1, hi, hb, hk⟩; refine ⟨_, rfl, ?_⟩; have n0_ := Aside0.mk (KeepBut.blk hk (g' := gb361) (o := .cells #[.slice none 0 0, .slice none 0 0] 27 (0, 0)) kq NB361_364.out (by simp)); have n1_ := Aside0.mk (Kd.R_lower ho0 (below_size q_B83_364)); have n2_ := Aside0.mk (Kd.R_lower ho1 (below_size q_B83_364)); have n3_ := Aside0.mk (hb); have n4_ := Aside0.mk (hi); revert n0_ n1_ n2_ n3_ n4_; clear BK361 HB HI364; intro BK361 HO367 HO370 HB HI364; (try clear hb); (try clear hb2); (try clear hk); (try clear hi); (try clear ho0); (try clear ho1)) | ((with_reducible refine gate_dst (N := 5) rfl ?_); refine q_box (N := 5) (cs := #[.slice none 0 0, .slice none 0 0]) (t := 27) ?_; intro gb372 hg w10 hbox hb; have n0_ := Aside0.mk (Kd.R_below (q_r (HO367.out)) hb); have n1_ := Aside0.mk (Kd.R_below (q_r (HO370.out)) hb); have n2_ := Aside0.mk (blk_below (q_b BK361.out) hb); have n3_ := Aside0.mk (IsS83.below q_I83_364_1 hb); have n4_ := Aside0.mk (below_step q_B83_364 hb); have n5_ := Aside0.mk (hbox); have n6_ := Aside0.mk ((by rw [hg]; exact (below_size q_B83_364) : w.heap.size ≤ gb372)); have n7_ := Aside0.mk ((by rw [hg]; exact (below_size q_B83_364) : w.heap.size ≤ gb372)); have n8_ := Aside0.mk ((q_n hg (q_b BK361.out) : gb361 ≠ gb372)); have n9_ := Aside0.mk ((q_m hg (q_b BK361.out) : gb372 ≠ gb361)); have n10_ := Aside0.mk ((by rw [hg]; exact Nat.ne_of_lt (IsS83.lt (show IsS83 w _ g364 t362 t371 from q_I83_364_1)) : g364 ≠ gb372)); have n11_ := Aside0.mk ((by rw [hg]; exact Nat.ne_of_gt (IsS83.lt (show IsS83 w _ g364 t362 t371 from q_I83_364_1)) : gb372 ≠ g364)); revert n0_ n1_ n2_ n3_ n4_ n5_ n6_ n7_ n8_ n9_ n10_ n11_; clear HO367 HO370 BK361 HI364 HB; intro HO367 HO370 BK361 HI364 HB BK372 GW372 GE372 NB361_372 NB372_361 NB364_372 NB372_364; clear hb hbox hg; obtain ⟨Ao11, co11, eo11⟩ := Kd.R_slice HO367.out; subst eo11; have hnb12 := NB372_361.out; have hnc12 := NB361_372.out; have hnb13 := NB372_364.out; have hnc13 := NB364_372.out; obtain ⟨hcz14_0, hcz14_1, hfz14_0, hfz14_1⟩ := q_2 BK372.out; obtain ⟨Ao15, co15, eo15⟩ := Kd.R_slice HO370.out; subst eo15))
 have n0_ : Aside0 (Kd.R (Kd.int .u8) 5 ((w10.setCell ⟨gb372, 0, none⟩ (.slice Ao11 t365.length co11)).setCell ⟨gb372, 1, none⟩ (.slice Ao15 t368.length co15)) w.heap.size (fun k_ => some k_ ≠ (.slice Ao15 t368.length co15 : Value).ownBlock) (.slice Ao11 t365.length co11) t365) := ⟨by (with_reducible repeat (first | apply Kd.R_alloc | apply Kd.R_drewN | apply Kd.R_drew)); exact Kd.R_mono (Kd.R_far (p := ⟨gb372, 1, none⟩) (Kd.R_far (p := ⟨gb372, 0, none⟩) (Kd.R_types HO367.out BK372.out (by decide)) (fun _ hk => hk.2) (.slice Ao11 t365.length co11)) (fun _ hk => hk.2) (.slice Ao15 t368.length co15)) (fun _ hk => hk.1)⟩
 have n1_ : Aside0 (Kd.R (Kd.int .u8) 5 ((w10.setCell ⟨gb372, 0, none⟩ (.slice Ao11 t365.length co11)).setCell ⟨gb372, 1, none⟩ (.slice Ao15 t368.length co15)) w.heap.size (fun k_ => some k_ ≠ (.slice Ao11 t365.length co11 : Value).ownBlock) (.slice Ao15 t368.length co15) t368) := ⟨by (with_reducible repeat (first | apply Kd.R_alloc | apply Kd.R_drewN | apply Kd.R_drew)); exact Kd.R_mono (Kd.R_far (p := ⟨gb372, 1, none⟩) (Kd.R_far (p := ⟨gb372, 0, none⟩) (Kd.R_types HO370.out BK372.out (by decide)) (fun _ hk => hk.2) (.slice Ao11 t365.length co11)) (fun _ hk => hk.2) (.slice Ao15 t368.length co15)) (fun _ hk => hk.1)⟩
 have n2_ : Aside0 (((w10.setCell ⟨gb372, 0, none⟩ (.slice Ao11 t365.length co11)).setCell ⟨gb372, 1, none⟩ (.slice Ao15 t368.length co15)).heap[gb361]? = some (.cells #[.slice none 0 0, .slice none 0 0] 27 (0, 0))) := ⟨by (with_reducible repeat (first | refine blk_drewN ?_ _ | refine blk_drew ?_ | refine blk_alloc ?_ _)); refine blk_far ?_ NB361_372.out _; (with_reducible repeat (first | refine blk_drewN ?_ _ | refine blk_drew ?_ | refine blk_alloc ?_ _)); refine blk_far ?_ NB361_372.out _; (with_reducible repeat (first | refine blk_drewN ?_ _ | refine blk_drew ?_ | refine blk_alloc ?_ _)); exact BK361.out⟩
 have n3_ : Aside0 (((w10.setCell ⟨gb372, 0, none⟩ (.slice Ao11 t365.length co11)).setCell ⟨gb372, 1, none⟩ (.slice Ao15 t368.length co15)).heap[gb372]? = some (.cells #[.slice Ao11 t365.length co11, .slice Ao15 t368.length co15] 27 (0, 0))) := ⟨by (with_reducible repeat (first | refine blk_drewN ?_ _ | refine blk_drew ?_ | refine blk_alloc ?_ _)); refine blk_put (cs := #[.slice Ao11 t365.length co11, .slice none 0 0]) ?_ 1 _ rfl; (with_reducible repeat (first | refine blk_drewN ?_ _ | refine blk_drew ?_ | refine blk_alloc ?_ _)); refine blk_put (cs := #[.slice none 0 0, .slice none 0 0]) ?_ 0 _ rfl; (with_reducible repeat (first | refine blk_drewN ?_ _ | refine blk_drew ?_ | refine blk_alloc ?_ _)); exact BK372.out⟩
 have n4_ : Aside0 (IsS83 w ((w10.setCell ⟨gb372, 0, none⟩ (.slice Ao11 t365.length co11)).setCell ⟨gb372, 1, none⟩ (.slice Ao15 t368.length co15)) g364 t362 t371) := ⟨q_I83_364_1⟩
 have n5_ : Aside0 (Below w.heap.size w ((w10.setCell ⟨gb372, 0, none⟩ (.slice Ao11 t365.length co11)).setCell ⟨gb372, 1, none⟩ (.slice Ao15 t368.length co15))) := ⟨q_B83_364⟩
 (try clear HO367)
 (try clear HO370)
 (try clear BK361)
 (try clear BK372)
 (try clear HI364)
 (try clear HB)
 generalize ((w10.setCell ⟨gb372, 0, none⟩ (.slice Ao11 t365.length co11)).setCell ⟨gb372, 1, none⟩ (.slice Ao15 t368.length co15)) = w16 at n0_ n1_ n2_ n3_ n4_ n5_ ⊢
 have HO367 := n0_
 have HO370 := n1_
 have BK361 := n2_
 have BK372 := n3_
 have HI364 := n4_
 have HB := n5_
 clear n0_ n1_ n2_ n3_ n4_ n5_
 have n0_ := Aside0.mk (Kd.R_drew HO367.out)
 have n1_ := Aside0.mk (Kd.R_drew HO370.out)
 have n2_ := Aside0.mk (blk_drew BK361.out)
 have n3_ := Aside0.mk (blk_drew BK372.out)
 have n4_ := Aside0.mk (IsS83.drew HI364.out)
 have n5_ := Aside0.mk (below_drew1 HB.out)
 clear HO367
 clear HO370
 clear BK361
 clear BK372
 clear HI364
 clear HB
 have HO367 := n0_
 have HO370 := n1_
 have BK361 := n2_
 have BK372 := n3_
 have HI364 := n4_
 have HB := n5_
 clear n0_ n1_ n2_ n3_ n4_ n5_
 refine start_ (n := 17) (S := fun w' => w'.cell? ⟨gb372, 0, none⟩ = some (.slice Ao11 t365.length co11) ∧ w'.cell? ⟨gb372, 1, none⟩ = some (.slice Ao15 t368.length co15)) (ds := []) #[false, false, false, false, false, false, false, false, false, false, false, false, false, false, false, false, false] (by kernel_rfl) rfl rfl ⟨q_z BK372.out 0, q_z BK372.out 1⟩ (fun hHeld => ?_); refine with_tabW spec_DrawCrashLog.tab4 spec_DrawCrashLog.bits4 (fun HT_ HW_ => ?_)
 generalize w16.drew = w17 at HO367 HO370 BK361 BK372 HI364 HB hHeld ⊢
 refine q_p 1 (some 15) #[false, true, false, false, false, false, false, false, false, false, false, false, false, false, false, false, false] HT_.out ?_
 refine q_p 2 (some 16) #[false, true, true, false, false, false, false, false, false, false, false, false, false, false, false, false, false] HT_.out ?_
 refine q_p 3 (some 17) #[false, true, true, true, false, false, false, false, false, false, false, false, false, false, false, false, false] HT_.out ?_
 refine q_p 4 (some 18) #[false, true, true, true, true, false, false, false, false, false, false, false, false, false, false, false, false] HT_.out ?_
 refine q_p 6 (some 20) #[false, true, true, true, true, false, true, false, false, false, false, false, false, false, false, false, false] HT_.out ?_
 refine q_p 7 (some 21) #[false, true, true, true, true, false, true, true, false, false, false, false, false, false, false, false, false] HT_.out ?_
 refine q_p 8 (some 22) #[false, true, true, true, true, false, true, true, true, false, false, false, false, false, false, false, false] HT_.out ?_
 refine q_p 10 (some 24) #[false, true, true, true, true, false, true, true, true, false, true, false, false, false, false, false, false] HT_.out ?_
 refine q_p 11 (some 25) #[false, true, true, true, true, false, true, true, true, false, true, true, false, false, false, false, false] HT_.out ?_
 refine q_p 12 (some 26) #[false, true, true, true, true, false, true, true, true, false, true, true, true, false, false, false, false] HT_.out ?_
 refine q_t 0 (some 14) #[true, true, true, true, true, false, true, true, true, false, true, true, true, false, false, false, false] HT_.out HW_.out hHeld ?_
 refine one_ (i := 5) (N := some 19) #[true, true, true, true, true, true, true, true, true, false, true, true, true, false, false, false, false] rfl rfl (one_of HT_.out (by kernel_rfl)) (by decide) (fun K hK => ?_)
 refine goes_ Try.func76 (by kernel_rfl) rfl #[.pointer (some ⟨g364, 0, none⟩), .int .i64 (wrap64 ((t368.length : Int) + 1))] (by rfl) rfl rfl (by (try simp only [List.map_toArray, List.map_cons, List.map_nil]); first | done | rfl | (simp only [List.length_drop, List.length_take]; rfl)) ?_
 with_reducible refine (spec_l1Next.calls g364 t362 t371 (wrap64 ((t368.length : Int) + 1)) t373 t374 w _ ?side1 ?side2 A4.out).mono ?_
 (case side1 => repeat (first | (with_reducible first | exact HI364.out | apply IsS83.alloc | apply IsS83.drewN | apply IsS83.drew | apply IsS83.set_1 | refine IsS83.far ?_ NB364_361.out _ | refine IsS83.far ?_ NB364_372.out _) | exact HI364.out))
 (case side2 => repeat (first | (with_reducible first | exact HB.out | apply below_alloc | apply pw_below_drewN | apply below_drew1 | refine below_set ?_ (IsS83.ge HI364.out) | refine below_set ?_ GE361.out | refine below_set ?_ GE372.out) | exact HB.out))
 rintro e w18 ⟨rfl, hi, hb, hk⟩
 refine ⟨_, rfl, ?_⟩
 have n0_ := Aside0.mk (KeepBut.blk hk (g' := gb361) (o := .cells #[.slice none 0 0, .slice none 0 0] 27 (0, 0)) kq NB361_364.out (by simp))
 have n1_ := Aside0.mk (Kd.R_mono (Kd.R_keep (IsS83.apart (show IsS83 w _ g364 t362 t371 from q_I83_364_1) (q_r (HO367.out)) (by decide)) hk (fun _ h => h.2)) (fun _ h => h.1))
 have n2_ := Aside0.mk (Kd.R_mono (Kd.R_keep (IsS83.apart (show IsS83 w _ g364 t362 t371 from q_I83_364_1) (q_r (HO370.out)) (by decide)) hk (fun _ h => h.2)) (fun _ h => h.1))
 have n3_ := Aside0.mk (KeepBut.blk hk (g' := gb372) (o := .cells #[.slice Ao11 t365.length co11, .slice Ao15 t368.length co15] 27 (0, 0)) kq NB372_364.out (by simp))
 have n4_ := Aside0.mk (hb)
 have n5_ := Aside0.mk (hi)
 clear BK361
 clear HO367
 clear HO370
 clear BK372
 clear HB
 clear HI364
 have BK361 := n0_
 have HO367 := n1_
 have HO370 := n2_
 have BK372 := n3_
 have HB := n4_
 have HI364 := n5_
 clear n0_ n1_ n2_ n3_ n4_ n5_
 (try clear hb)
 (try clear hb2)
 (try clear hk)
 (try clear hi)
 refine hK.out _ _ ⟨q_z BK372.out 0, q_z BK372.out 1⟩ (fun hHeld => ?_)
 clear hK K
 refine norm_ (a' := ?_) ?_ ?_
 rotate_left
 ·show Act.put _ (some 19) _ = _
  simp only [Act.put, List.setIfInBounds_toArray, List.set_cons_zero, List.set_cons_succ, i64_w, i32_w]
  rfl
 refine one_ (i := 9) (N := some 23) #[true, true, true, true, true, true, true, true, true, true, true, true, true, false, false, false, false] rfl rfl (one_of HT_.out (by kernel_rfl)) (by decide) (fun K hK => ?_)
 refine goes_ Try.func76 (by kernel_rfl) rfl #[.pointer (some ⟨g364, 0, none⟩), .int .i64 (wrap64 ((t368.length : Int) + 1))] (by rfl) rfl rfl (by (try simp only [List.map_toArray, List.map_cons, List.map_nil]); first | done | rfl | (simp only [List.length_drop, List.length_take]; rfl)) ?_
 with_reducible refine (spec_l1Next.calls g364 t362 t374 (wrap64 ((t368.length : Int) + 1)) t375 t376 w _ ?side1 ?side2 A5.out).mono ?_
 (case side1 => repeat (first | (with_reducible first | exact HI364.out | apply IsS83.alloc | apply IsS83.drewN | apply IsS83.drew | apply IsS83.set_1 | refine IsS83.far ?_ NB364_361.out _ | refine IsS83.far ?_ NB364_372.out _) | exact HI364.out))
 (case side2 => repeat (first | (with_reducible first | exact HB.out | apply below_alloc | apply pw_below_drewN | apply below_drew1 | refine below_set ?_ (IsS83.ge HI364.out) | refine below_set ?_ GE361.out | refine below_set ?_ GE372.out) | exact HB.out))
 rintro e w19 ⟨rfl, hi, hb, hk⟩
 refine ⟨_, rfl, ?_⟩
 have n0_ := Aside0.mk (KeepBut.blk hk (g' := gb361) (o := .cells #[.slice none 0 0, .slice none 0 0] 27 (0, 0)) kq NB361_364.out (by simp))
 have n1_ := Aside0.mk (Kd.R_mono (Kd.R_keep (IsS83.apart (show IsS83 w _ g364 t362 t374 from q_I83_364_1) (q_r (HO367.out)) (by decide)) hk (fun _ h => h.2)) (fun _ h => h.1))
 have n2_ := Aside0.mk (Kd.R_mono (Kd.R_keep (IsS83.apart (show IsS83 w _ g364 t362 t374 from q_I83_364_1) (q_r (HO370.out)) (by decide)) hk (fun _ h => h.2)) (fun _ h => h.1))
 have n3_ := Aside0.mk (KeepBut.blk hk (g' := gb372) (o := .cells #[.slice Ao11 t365.length co11, .slice Ao15 t368.length co15] 27 (0, 0)) kq NB372_364.out (by simp))
 have n4_ := Aside0.mk (hb)
 have n5_ := Aside0.mk (hi)
 clear BK361
 clear HO367
 clear HO370
 clear BK372
 clear HB
 clear HI364
 have BK361 := n0_
 have HO367 := n1_
 have HO370 := n2_
 have BK372 := n3_
 have HB := n4_
 have HI364 := n5_
 clear n0_ n1_ n2_ n3_ n4_ n5_
 (try clear hb)
 (try clear hb2)
 (try clear hk)
 (try clear hi)
 refine hK.out _ _ ⟨q_z BK372.out 0, q_z BK372.out 1⟩ (fun hHeld => ?_)
 clear hK K
 refine norm_ (a' := ?_) ?_ ?_
 rotate_left
 ·show Act.put _ (some 23) _ = _
  simp only [Act.put, List.setIfInBounds_toArray, List.set_cons_zero, List.set_cons_succ, i64_w, i32_w]
  rfl
 refine one_ (i := 13) (N := some 27) #[true, true, true, true, true, true, true, true, true, true, true, true, true, true, false, false, false] rfl rfl (one_of HT_.out (by kernel_rfl)) (by decide) (fun K hK => ?_)
 refine Kd.R_lit_step (Kd.int .i64) _ 2 ?hg (N := 27) ?hd (xs := ([t373, t375, 0, (t368.length : Int), wrap64 ((t368.length : Int) + 1), (-1)] : List Int)) (inner := [.int .i64 t373, .int .i64 t375, .int .i64 0, .int .i64 (t368.length : Int), .int .i64 (wrap64 ((t368.length : Int) + 1)), .int .i64 (-1)]) (ok := fun _ => True) (okp := fun _ => True) ?hr ?hp (fun _ hk => hk) trivial (Below.refl _ _) (Nat.le_refl _) (by simp) ?_; (case hd => rfl); (case hg => rfl); (case hr => first | (go_simp; done) | (go_simp; rfl)); (case hp => exact (Reps.one (show Kd.M (Kd.int .i64) _ _ _ t373 [.int .i64 t373] from rfl) (Reps.one (show Kd.M (Kd.int .i64) _ _ _ t375 [.int .i64 t375] from rfl) (Reps.one (show Kd.M (Kd.int .i64) _ _ _ 0 [.int .i64 0] from rfl) (Reps.one (show Kd.M (Kd.int .i64) _ _ _ (t368.length : Int) [.int .i64 (t368.length : Int)] from rfl) (Reps.one (show Kd.M (Kd.int .i64) _ _ _ (wrap64 ((t368.length : Int) + 1)) [.int .i64 (wrap64 ((t368.length : Int) + 1))] from rfl) (Reps.one (show Kd.M (Kd.int .i64) _ _ _ (-1) [.int .i64 (-1)] from rfl) (Reps.none _ _))))))))
 intro v378 w20 ho21 hb hg_ hnew_
 clear hg_ hnew_
 (first | rw [← Ny377.out] at ho21 | (simp only [Int.reduceToNat] at ho21; rw [← Ny377.out] at ho21))
 have n0_ := Aside0.mk (Kd.R_below (q_r (HO367.out)) hb)
 have n1_ := Aside0.mk (Kd.R_below (q_r (HO370.out)) hb)
 have n2_ := Aside0.mk (Kd.R_lower ho21 (below_size q_B83_364))
 have n3_ := Aside0.mk (blk_below (q_b BK361.out) hb)
 have n4_ := Aside0.mk (IsS83.below q_I83_364_1 hb)
 have n5_ := Aside0.mk (blk_below (q_b BK372.out) hb)
 have n6_ := Aside0.mk (below_step q_B83_364 hb)
 clear HO367
 clear HO370
 clear BK361
 clear HI364
 clear BK372
 clear HB
 have HO367 := n0_
 have HO370 := n1_
 have HO379 := n2_
 have BK361 := n3_
 have HI364 := n4_
 have BK372 := n5_
 have HB := n6_
 clear n0_ n1_ n2_ n3_ n4_ n5_ n6_
 clear hb ho21
 obtain ⟨Ao22, co22, eo22⟩ := Kd.R_slice HO379.out
 (first | subst eo22 | (injection eo22 with f1_ f2_ f3_; have f4_ := f1_.symm; have f5_ := f3_.symm; clear f1_ f2_ f3_; subst f4_; subst f5_))
 refine hK.out _ _ ⟨q_z BK372.out 0, q_z BK372.out 1⟩ (fun hHeld => ?_)
 clear hK K
 refine norm_ (a' := ?_) ?_ ?_
 rotate_left
 ·show Act.put _ (some 27) _ = _
  simp only [Act.put, List.setIfInBounds_toArray, List.set_cons_zero, List.set_cons_succ, i64_w, i32_w]
  rfl
 refine one_ (i := 14) (N := some 28) #[true, true, true, true, true, true, true, true, true, true, true, true, true, true, true, false, false] rfl rfl (one_of HT_.out (by kernel_rfl)) (by decide) (fun K hK => ?_)
 refine goes_ Try.func75 (by kernel_rfl) rfl #[.pointer (some ⟨g364, 0, none⟩), .slice Ao22 y377.length co22] (by rfl) rfl rfl (by (try simp only [List.map_toArray, List.map_cons, List.map_nil]); first | done | rfl | (simp only [List.length_drop, List.length_take]; rfl)) ?_
 with_reducible refine (spec_l1Pick.calls g364 t362 t376 _ _ y377 t380 t381 w _ ?side1 ?side2 ?side3 ?side4 ?side5 A6.out).mono ?_
 (case side1 => repeat (first | (with_reducible first | exact HI364.out | apply IsS83.alloc | apply IsS83.drewN | apply IsS83.drew | apply IsS83.set_1 | refine IsS83.far ?_ NB364_361.out _ | refine IsS83.far ?_ NB364_372.out _) | exact HI364.out))
 (case side2 => repeat (first | (with_reducible first | exact HB.out | apply below_alloc | apply pw_below_drewN | apply below_drew1 | refine below_set ?_ (IsS83.ge HI364.out) | refine below_set ?_ GE361.out | refine below_set ?_ GE372.out) | exact HB.out))
 (case side3 => exact q_c ((Kd.R_reads' HO379.out).2.2))
 (case side4 => exact (Kd.R_reads' HO379.out).2.1)
 (case side5 => exact far_slice (IsS83.own_ne HI364.out HO379.out (by decide)))
 rintro e w23 ⟨rfl, hi, hb, hk⟩
 refine ⟨_, rfl, ?_⟩
 have n0_ := Aside0.mk (KeepBut.blk hk (g' := gb361) (o := .cells #[.slice none 0 0, .slice none 0 0] 27 (0, 0)) kq NB361_364.out (by simp))
 have n1_ := Aside0.mk (Kd.R_mono (Kd.R_keep (IsS83.apart (show IsS83 w _ g364 t362 t376 from q_I83_364_1) (q_r (HO367.out)) (by decide)) hk (fun _ h => h.2)) (fun _ h => h.1))
 have n2_ := Aside0.mk (Kd.R_mono (Kd.R_keep (IsS83.apart (show IsS83 w _ g364 t362 t376 from q_I83_364_1) (q_r (HO370.out)) (by decide)) hk (fun _ h => h.2)) (fun _ h => h.1))
 have n3_ := Aside0.mk (KeepBut.blk hk (g' := gb372) (o := .cells #[.slice Ao11 t365.length co11, .slice Ao15 t368.length co15] 27 (0, 0)) kq NB372_364.out (by simp))
 have n4_ := Aside0.mk (Kd.R_mono (Kd.R_keep (IsS83.apart (show IsS83 w _ g364 t362 t376 from q_I83_364_1) (q_r (HO379.out)) (by decide)) hk (fun _ h => h.2)) (fun _ h => h.1))
 have n5_ := Aside0.mk (hb)
 have n6_ := Aside0.mk (hi)
 clear BK361
 clear HO367
 clear HO370
 clear BK372
 clear HO379
 clear HB
 clear HI364
 have BK361 := n0_
 have HO367 := n1_
 have HO370 := n2_
 have BK372 := n3_
 have HO379 := n4_
 have HB := n5_
 have HI364 := n6_
 clear n0_ n1_ n2_ n3_ n4_ n5_ n6_
 (try clear hb)
 (try clear hb2)
 (try clear hk)
 (try clear hi)
 refine hK.out _ _ ⟨q_z BK372.out 0, q_z BK372.out 1⟩ (fun hHeld => ?_)
 clear hK K
 refine norm_ (a' := ?_) ?_ ?_
 rotate_left
 ·show Act.put _ (some 28) _ = _
  simp only [Act.put, List.setIfInBounds_toArray, List.set_cons_zero, List.set_cons_succ, i64_w, i32_w]
  rfl
 refine one_ (i := 15) (N := none) #[true, true, true, true, true, true, true, true, true, true, true, true, true, true, true, true, false] rfl rfl (one_of HT_.out (by kernel_rfl)) (by decide) (fun K hK => ?_)
 have hs24 : w23.cell? ⟨gb361, 0, none⟩ = some (.slice none 0 0) := (blk_cell BK361.out 0).trans rfl
 have hfs24 := blk_frozen BK361.out 0
 have hns24_1 := NB372_361.out
 have hms24_1 := NB361_372.out
 have hs25 : w23.cell? ⟨gb361, 1, none⟩ = some (.slice none 0 0) := (blk_cell BK361.out 1).trans rfl
 have hfs25 := blk_frozen BK361.out 1
 have hns25_1 := NB372_361.out
 have hms25_1 := NB361_372.out
 refine skip_ (w1 := ?_) (by rfl) rfl ?_ ?_
 rotate_left
 ·go_simp
  rfl
 refine hK.out _ _ ⟨((cell_far (p := ⟨gb361, _, none⟩) NB372_361.out _).trans (((cell_far (p := ⟨gb361, _, none⟩) NB372_361.out _).trans (hHeld.1)))), ((cell_far (p := ⟨gb361, _, none⟩) NB372_361.out _).trans (((cell_far (p := ⟨gb361, _, none⟩) NB372_361.out _).trans (hHeld.2))))⟩ (fun hHeld => ?_)
 clear hK K
 refine q_p 16 (some 3) #[true, true, true, true, true, true, true, true, true, true, true, true, true, true, true, true, true] HT_.out ?_
 refine done_ (done_of HT_.out (by kernel_rfl)) ?_
 try go_wp2
 refine bodyPost_ret (results_ct rfl _ _ gb361 27 #[.slice Ao11 t365.length co11, .slice Ao15 t368.length co15] (0, 0) _ rfl (by (with_reducible repeat (first | refine blk_drewN ?_ _ | refine blk_drew ?_ | refine blk_alloc ?_ _)); refine blk_put (cs := #[.slice Ao11 t365.length co11, .slice none 0 0]) ?_ 1 _ rfl; (with_reducible repeat (first | refine blk_drewN ?_ _ | refine blk_drew ?_ | refine blk_alloc ?_ _)); refine blk_put (cs := #[.slice none 0 0, .slice none 0 0]) ?_ 0 _ rfl; (with_reducible repeat (first | refine blk_drewN ?_ _ | refine blk_drew ?_ | refine blk_alloc ?_ _)); exact BK361.out) Try.underlying27 rfl (by kernel_rfl)) rfl ?_
 exact ⟨_, _, q_e, by (with_reducible repeat (first | apply Kd.R_alloc | apply Kd.R_drewN | apply Kd.R_drew)); exact Kd.R_mono (Kd.R_far (p := ⟨gb361, 1, none⟩) (Kd.R_far (p := ⟨gb361, 0, none⟩) (Kd.R_types HO367.out BK361.out (by decide)) (fun _ hk => hk.2) (.slice Ao11 t365.length co11)) (fun _ hk => hk.2) (.slice Ao15 t368.length co15)) (fun _ hk => hk.1), by (with_reducible repeat (first | apply Kd.R_alloc | apply Kd.R_drewN | apply Kd.R_drew)); exact Kd.R_mono (Kd.R_far (p := ⟨gb361, 1, none⟩) (Kd.R_far (p := ⟨gb361, 0, none⟩) (Kd.R_types HO370.out BK361.out (by decide)) (fun _ hk => hk.2) (.slice Ao11 t365.length co11)) (fun _ hk => hk.2) (.slice Ao15 t368.length co15)) (fun _ hk => hk.1), q_B83_364⟩

/-! ### impl_ReadLog: function 48 -/
def impl_ReadLog.f (k : Nat) (l0_0 : List Int) (l0_1 : List Int) : Option (Int × Int × (List (List Int))) := (impl_LogFault.f l0_0 l0_1).bind fun t384 => (if t384 = 0 then ((slices_Concat_byte.f k (([l0_0, l0_1] : List (List Int)))).bind fun t388 => ((impl_UnframeAll.f k t388).bind fun bt391 => (some (bt391.1, bt391.2.1, bt391.2.2)))) else (some (t384, 0, ([] : List (List Int)))))
set_option maxHeartbeats 8000000 in
set_option maxRecDepth 100000 in
theorem impl_ReadLog.calls (k : Nat) (P0_0_ : Nat → Prop) (A0_0 : Option Addr) (c0_0 : Nat) (l0_0 : List Int) (P0_1_ : Nat → Prop) (A0_1 : Option Addr) (c0_1 : Nat) (l0_1 : List Int) (r1 : Int) (r2 : Int) (r3 : List (List Int)) (w : World) (hs0_0 : Kd.V (Kd.int .u8) 5 w w.heap.size (fun k_ => P0_0_ k_) (.slice A0_0 l0_0.length c0_0) l0_0) (hs0_1 : Kd.V (Kd.int .u8) 5 w w.heap.size (fun k_ => P0_1_ k_) (.slice A0_1 l0_1.length c0_1) l0_1) (h : impl_ReadLog.f k l0_0 l0_1 = some (r1, r2, r3)) :
  Calls Try.prog 48 #[.agg #[.slice A0_0 l0_0.length c0_0, .slice A0_1 l0_1.length c0_1]] w fun e w' => ∃ v2_ : Value, e = .returned (.agg #[.int .i64 r1, .int .i64 r2, v2_]) ∧ Kd.N (Kd.slice 5 (Kd.int .u8)) 22 w' w.heap.size (fun k_ => ((P0_0_ k_ ∨ P0_1_ k_) ∨ w.heap.size ≤ k_)) v2_ r3 ∧ Below w.heap.size w w' := by
 have hu27 := Try.underlying27
 have hu43 := Try.underlying43
 have HO0_0 := Aside0.mk (show Kd.V (Kd.int .u8) 5 w w.heap.size (fun k_ => ((P0_0_ k_ ∨ P0_1_ k_) ∨ w.heap.size ≤ k_)) (.slice A0_0 l0_0.length c0_0) l0_0 from Kd.V_mono hs0_0 (fun k_ hk => .inl (.inl hk)))
 have HO0_1 := Aside0.mk (show Kd.V (Kd.int .u8) 5 w w.heap.size (fun k_ => ((P0_0_ k_ ∨ P0_1_ k_) ∨ w.heap.size ≤ k_)) (.slice A0_1 l0_1.length c0_1) l0_1 from Kd.V_mono hs0_1 (fun k_ hk => .inl (.inr hk)))
 have HB := Aside0.mk (Below.refl w.heap.size w)
 have H : ((impl_LogFault.f l0_0 l0_1).bind fun t384 => (if t384 = 0 then ((slices_Concat_byte.f k (([l0_0, l0_1] : List (List Int)))).bind fun t388 => ((impl_UnframeAll.f k t388).bind fun bt391 => (some (bt391.1, bt391.2.1, bt391.2.2)))) else (some (t384, 0, ([] : List (List Int)))))) = some (r1, r2, r3) := h
 clear h
 replace H := Option.bind_eq_some_iff.mp H
 obtain ⟨t384, A20, H⟩ := H
 replace H : (if t384 = 0 then ((slices_Concat_byte.f k (([l0_0, l0_1] : List (List Int)))).bind fun t388 => ((impl_UnframeAll.f k t388).bind fun bt391 => (some (bt391.1, bt391.2.1, bt391.2.2)))) else (some (t384, 0, ([] : List (List Int))))) = some (r1, r2, r3) := H
 have A2 := Aside0.mk A20
 clear A20
 by_cases c3 : t384 = 0
 ·rw [if_pos c3] at H
  have c3b0 : (t384 == 0) = true := beq_iff_eq.mpr c3
  have c3b1 : (t384 != 0) = false := bne_eq_false_iff_eq.mpr c3
  clear c3
  obtain ⟨y385, hy385⟩ : ∃ y_ : List (List Int), y_ = (([l0_0, l0_1] : List (List Int))) := ⟨_, rfl⟩
  replace H : ((slices_Concat_byte.f k y385).bind fun t388 => ((impl_UnframeAll.f k t388).bind fun bt391 => (some (bt391.1, bt391.2.1, bt391.2.2)))) = some (r1, r2, r3) := q_h hy385 H
  have Ny385 := Aside0.mk hy385
  clear hy385
  replace H := Option.bind_eq_some_iff.mp H
  obtain ⟨t388, A40, H⟩ := H
  replace H : ((impl_UnframeAll.f k t388).bind fun bt391 => (some (bt391.1, bt391.2.1, bt391.2.2))) = some (r1, r2, r3) := H
  have A4 := Aside0.mk A40
  clear A40
  replace H := Option.bind_eq_some_iff.mp H
  obtain ⟨⟨t391, t392, t393⟩, A50, H⟩ := H
  replace H : (some (t391, t392, t393)) = some (r1, r2, r3) := H
  have A5 := Aside0.mk A50
  clear A50
  simp only [Option.some.injEq, Prod.mk.injEq] at H
  obtain ⟨rfl, rfl, rfl⟩ := H
  go_enter Try.func48, Try.ntmps48
  go_wp2_with (first | ((with_reducible refine gate_dst (N := 1) rfl ?_); refine q_box (N := 1) (cs := #[.slice A0_0 l0_0.length c0_0, .slice A0_1 l0_1.length c0_1]) (t := 27) ?_; intro gb382 hg w6 hbox hb; have n0_ := Aside0.mk (Kd.V_below (Kd.V_elderB (q_v (HO0_0.out)) gb382 (Nat.le_of_eq hg.symm)) hb); have n1_ := Aside0.mk (Kd.V_below (Kd.V_elderB (q_v (HO0_1.out)) gb382 (Nat.le_of_eq hg.symm)) hb); have n2_ := Aside0.mk (below_step bq hb); have n3_ := Aside0.mk (hbox); have n4_ := Aside0.mk ((q_g hg bq : w.heap.size ≤ gb382)); have n5_ := Aside0.mk ((q_g hg bq : w.heap.size ≤ gb382)); revert n0_ n1_ n2_ n3_ n4_ n5_; clear HO0_0 HO0_1 HB; intro HO0_0 HO0_1 HB BK382 GW382 GE382; clear hb hbox hg) | ((with_reducible refine gate_dst (N := 2) rfl ?_); refine q_box (N := 2) (cs := #[.int .i64 0, .int .i64 0, .slice none 0 0]) (t := 43) ?_; intro gb383 hg w7 hbox hb; have n0_ := Aside0.mk (Kd.V_below (Kd.V_elderB (q_v (HO0_0.out)) gb383 (Nat.le_of_eq hg.symm)) hb); have n1_ := Aside0.mk (Kd.V_below (Kd.V_elderB (q_v (HO0_1.out)) gb383 (Nat.le_of_eq hg.symm)) hb); have n2_ := Aside0.mk (blk_below (q_b BK382.out) hb); have n3_ := Aside0.mk (below_step bq hb); have n4_ := Aside0.mk (hbox); have n5_ := Aside0.mk ((q_g hg bq : w.heap.size ≤ gb383)); have n6_ := Aside0.mk ((q_g hg bq : w.heap.size ≤ gb383)); have n7_ := Aside0.mk ((q_n hg (q_b BK382.out) : gb382 ≠ gb383)); have n8_ := Aside0.mk ((q_m hg (q_b BK382.out) : gb383 ≠ gb382)); revert n0_ n1_ n2_ n3_ n4_ n5_ n6_ n7_ n8_; clear HO0_0 HO0_1 BK382 HB; intro HO0_0 HO0_1 BK382 HB BK383 GW383 GE383 NB382_383 NB383_382; clear hb hbox hg; have hnb8 := NB382_383.out; have hnc8 := NB383_382.out; obtain ⟨hcz9_0, hcz9_1, hfz9_0, hfz9_1⟩ := q_2 BK382.out) | ((with_reducible refine gate_callee (f := 17) rfl ?_); refine goesLq (some 5) rfl rfl Try.func17 (by kernel_rfl) rfl #[.agg #[.slice A0_0 l0_0.length c0_0, .slice A0_1 l0_1.length c0_1]] rfl ?_; (with_reducible refine (impl_LogFault.calls _ _ l0_0 _ _ l0_1 t384 _ ?side1 ?side2 ?side3 ?side4 A2.out).mono ?_); (case side1 => exact q_c ((Kd.V_reads' HO0_0.out).2.2)); (case side2 => exact (Kd.V_reads' HO0_0.out).2.1); (case side3 => exact q_c ((Kd.V_reads' HO0_1.out).2.2)); (case side4 => exact (Kd.V_reads' HO0_1.out).2.1); rintro e w10 ⟨rfl, hb⟩; refine ⟨_, rfl, ?_⟩; have n0_ := Aside0.mk (Kd.V_below (q_v (HO0_0.out)) hb); have n1_ := Aside0.mk (Kd.V_below (q_v (HO0_1.out)) hb); have n2_ := Aside0.mk (blk_below (q_b BK382.out) hb); have n3_ := Aside0.mk (blk_below (q_b BK383.out) hb); have n4_ := Aside0.mk (below_step bq hb); revert n0_ n1_ n2_ n3_ n4_; clear HO0_0 HO0_1 BK382 BK383 HB; intro HO0_0 HO0_1 BK382 BK383 HB; (try clear hb); (try clear hb2); (try clear hk); (try clear hi); obtain ⟨hcz11_0, hcz11_1, hfz11_0, hfz11_1⟩ := q_2 BK382.out) | ((with_reducible refine gate_dst (N := 14) rfl ?_); refine Kd.N_lit (Kd.slice 5 (Kd.int .u8)) _ 22 ?hg (N' := 14) ?hd (xs := ([l0_0, l0_1] : List (List Int))) (inner := [.slice A0_0 l0_0.length c0_0, .slice A0_1 l0_1.length c0_1]) (ok := (fun k_ => ((P0_0_ k_ ∨ P0_1_ k_) ∨ w.heap.size ≤ k_) ∧ k_ ≠ gb382 ∧ k_ ≠ gb383)) (okp := (fun k_ => ((P0_0_ k_ ∨ P0_1_ k_) ∨ w.heap.size ≤ k_) ∧ k_ ≠ gb382 ∧ k_ ≠ gb383)) ?hr ?hp (fun _ hk => hk) ((show ∀ k_, w10.heap.size ≤ k_ → (fun k_ => ((P0_0_ k_ ∨ P0_1_ k_) ∨ w.heap.size ≤ k_) ∧ k_ ≠ gb382 ∧ k_ ≠ gb383) k_ from fun k_ hk => ⟨(.inr (Nat.le_trans (below_size bq) hk)), Kd.freshB (q_b BK382.out) k_ hk, Kd.freshB (q_b BK383.out) k_ hk⟩) _ (Nat.le_refl _)) (Below.refl _ _) (Nat.le_refl _) (by simp) ?_; (case hd => rfl); (case hg => rfl); (case hr => first | (go_simp; done) | (go_simp; rfl)); (case hp => exact (Reps.one (show Kd.FK (Kd.slice 5 (Kd.int .u8)) _ _ l0_0 [.slice A0_0 l0_0.length c0_0] from (Kd.FK_slice_mk (Kd.V_reads' (Kd.V_mono (ok' := (fun k_ => ((P0_0_ k_ ∨ P0_1_ k_) ∨ w.heap.size ≤ k_) ∧ k_ ≠ gb382 ∧ k_ ≠ gb383)) (HO0_0.out) (fun k_ hk => ⟨hk.1.1, ⟨hk.1.2, hk.2⟩⟩))).2.1 (Kd.V_F (Kd.V_mono (ok' := (fun k_ => ((P0_0_ k_ ∨ P0_1_ k_) ∨ w.heap.size ≤ k_) ∧ k_ ≠ gb382 ∧ k_ ≠ gb383)) (HO0_0.out) (fun k_ hk => ⟨hk.1.1, ⟨hk.1.2, hk.2⟩⟩))))) (Reps.one (show Kd.FK (Kd.slice 5 (Kd.int .u8)) _ _ l0_1 [.slice A0_1 l0_1.length c0_1] from (Kd.FK_slice_mk (Kd.V_reads' (Kd.V_mono (ok' := (fun k_ => ((P0_0_ k_ ∨ P0_1_ k_) ∨ w.heap.size ≤ k_) ∧ k_ ≠ gb382 ∧ k_ ≠ gb383)) (HO0_1.out) (fun k_ hk => ⟨hk.1.1, ⟨hk.1.2, hk.2⟩⟩))).2.1 (Kd.V_F (Kd.V_mono (ok' := (fun k_ => ((P0_0_ k_ ∨ P0_1_ k_) ∨ w.heap.size ≤ k_) ∧ k_ ≠ gb382 ∧ k_ ≠ gb383)) (HO0_1.out) (fun k_ hk => ⟨hk.1.1, ⟨hk.1.2, hk.2⟩⟩))))) (Reps.none _ _)))); intro v386 w12 ho13 hb hg_ hnew_; clear hg_ hnew_; (first | rw [← Ny385.out] at ho13 | (simp only [Int.reduceToNat] at ho13; rw [← Ny385.out] at ho13)); have n0_ := Aside0.mk (Kd.V_elder' (q_v (HO0_0.out)) (by first | exact Kd.N_base ho13 | exact Kd.R_base (Kd.S_R ho13)) hb); have n1_ := Aside0.mk (Kd.V_elder' (q_v (HO0_1.out)) (by first | exact Kd.N_base ho13 | exact Kd.R_base (Kd.S_R ho13)) hb); have n2_ := Aside0.mk (Kd.N_lower ho13 (below_size bq)); have n3_ := Aside0.mk (blk_below (q_b BK382.out) hb); have n4_ := Aside0.mk (blk_below (q_b BK383.out) hb); have n5_ := Aside0.mk (below_step bq hb); revert n0_ n1_ n2_ n3_ n4_ n5_; clear HO0_0 HO0_1 BK382 BK383 HB; intro HO0_0 HO0_1 HO387 BK382 BK383 HB; clear hb ho13; obtain ⟨Ao14, co14, eo14⟩ := Kd.N_slice HO387.out; subst eo14) | ((with_reducible refine gate_callee (f := 62) rfl ?_); refine goesLq (some 15) rfl rfl Try.func62 (by kernel_rfl) rfl #[.slice Ao14 y385.length co14] rfl ?_; (with_reducible refine (slices_Concat_byte.calls k _ _ y385 t388 _ ?side1 ?side2 A4.out).mono ?_); (case side1 => exact q_c ((Kd.N_reads' HO387.out).2.2)); (case side2 => exact (Kd.N_reads' HO387.out).2.1); rintro e w15 ⟨v389, rfl, ho0, hb⟩; refine ⟨_, rfl, ?_⟩; have n0_ := Aside0.mk (Kd.V_elder' (q_v (HO0_0.out)) (Kd.R_base ho0) hb); have n1_ := Aside0.mk (Kd.V_elder' (q_v (HO0_1.out)) (Kd.R_base ho0) hb); have n2_ := Aside0.mk (Kd.N_elder' (by (with_reducible repeat (first | apply Kd.N_alloc | apply Kd.N_drewN | apply Kd.N_drew)); exact HO387.out) (Kd.R_base ho0) hb); have n3_ := Aside0.mk (Kd.R_lower (Kd.R_newM (M := fun k_ => (w.heap.size ≤ k_)) ho0 (below_size bq) (fun k_ h_ => h_)) (below_size bq)); have n4_ := Aside0.mk (blk_below (q_b BK382.out) hb); have n5_ := Aside0.mk (blk_below (q_b BK383.out) hb); have n6_ := Aside0.mk (below_step bq hb); revert n0_ n1_ n2_ n3_ n4_ n5_ n6_; clear HO0_0 HO0_1 HO387 BK382 BK383 HB; intro HO0_0 HO0_1 HO387 HO390 BK382 BK383 HB; (try clear hb); (try clear hb2); (try clear hk); (try clear hi); (try clear ho0); obtain ⟨Ao16, co16, eo16⟩ := Kd.R_slice HO390.out; subst eo16) | ((with_reducible refine gate_callee (f := 30) rfl ?_); refine goesLq (some 16) rfl rfl Try.func30 (by kernel_rfl) rfl #[.slice Ao16 t388.length co16] rfl ?_; (with_reducible refine (impl_UnframeAll.calls k _ _ t388 t391 t392 t393 _ ?side1 ?side2 A5.out).mono ?_); (case side1 => exact q_c ((Kd.R_reads' HO390.out).2.2)); (case side2 => exact (Kd.R_reads' HO390.out).2.1); rintro e w17 ⟨v394, rfl, ho0, hb⟩; refine ⟨_, rfl, ?_⟩; have n0_ := Aside0.mk (Kd.V_elder' (q_v (HO0_0.out)) (Kd.R_base (Kd.S_R ho0)) hb); have n1_ := Aside0.mk (Kd.V_elder' (q_v (HO0_1.out)) (Kd.R_base (Kd.S_R ho0)) hb); have n2_ := Aside0.mk (Kd.N_elder' (by (with_reducible repeat (first | apply Kd.N_alloc | apply Kd.N_drewN | apply Kd.N_drew)); exact HO387.out) (Kd.R_base (Kd.S_R ho0)) hb); have n3_ := Aside0.mk (Kd.R_below (q_r (HO390.out)) hb); have n4_ := Aside0.mk (Kd.N_lower (Kd.N_mono (ok' := fun k_ => ((P0_0_ k_ ∨ P0_1_ k_) ∨ w.heap.size ≤ k_) ∧ some k_ ≠ (.slice Ao14 y385.length co14 : Value).ownBlock ∧ some k_ ≠ (.slice Ao16 t388.length co16 : Value).ownBlock ∧ k_ ≠ gb382 ∧ k_ ≠ gb383) (Kd.S_N (Kd.S_bound ho0)) (fun k_ hk_ => ⟨(.inr (Nat.le_trans (below_size bq) hk_.2.1)), (Kd.fresh' (Kd.N_lt (by (with_reducible repeat (first | apply Kd.N_alloc | apply Kd.N_drewN | apply Kd.N_drew)); exact HO387.out)) k_ hk_.2.1), (Kd.fresh' (Kd.R_lt (q_r (HO390.out))) k_ hk_.2.1), (Kd.freshB (q_b BK382.out) k_ hk_.2.1), (Kd.freshB (q_b BK383.out) k_ hk_.2.1)⟩)) (below_size bq)); have n5_ := Aside0.mk (blk_below (q_b BK382.out) hb); have n6_ := Aside0.mk (blk_below (q_b BK383.out) hb); have n7_ := Aside0.mk (below_step bq hb); revert n0_ n1_ n2_ n3_ n4_ n5_ n6_ n7_; clear HO0_0 HO0_1 HO387 HO390 BK382 BK383 HB; intro HO0_0 HO0_1 HO387 HO390 HO395 BK382 BK383 HB; (try clear hb); (try clear hb2); (try clear hk); (try clear hi); (try clear ho0); obtain ⟨hcz18_0, hcz18_1, hcz18_2, hfz18_0, hfz18_1, hfz18_2⟩ := q_3 BK383.out; obtain ⟨Ao19, co19, eo19⟩ := Kd.N_slice HO395.out; subst eo19))
  refine bodyPost_ret (results_cell_row rfl _ _ gb383 43 #[.int .i64 t391, .int .i64 t392, .slice Ao19 t393.length co19] (0, 0) _ rfl (by (with_reducible repeat (first | refine blk_drewN ?_ _ | refine blk_drew ?_ | refine blk_alloc ?_ _)); refine blk_put (cs := #[.int .i64 t391, .int .i64 t392, .slice none 0 0]) ?_ 2 _ rfl; (with_reducible repeat (first | refine blk_drewN ?_ _ | refine blk_drew ?_ | refine blk_alloc ?_ _)); refine blk_put (cs := #[.int .i64 t391, .int .i64 0, .slice none 0 0]) ?_ 1 _ rfl; (with_reducible repeat (first | refine blk_drewN ?_ _ | refine blk_drew ?_ | refine blk_alloc ?_ _)); refine blk_put (cs := #[.int .i64 0, .int .i64 0, .slice none 0 0]) ?_ 0 _ rfl; (with_reducible repeat (first | refine blk_drewN ?_ _ | refine blk_drew ?_ | refine blk_alloc ?_ _)); exact BK383.out) Try.underlying43 rfl (by kernel_rfl)) rfl ?_
  exact ⟨_, q_e, by (with_reducible repeat (first | apply Kd.N_alloc | apply Kd.N_drewN | apply Kd.N_drew)); exact Kd.N_mono (Kd.N_far (p := ⟨gb383, 2, none⟩) (Kd.N_far (p := ⟨gb383, 1, none⟩) (Kd.N_far (p := ⟨gb383, 0, none⟩) (Kd.N_mono HO395.out (fun k_ hk => (⟨hk, hk.2.2.2.2⟩ : _ ∧ k_ ≠ gb383))) (fun _ hk => hk.2) (.int .i64 t391)) (fun _ hk => hk.2) (.int .i64 t392)) (fun _ hk => hk.2) (.slice Ao19 t393.length co19)) (fun _ hk => hk.1.1), bq⟩
 ·rw [if_neg c3] at H
  have c3b0 : (t384 == 0) = false := beq_eq_false_iff_ne.mpr c3
  have c3b1 : (t384 != 0) = true := bne_iff_ne.mpr c3
  simp only [Option.some.injEq, Prod.mk.injEq] at H
  obtain ⟨rfl, rfl, rfl⟩ := H
  go_enter Try.func48, Try.ntmps48
  go_wp2_with (first | ((with_reducible refine gate_dst (N := 1) rfl ?_); refine q_box (N := 1) (cs := #[.slice A0_0 l0_0.length c0_0, .slice A0_1 l0_1.length c0_1]) (t := 27) ?_; intro gb382 hg w20 hbox hb; have n0_ := Aside0.mk (Kd.V_below (Kd.V_elderB (q_v (HO0_0.out)) gb382 (Nat.le_of_eq hg.symm)) hb); have n1_ := Aside0.mk (Kd.V_below (Kd.V_elderB (q_v (HO0_1.out)) gb382 (Nat.le_of_eq hg.symm)) hb); have n2_ := Aside0.mk (below_step bq hb); have n3_ := Aside0.mk (hbox); have n4_ := Aside0.mk ((q_g hg bq : w.heap.size ≤ gb382)); have n5_ := Aside0.mk ((q_g hg bq : w.heap.size ≤ gb382)); revert n0_ n1_ n2_ n3_ n4_ n5_; clear HO0_0 HO0_1 HB; intro HO0_0 HO0_1 HB BK382 GW382 GE382; clear hb hbox hg) | ((with_reducible refine gate_dst (N := 2) rfl ?_); refine q_box (N := 2) (cs := #[.int .i64 0, .int .i64 0, .slice none 0 0]) (t := 43) ?_; intro gb383 hg w21 hbox hb; have n0_ := Aside0.mk (Kd.V_below (Kd.V_elderB (q_v (HO0_0.out)) gb383 (Nat.le_of_eq hg.symm)) hb); have n1_ := Aside0.mk (Kd.V_below (Kd.V_elderB (q_v (HO0_1.out)) gb383 (Nat.le_of_eq hg.symm)) hb); have n2_ := Aside0.mk (blk_below (q_b BK382.out) hb); have n3_ := Aside0.mk (below_step bq hb); have n4_ := Aside0.mk (hbox); have n5_ := Aside0.mk ((q_g hg bq : w.heap.size ≤ gb383)); have n6_ := Aside0.mk ((q_g hg bq : w.heap.size ≤ gb383)); have n7_ := Aside0.mk ((q_n hg (q_b BK382.out) : gb382 ≠ gb383)); have n8_ := Aside0.mk ((q_m hg (q_b BK382.out) : gb383 ≠ gb382)); revert n0_ n1_ n2_ n3_ n4_ n5_ n6_ n7_ n8_; clear HO0_0 HO0_1 BK382 HB; intro HO0_0 HO0_1 BK382 HB BK383 GW383 GE383 NB382_383 NB383_382; clear hb hbox hg; have hnb22 := NB382_383.out; have hnc22 := NB383_382.out; obtain ⟨hcz23_0, hcz23_1, hfz23_0, hfz23_1⟩ := q_2 BK382.out) | ((with_reducible refine gate_callee (f := 17) rfl ?_); refine goesLq (some 5) rfl rfl Try.func17 (by kernel_rfl) rfl #[.agg #[.slice A0_0 l0_0.length c0_0, .slice A0_1 l0_1.length c0_1]] rfl ?_; (with_reducible refine (impl_LogFault.calls _ _ l0_0 _ _ l0_1 t384 _ ?side1 ?side2 ?side3 ?side4 A2.out).mono ?_); (case side1 => exact q_c ((Kd.V_reads' HO0_0.out).2.2)); (case side2 => exact (Kd.V_reads' HO0_0.out).2.1); (case side3 => exact q_c ((Kd.V_reads' HO0_1.out).2.2)); (case side4 => exact (Kd.V_reads' HO0_1.out).2.1); rintro e w24 ⟨rfl, hb⟩; refine ⟨_, rfl, ?_⟩; have n0_ := Aside0.mk (Kd.V_below (q_v (HO0_0.out)) hb); have n1_ := Aside0.mk (Kd.V_below (q_v (HO0_1.out)) hb); have n2_ := Aside0.mk (blk_below (q_b BK382.out) hb); have n3_ := Aside0.mk (blk_below (q_b BK383.out) hb); have n4_ := Aside0.mk (below_step bq hb); revert n0_ n1_ n2_ n3_ n4_; clear HO0_0 HO0_1 BK382 BK383 HB; intro HO0_0 HO0_1 BK382 BK383 HB; (try clear hb); (try clear hb2); (try clear hk); (try clear hi); obtain ⟨hcz25_0, hcz25_1, hcz25_2, hfz25_0, hfz25_1, hfz25_2⟩ := q_3 BK383.out))
  refine bodyPost_ret (results_cell_row rfl _ _ gb383 43 #[.int .i64 t384, .int .i64 0, .slice none 0 0] (0, 0) _ rfl (by (with_reducible repeat (first | refine blk_drewN ?_ _ | refine blk_drew ?_ | refine blk_alloc ?_ _)); refine blk_put (cs := #[.int .i64 t384, .int .i64 0, .slice none 0 0]) ?_ 2 _ rfl; (with_reducible repeat (first | refine blk_drewN ?_ _ | refine blk_drew ?_ | refine blk_alloc ?_ _)); refine blk_put (cs := #[.int .i64 t384, .int .i64 0, .slice none 0 0]) ?_ 1 _ rfl; (with_reducible repeat (first | refine blk_drewN ?_ _ | refine blk_drew ?_ | refine blk_alloc ?_ _)); refine blk_put (cs := #[.int .i64 0, .int .i64 0, .slice none 0 0]) ?_ 0 _ rfl; (with_reducible repeat (first | refine blk_drewN ?_ _ | refine blk_drew ?_ | refine blk_alloc ?_ _)); exact BK383.out) Try.underlying43 rfl (by kernel_rfl)) rfl ?_
  exact ⟨_, q_e, by first | exact Kd.S_nil _ _ _ _ _ | exact Kd.N_nil _ _ _ _ _ | exact Kd.V_nil _ _ _ _ _ | exact Kd.Q_nil _ _ _ _ _ | exact Kd.R_nil _ _ _ _ _, bq⟩

/-! ### spec_l3Records: function 64 -/
mutual
def spec_l3Records.l0 : Nat → List Int → List (List Int) → Int → Option ((List (List Int)) × Int)
  | 0, _, _, _ => none
  | k + 1, x0, x4, x5 => if (wrap64 (x5 + 4)) < (x0.length : Int) then (if 0 ≤ x5 then (if x5 < (x0.length : Int) then (if 0 ≤ (wrap64 (x5 + 1)) then (if (wrap64 (x5 + 1)) < (x0.length : Int) then (if (wrap64 ((wrap64 ((wrap64 (rd x0 x5)) * 256)) + (wrap64 (rd x0 (wrap64 (x5 + 1)))))) < 1 then (spec_l3Records.j1 k x0 x4 x5 (wrap64 ((wrap64 ((wrap64 (rd x0 x5)) * 256)) + (wrap64 (rd x0 (wrap64 (x5 + 1)))))) true) else (if (wrap64 ((wrap64 ((wrap64 (rd x0 x5)) * 256)) + (wrap64 (rd x0 (wrap64 (x5 + 1)))))) > 500 then (spec_l3Records.j1 k x0 x4 x5 (wrap64 ((wrap64 ((wrap64 (rd x0 x5)) * 256)) + (wrap64 (rd x0 (wrap64 (x5 + 1)))))) true) else (spec_l3Records.j1 k x0 x4 x5 (wrap64 ((wrap64 ((wrap64 (rd x0 x5)) * 256)) + (wrap64 (rd x0 (wrap64 (x5 + 1)))))) (decide ((wrap64 ((wrap64 (x5 + 4)) + (wrap64 ((wrap64 ((wrap64 (rd x0 x5)) * 256)) + (wrap64 (rd x0 (wrap64 (x5 + 1)))))))) > (x0.length : Int)))))) else (none)) else (none)) else (none)) else (none)) else (some (x4, x5))
def spec_l3Records.j1 : Nat → List Int → List (List Int) → Int → Int → Bool → Option ((List (List Int)) × Int)
  | 0, _, _, _, _, _ => none
  | k + 1, x0, x4, x5, x6, x41 => if x41 = true then (some (x4, x5)) else (if 0 ≤ (wrap64 (x5 + 4)) then (if (wrap64 (x5 + 4)) ≤ (wrap64 ((wrap64 (x5 + 4)) + x6)) then (if (wrap64 ((wrap64 (x5 + 4)) + x6)) ≤ (x0.length : Int) then ((spec_CheckOf.f k ((x0.take ((wrap64 ((wrap64 (x5 + 4)) + x6)) : Int).toNat).drop ((wrap64 (x5 + 4)) : Int).toNat)).bind fun t402 => (if 0 ≤ (wrap64 (x5 + 2)) then (if (wrap64 (x5 + 2)) < (x0.length : Int) then (if 0 ≤ (wrap64 (x5 + 3)) then (if (wrap64 (x5 + 3)) < (x0.length : Int) then (if t402 = (wrap64 ((wrap64 ((wrap64 (rd x0 (wrap64 (x5 + 2)))) * 256)) + (wrap64 (rd x0 (wrap64 (x5 + 3)))))) then ((some (([] : List Int) : List Int)).bind fun y405 => (if y405.length + ((x0.take ((wrap64 ((wrap64 (x5 + 4)) + x6)) : Int).toNat).drop ((wrap64 (x5 + 4)) : Int).toNat).length < 140737488355328 then (if x4.length < 5864062014805 then (spec_l3Records.l0 k x0 (x4 ++ [(y405 ++ ((x0.take ((wrap64 ((wrap64 (x5 + 4)) + x6)) : Int).toNat).drop ((wrap64 (x5 + 4)) : Int).toNat))]) (wrap64 ((wrap64 (x5 + 4)) + x6))) else (none)) else (none))) else (some (x4, x5))) else (none)) else (none)) else (none)) else (none))) else (none)) else (none)) else (none))
end
def spec_l3Records.f (k : Nat) (l0 : List Int) : Option ((List (List Int)) × Int) := spec_l3Records.l0 k l0 (([] : List (List Int))) 0
set_option maxHeartbeats 8000000 in
set_option maxRecDepth 100000 in
theorem spec_l3Records.calls (k : Nat) (A0 : Option Addr) (c0 : Nat) (l0 : List Int) (r1 : List (List Int)) (r2 : Int) (w : World) (hr0 : Kd.C (Kd.int .u8) w A0 l0.length l0) (hc0 : l0.length ≤ c0) (h : spec_l3Records.f k l0 = some (r1, r2)) :
  Calls Try.prog 64 #[.slice A0 l0.length c0] w fun e w' => ∃ v0_ : Value, e = .returned (.tuple #[v0_, .int .i64 r2]) ∧ Kd.S (Kd.slice 5 (Kd.int .u8)) 22 w' w.heap.size (fun _ => True) v0_ r1 ∧ Below w.heap.size w w' := by
 have HR0 := Aside0.mk hr0
 have HC0 := Aside0.mk hc0
 clear hr0 hc0
 have HB := Aside0.mk (Below.refl w.heap.size w)
 have H : (spec_l3Records.l0 k l0 (([] : List (List Int))) 0) = some (r1, r2) := h
 clear h
 obtain ⟨y396, hy396⟩ : ∃ y_ : List (List Int), y_ = (([] : List (List Int))) := ⟨_, rfl⟩
 replace H : (spec_l3Records.l0 k l0 y396 0) = some (r1, r2) := q_h hy396 H
 have Ny396 := Aside0.mk hy396
 clear hy396
 have H' := Aside0.mk H
 clear H
 go_enter Try.func64, Try.ntmps64
 go_wp2_with (first | ((with_reducible refine gate_dst (N := 8) rfl ?_); (try (refine gate_guard (by rfl) ?_; dsimp only)); refine Kd.S_lit (Kd.slice 5 (Kd.int .u8)) _ 22 ?hg (N := 8) ?hd (xs := ([] : List (List Int))) (inner := []) (ok := fun _ => True) (okp := fun _ => True) ?hr ?hp (fun _ hk => hk) trivial (Below.refl _ _) (Nat.le_refl _) (by simp) ?_; (case hd => rfl); (case hg => rfl); (case hr => first | (go_simp; done) | (go_simp; rfl)); (case hp => exact (Reps.none _ _)); intro v397 w2 ho3 hb hg_ hnew_; clear hg_ hnew_; (first | rw [← Ny396.out] at ho3 | (simp only [Int.reduceToNat] at ho3; rw [← Ny396.out] at ho3)); have n0_ := Aside0.mk (Kd.S_lower ho3 (below_size bq)); have n1_ := Aside0.mk (below_step bq hb); revert n0_ n1_; clear HB; intro HO398 HB; clear hb ho3))
 repeat (go_quiet (first | ((with_reducible refine gate_dst (N := 8) rfl ?_); (try (refine gate_guard (by rfl) ?_; dsimp only)); refine Kd.S_lit (Kd.slice 5 (Kd.int .u8)) _ 22 ?hg (N := 8) ?hd (xs := ([] : List (List Int))) (inner := []) (ok := fun _ => True) (okp := fun _ => True) ?hr ?hp (fun _ hk => hk) trivial (Below.refl _ _) (Nat.le_refl _) (by simp) ?_; (case hd => rfl); (case hg => rfl); (case hr => first | (go_simp; done) | (go_simp; rfl)); (case hp => exact (Reps.none _ _)); intro v397 w2 ho3 hb hg_ hnew_; clear hg_ hnew_; (first | rw [← Ny396.out] at ho3 | (simp only [Int.reduceToNat] at ho3; rw [← Ny396.out] at ho3)); have n0_ := Aside0.mk (Kd.S_lower ho3 (below_size bq)); have n1_ := Aside0.mk (below_step bq hb); revert n0_ n1_; clear HB; intro HO398 HB; clear hb ho3)); try go_wp2_with (first | ((with_reducible refine gate_dst (N := 8) rfl ?_); (try (refine gate_guard (by rfl) ?_; dsimp only)); refine Kd.S_lit (Kd.slice 5 (Kd.int .u8)) _ 22 ?hg (N := 8) ?hd (xs := ([] : List (List Int))) (inner := []) (ok := fun _ => True) (okp := fun _ => True) ?hr ?hp (fun _ hk => hk) trivial (Below.refl _ _) (Nat.le_refl _) (by simp) ?_; (case hd => rfl); (case hg => rfl); (case hr => first | (go_simp; done) | (go_simp; rfl)); (case hp => exact (Reps.none _ _)); intro v397 w2 ho3 hb hg_ hnew_; clear hg_ hnew_; (first | rw [← Ny396.out] at ho3 | (simp only [Int.reduceToNat] at ho3; rw [← Ny396.out] at ho3)); have n0_ := Aside0.mk (Kd.S_lower ho3 (below_size bq)); have n1_ := Aside0.mk (below_step bq hb); revert n0_ n1_; clear HB; intro HO398 HB; clear hb ho3)))
 go_loopg [4, 5] k (fun kq v4 v5 w' => ∃ (x4_1 : List (List Int)) (x5_1 : Int), v5 = .int .i64 x5_1 ∧ Aside0 (spec_l3Records.l0 kq l0 x4_1 x5_1 = some (r1, r2)) ∧ Aside0 (kq ≤ k) ∧ Aside0 (Kd.S (Kd.slice 5 (Kd.int .u8)) 22 w' w.heap.size (fun _ => True) v4 x4_1) ∧ Aside0 (Below w.heap.size w w'))
 case atStart => exact ⟨(y396), (0), q_i, H', ⟨Nat.le_refl _⟩, ⟨q_s (HO398.out)⟩, ⟨bq⟩⟩
 case round =>
  clear H'
  (try clear p2)
  obtain ⟨x4_1, x5_1, rfl, HA, HK1, HO_4, HB⟩ := hrel
  cases gk with
  | zero => exact absurd HA.out (by simp [spec_l3Records.l0])
  | succ k1 =>
   have H := HA.out
   clear HA
   simp only [spec_l3Records.l0] at H
   by_cases c4 : (wrap64 (x5_1 + 4)) < (l0.length : Int)
   ·rw [if_pos c4] at H
    have c4b0 := decide_eq_true c4
    clear c4
    by_cases c5 : 0 ≤ x5_1
    ·rw [if_pos c5] at H
     have c5b0 := decide_eq_true c5
     clear c5
     by_cases c6 : x5_1 < (l0.length : Int)
     ·rw [if_pos c6] at H
      have c6b0 := decide_eq_true c6
      clear c6
      obtain ⟨ji7, hji7⟩ : ∃ j_ : Int, (wrap64 (x5_1 + 1)) = j_ := ⟨_, rfl⟩
      replace H : (if 0 ≤ (ji7) then (if (ji7) < (l0.length : Int) then (if (wrap64 ((wrap64 ((wrap64 (rd l0 x5_1)) * 256)) + (wrap64 (rd l0 (ji7))))) < 1 then (spec_l3Records.j1 k1 l0 x4_1 x5_1 (wrap64 ((wrap64 ((wrap64 (rd l0 x5_1)) * 256)) + (wrap64 (rd l0 (ji7))))) true) else (if (wrap64 ((wrap64 ((wrap64 (rd l0 x5_1)) * 256)) + (wrap64 (rd l0 (ji7))))) > 500 then (spec_l3Records.j1 k1 l0 x4_1 x5_1 (wrap64 ((wrap64 ((wrap64 (rd l0 x5_1)) * 256)) + (wrap64 (rd l0 (ji7))))) true) else (spec_l3Records.j1 k1 l0 x4_1 x5_1 (wrap64 ((wrap64 ((wrap64 (rd l0 x5_1)) * 256)) + (wrap64 (rd l0 (ji7))))) (decide ((wrap64 ((wrap64 (x5_1 + 4)) + (wrap64 ((wrap64 ((wrap64 (rd l0 x5_1)) * 256)) + (wrap64 (rd l0 (ji7))))))) > (l0.length : Int)))))) else (none)) else (none)) = some (r1, r2) := by first | (rw [hji7] at H; exact H) | (simp only [hji7] at H ⊢; exact H)
      have hji7w : (IntKind.i64.wrap (x5_1 + 1)) = ji7 := (i64_w _).trans hji7
      by_cases c8 : 0 ≤ (ji7)
      ·rw [if_pos c8] at H
       have c8b0 := decide_eq_true c8
       clear c8
       by_cases c9 : (ji7) < (l0.length : Int)
       ·rw [if_pos c9] at H
        have c9b0 := decide_eq_true c9
        clear c9
        have HC10 := Aside0.mk H
        clear H
        have p399 : 0 ≤ (x5_1 : Int) := q_d
        have q399 : x5_1 < (l0.length : Int) := q_d
        obtain ⟨ad399, e399, hx399_0⟩ := Kd.at_int HR0.out x5_1 p399 q399
        cases e399
        replace hx399_0 := q_x HB.out hx399_0
        replace p399 := eq_true p399
        replace q399 := eq_true q399
        have p400 : 0 ≤ ((ji7) : Int) := q_d
        have q400 : (ji7) < (l0.length : Int) := q_d
        obtain ⟨ad400, e400, hx400_0⟩ := Kd.at_int HR0.out (ji7) p400 q400
        obtain rfl : ad399 = ad400 := (by injection e400)
        replace hx400_0 := q_x HB.out hx400_0
        replace p400 := eq_true p400
        replace q400 := eq_true q400
        go_upto_region 5 with (fail)
        repeat (go_quiet (fail); go_upto_region 5 with (fail))
        go_cut [41] (fun v41 wc => ∃ (kq : Nat) (x41_9 : Bool), v41 = .bool x41_9 ∧ Aside0 (spec_l3Records.j1 kq l0 x4_1 x5_1 (wrap64 ((wrap64 ((wrap64 (rd l0 x5_1)) * 256)) + (wrap64 (rd l0 (ji7))))) x41_9 = some (r1, r2)) ∧ Aside0 (kq ≤ k1) ∧ Aside0 (Kd.S (Kd.slice 5 (Kd.int .u8)) 22 wc w.heap.size (fun _ => True) u4 x4_1) ∧ Aside0 (Below w.heap.size w wc))
        case first =>
         have H := HC10.out
         clear HC10
         by_cases c11 : (wrap64 ((wrap64 ((wrap64 (rd l0 x5_1)) * 256)) + (wrap64 (rd l0 (ji7))))) < 1
         ·rw [if_pos c11] at H
          have c11b0 := decide_eq_true c11
          clear c11
          (first | rw [c11b0] | (simp only [i64_w, i32_w]; rw [c11b0]) | skip)
          have H' := Aside0.mk H
          clear H
          go_wp2
          repeat (go_quiet (fail); try go_wp2)
          go_meet
          case rel => exact ⟨_, (true), q_i, H', ⟨by have := HK1.out; first | omega | exact Nat.le_refl _⟩, ⟨q_s (HO_4.out)⟩, ⟨bq⟩⟩
         ·rw [if_neg c11] at H
          have c11b0 := decide_eq_false c11
          clear c11
          (first | rw [c11b0] | (simp only [i64_w, i32_w]; rw [c11b0]) | skip)
          by_cases c12 : (wrap64 ((wrap64 ((wrap64 (rd l0 x5_1)) * 256)) + (wrap64 (rd l0 (ji7))))) > 500
          ·rw [if_pos c12] at H
           have c12b0 := decide_eq_true c12
           clear c12
           have H' := Aside0.mk H
           clear H
           go_wp2
           repeat (go_quiet (fail); try go_wp2)
           go_meet
           case rel => exact ⟨_, (true), q_i, H', ⟨by have := HK1.out; first | omega | exact Nat.le_refl _⟩, ⟨q_s (HO_4.out)⟩, ⟨bq⟩⟩
          ·rw [if_neg c12] at H
           have c12b0 := decide_eq_false c12
           clear c12
           have H' := Aside0.mk H
           clear H
           go_wp2
           repeat (go_quiet (fail); try go_wp2)
           go_meet
           case rel => exact ⟨_, (decide ((wrap64 ((wrap64 (x5_1 + 4)) + (wrap64 ((wrap64 ((wrap64 (rd l0 x5_1)) * 256)) + (wrap64 (rd l0 (ji7))))))) > (l0.length : Int))), (by first | rfl | (simp; done) | (simp only [← hji7] <;> (first | rfl | simp)) | (simp [*]; done)), H', ⟨by have := HK1.out; first | omega | exact Nat.le_refl _⟩, ⟨q_s (HO_4.out)⟩, ⟨bq⟩⟩
        case rest =>
         clear HC10
         (try clear c1); (try clear p2); (try clear p3); (try clear q3); (try clear hx3); (try clear c4); (try clear c4b0); (try clear p4); (try clear q4); (try clear hx4); (try clear c5); (try clear c5b0)
         (try clear c6); (try clear c6b0); (try clear p6); (try clear c8); (try clear c8b0); (try clear c9); (try clear c9b0); (try clear c11); (try clear c11b0); (try clear c12); (try clear c12b0); (try clear hx399_0)
         (try clear hx400_0); (try clear p2); (try clear p399); (try clear p400); (try clear q399); (try clear q400)
         obtain ⟨kq, x41_9, rfl, HA, HJ9, HO_4, HB⟩ := hcut
         cases kq with
         | zero => exact absurd HA.out (by simp [spec_l3Records.j1])
         | succ kj9 =>
          have H := HA.out
          clear HA
          simp only [spec_l3Records.j1] at H
          by_cases c13 : x41_9 = true
          ·subst c13
           have H1 : (some (x4_1, x5_1)) = some (r1, r2) := by rw [if_pos rfl] at H; exact H
           clear H
           have H := H1
           clear H1
           simp only [Option.some.injEq, Prod.mk.injEq] at H
           obtain ⟨rfl, rfl⟩ := H
           go_wp2
           repeat (go_quiet (fail); try go_wp2)
           go_ret2
           exact ⟨_, by first | rfl | (simp [errW_none, errW_some] <;> rfl) | (simp only [← hji7]; first | rfl | (simp [errW_none, errW_some] <;> rfl)) | (simp [*, errW_none, errW_some] <;> rfl), q_s (HO_4.out), bq⟩
          ·replace c13 := Bool.eq_false_iff.mpr c13
           subst c13
           have H1 : (if 0 ≤ (wrap64 (x5_1 + 4)) then (if (wrap64 (x5_1 + 4)) ≤ (wrap64 ((wrap64 (x5_1 + 4)) + (wrap64 ((wrap64 ((wrap64 (rd l0 x5_1)) * 256)) + (wrap64 (rd l0 (ji7))))))) then (if (wrap64 ((wrap64 (x5_1 + 4)) + (wrap64 ((wrap64 ((wrap64 (rd l0 x5_1)) * 256)) + (wrap64 (rd l0 (ji7))))))) ≤ (l0.length : Int) then ((spec_CheckOf.f kj9 ((l0.take ((wrap64 ((wrap64 (x5_1 + 4)) + (wrap64 ((wrap64 ((wrap64 (rd l0 x5_1)) * 256)) + (wrap64 (rd l0 (ji7))))))) : Int).toNat).drop ((wrap64 (x5_1 + 4)) : Int).toNat)).bind fun t402 => (if 0 ≤ (wrap64 (x5_1 + 2)) then (if (wrap64 (x5_1 + 2)) < (l0.length : Int) then (if 0 ≤ (wrap64 (x5_1 + 3)) then (if (wrap64 (x5_1 + 3)) < (l0.length : Int) then (if t402 = (wrap64 ((wrap64 ((wrap64 (rd l0 (wrap64 (x5_1 + 2)))) * 256)) + (wrap64 (rd l0 (wrap64 (x5_1 + 3)))))) then ((some (([] : List Int) : List Int)).bind fun y405 => (if y405.length + ((l0.take ((wrap64 ((wrap64 (x5_1 + 4)) + (wrap64 ((wrap64 ((wrap64 (rd l0 x5_1)) * 256)) + (wrap64 (rd l0 (ji7))))))) : Int).toNat).drop ((wrap64 (x5_1 + 4)) : Int).toNat).length < 140737488355328 then (if x4_1.length < 5864062014805 then (spec_l3Records.l0 kj9 l0 (x4_1 ++ [(y405 ++ ((l0.take ((wrap64 ((wrap64 (x5_1 + 4)) + (wrap64 ((wrap64 ((wrap64 (rd l0 x5_1)) * 256)) + (wrap64 (rd l0 (ji7))))))) : Int).toNat).drop ((wrap64 (x5_1 + 4)) : Int).toNat))]) (wrap64 ((wrap64 (x5_1 + 4)) + (wrap64 ((wrap64 ((wrap64 (rd l0 x5_1)) * 256)) + (wrap64 (rd l0 (ji7)))))))) else (none)) else (none))) else (some (x4_1, x5_1))) else (none)) else (none)) else (none)) else (none))) else (none)) else (none)) else (none)) = some (r1, r2) := by rw [if_neg (show ¬ (false = true) by decide)] at H; exact H
           clear H
           have H := H1
           clear H1
           obtain ⟨ji14, hji14⟩ : ∃ j_ : Int, (wrap64 (x5_1 + 4)) = j_ := ⟨_, rfl⟩
           replace H : (if 0 ≤ (ji14) then (if (ji14) ≤ (wrap64 ((ji14) + (wrap64 ((wrap64 ((wrap64 (rd l0 x5_1)) * 256)) + (wrap64 (rd l0 (ji7))))))) then (if (wrap64 ((ji14) + (wrap64 ((wrap64 ((wrap64 (rd l0 x5_1)) * 256)) + (wrap64 (rd l0 (ji7))))))) ≤ (l0.length : Int) then ((spec_CheckOf.f kj9 ((l0.take ((wrap64 ((ji14) + (wrap64 ((wrap64 ((wrap64 (rd l0 x5_1)) * 256)) + (wrap64 (rd l0 (ji7))))))) : Int).toNat).drop ((ji14) : Int).toNat)).bind fun t402 => (if 0 ≤ (wrap64 (x5_1 + 2)) then (if (wrap64 (x5_1 + 2)) < (l0.length : Int) then (if 0 ≤ (wrap64 (x5_1 + 3)) then (if (wrap64 (x5_1 + 3)) < (l0.length : Int) then (if t402 = (wrap64 ((wrap64 ((wrap64 (rd l0 (wrap64 (x5_1 + 2)))) * 256)) + (wrap64 (rd l0 (wrap64 (x5_1 + 3)))))) then ((some (([] : List Int) : List Int)).bind fun y405 => (if y405.length + ((l0.take ((wrap64 ((ji14) + (wrap64 ((wrap64 ((wrap64 (rd l0 x5_1)) * 256)) + (wrap64 (rd l0 (ji7))))))) : Int).toNat).drop ((ji14) : Int).toNat).length < 140737488355328 then (if x4_1.length < 5864062014805 then (spec_l3Records.l0 kj9 l0 (x4_1 ++ [(y405 ++ ((l0.take ((wrap64 ((ji14) + (wrap64 ((wrap64 ((wrap64 (rd l0 x5_1)) * 256)) + (wrap64 (rd l0 (ji7))))))) : Int).toNat).drop ((ji14) : Int).toNat))]) (wrap64 ((ji14) + (wrap64 ((wrap64 ((wrap64 (rd l0 x5_1)) * 256)) + (wrap64 (rd l0 (ji7)))))))) else (none)) else (none))) else (some (x4_1, x5_1))) else (none)) else (none)) else (none)) else (none))) else (none)) else (none)) else (none)) = some (r1, r2) := by first | (rw [hji14] at H; exact H) | (simp only [hji14] at H ⊢; exact H)
           (try rw [hji14] at c4b0)
           have hji14w : (IntKind.i64.wrap (x5_1 + 4)) = ji14 := (i64_w _).trans hji14
           by_cases c15 : 0 ≤ (ji14)
           ·rw [if_pos c15] at H
            have c15b0 := eq_true c15
            have c15b1 := decide_eq_true c15
            clear c15
            by_cases c16 : (ji14) ≤ (wrap64 ((ji14) + (wrap64 ((wrap64 ((wrap64 (rd l0 x5_1)) * 256)) + (wrap64 (rd l0 (ji7)))))))
            ·rw [if_pos c16] at H
             have c16b0 := eq_true c16
             have c16b1 := decide_eq_true c16
             by_cases c17 : (wrap64 ((ji14) + (wrap64 ((wrap64 ((wrap64 (rd l0 x5_1)) * 256)) + (wrap64 (rd l0 (ji7))))))) ≤ (l0.length : Int)
             ·rw [if_pos c17] at H
              have c17b0 := eq_true c17
              have c17b1 := decide_eq_true c17
              replace H := Option.bind_eq_some_iff.mp H
              obtain ⟨t402, A180, H⟩ := H
              replace H : (if 0 ≤ (wrap64 (x5_1 + 2)) then (if (wrap64 (x5_1 + 2)) < (l0.length : Int) then (if 0 ≤ (wrap64 (x5_1 + 3)) then (if (wrap64 (x5_1 + 3)) < (l0.length : Int) then (if t402 = (wrap64 ((wrap64 ((wrap64 (rd l0 (wrap64 (x5_1 + 2)))) * 256)) + (wrap64 (rd l0 (wrap64 (x5_1 + 3)))))) then ((some (([] : List Int) : List Int)).bind fun y405 => (if y405.length + ((l0.take ((wrap64 ((ji14) + (wrap64 ((wrap64 ((wrap64 (rd l0 x5_1)) * 256)) + (wrap64 (rd l0 (ji7))))))) : Int).toNat).drop ((ji14) : Int).toNat).length < 140737488355328 then (if x4_1.length < 5864062014805 then (spec_l3Records.l0 kj9 l0 (x4_1 ++ [(y405 ++ ((l0.take ((wrap64 ((ji14) + (wrap64 ((wrap64 ((wrap64 (rd l0 x5_1)) * 256)) + (wrap64 (rd l0 (ji7))))))) : Int).toNat).drop ((ji14) : Int).toNat))]) (wrap64 ((ji14) + (wrap64 ((wrap64 ((wrap64 (rd l0 x5_1)) * 256)) + (wrap64 (rd l0 (ji7)))))))) else (none)) else (none))) else (some (x4_1, x5_1))) else (none)) else (none)) else (none)) else (none)) = some (r1, r2) := H
              have A18 := Aside0.mk A180
              clear A180
              obtain ⟨ji19, hji19⟩ : ∃ j_ : Int, (wrap64 (x5_1 + 2)) = j_ := ⟨_, rfl⟩
              replace H : (if 0 ≤ (ji19) then (if (ji19) < (l0.length : Int) then (if 0 ≤ (wrap64 (x5_1 + 3)) then (if (wrap64 (x5_1 + 3)) < (l0.length : Int) then (if t402 = (wrap64 ((wrap64 ((wrap64 (rd l0 (ji19))) * 256)) + (wrap64 (rd l0 (wrap64 (x5_1 + 3)))))) then ((some (([] : List Int) : List Int)).bind fun y405 => (if y405.length + ((l0.take ((wrap64 ((ji14) + (wrap64 ((wrap64 ((wrap64 (rd l0 x5_1)) * 256)) + (wrap64 (rd l0 (ji7))))))) : Int).toNat).drop ((ji14) : Int).toNat).length < 140737488355328 then (if x4_1.length < 5864062014805 then (spec_l3Records.l0 kj9 l0 (x4_1 ++ [(y405 ++ ((l0.take ((wrap64 ((ji14) + (wrap64 ((wrap64 ((wrap64 (rd l0 x5_1)) * 256)) + (wrap64 (rd l0 (ji7))))))) : Int).toNat).drop ((ji14) : Int).toNat))]) (wrap64 ((ji14) + (wrap64 ((wrap64 ((wrap64 (rd l0 x5_1)) * 256)) + (wrap64 (rd l0 (ji7)))))))) else (none)) else (none))) else (some (x4_1, x5_1))) else (none)) else (none)) else (none)) else (none)) = some (r1, r2) := by first | (rw [hji19] at H; exact H) | (simp only [hji19] at H ⊢; exact H)
              (try rw [hji19] at A18)
              have hji19w : (IntKind.i64.wrap (x5_1 + 2)) = ji19 := (i64_w _).trans hji19
              by_cases c20 : 0 ≤ (ji19)
              ·rw [if_pos c20] at H
               have c20b0 := decide_eq_true c20
               clear c20
               by_cases c21 : (ji19) < (l0.length : Int)
               ·rw [if_pos c21] at H
                have c21b0 := decide_eq_true c21
                clear c21
                obtain ⟨ji22, hji22⟩ : ∃ j_ : Int, (wrap64 (x5_1 + 3)) = j_ := ⟨_, rfl⟩
                replace H : (if 0 ≤ (ji22) then (if (ji22) < (l0.length : Int) then (if t402 = (wrap64 ((wrap64 ((wrap64 (rd l0 (ji19))) * 256)) + (wrap64 (rd l0 (ji22))))) then ((some (([] : List Int) : List Int)).bind fun y405 => (if y405.length + ((l0.take ((wrap64 ((ji14) + (wrap64 ((wrap64 ((wrap64 (rd l0 x5_1)) * 256)) + (wrap64 (rd l0 (ji7))))))) : Int).toNat).drop ((ji14) : Int).toNat).length < 140737488355328 then (if x4_1.length < 5864062014805 then (spec_l3Records.l0 kj9 l0 (x4_1 ++ [(y405 ++ ((l0.take ((wrap64 ((ji14) + (wrap64 ((wrap64 ((wrap64 (rd l0 x5_1)) * 256)) + (wrap64 (rd l0 (ji7))))))) : Int).toNat).drop ((ji14) : Int).toNat))]) (wrap64 ((ji14) + (wrap64 ((wrap64 ((wrap64 (rd l0 x5_1)) * 256)) + (wrap64 (rd l0 (ji7)))))))) else (none)) else (none))) else (some (x4_1, x5_1))) else (none)) else (none)) = some (r1, r2) := by first | (rw [hji22] at H; exact H) | (simp only [hji22] at H ⊢; exact H)
                (try rw [hji22] at A18)
                have hji22w : (IntKind.i64.wrap (x5_1 + 3)) = ji22 := (i64_w _).trans hji22
                by_cases c23 : 0 ≤ (ji22)
                ·rw [if_pos c23] at H
                 have c23b0 := decide_eq_true c23
                 clear c23
                 by_cases c24 : (ji22) < (l0.length : Int)
                 ·rw [if_pos c24] at H
                  have c24b0 := decide_eq_true c24
                  clear c24
                  by_cases c25 : t402 = (wrap64 ((wrap64 ((wrap64 (rd l0 (ji19))) * 256)) + (wrap64 (rd l0 (ji22)))))
                  ·rw [if_pos c25] at H
                   have c25b0 : (t402 == (wrap64 ((wrap64 ((wrap64 (rd l0 (ji19))) * 256)) + (wrap64 (rd l0 (ji22)))))) = true := beq_iff_eq.mpr c25
                   have c25b1 : (t402 != (wrap64 ((wrap64 ((wrap64 (rd l0 (ji19))) * 256)) + (wrap64 (rd l0 (ji22)))))) = false := bne_eq_false_iff_eq.mpr c25
                   clear c25
                   obtain ⟨y405, hy405⟩ : ∃ y_ : List Int, y_ = (([] : List Int)) := ⟨_, rfl⟩
                   replace H : (if y405.length + ((l0.take ((wrap64 ((ji14) + (wrap64 ((wrap64 ((wrap64 (rd l0 x5_1)) * 256)) + (wrap64 (rd l0 (ji7))))))) : Int).toNat).drop ((ji14) : Int).toNat).length < 140737488355328 then (if x4_1.length < 5864062014805 then (spec_l3Records.l0 kj9 l0 (x4_1 ++ [(y405 ++ ((l0.take ((wrap64 ((ji14) + (wrap64 ((wrap64 ((wrap64 (rd l0 x5_1)) * 256)) + (wrap64 (rd l0 (ji7))))))) : Int).toNat).drop ((ji14) : Int).toNat))]) (wrap64 ((ji14) + (wrap64 ((wrap64 ((wrap64 (rd l0 x5_1)) * 256)) + (wrap64 (rd l0 (ji7)))))))) else (none)) else (none)) = some (r1, r2) := q_h hy405 H
                   have Ny405 := Aside0.mk hy405
                   clear hy405
                   by_cases c26 : y405.length + ((l0.take ((wrap64 ((ji14) + (wrap64 ((wrap64 ((wrap64 (rd l0 x5_1)) * 256)) + (wrap64 (rd l0 (ji7))))))) : Int).toNat).drop ((ji14) : Int).toNat).length < 140737488355328
                   ·rw [if_pos c26] at H
                    have LMc26 := Aside0.mk c26
                    clear c26
                    obtain ⟨y408, hy408⟩ : ∃ y_ : List Int, y_ = (y405 ++ ((l0.take ((wrap64 ((ji14) + (wrap64 ((wrap64 ((wrap64 (rd l0 x5_1)) * 256)) + (wrap64 (rd l0 (ji7))))))) : Int).toNat).drop ((ji14) : Int).toNat)) := ⟨_, rfl⟩
                    replace H : (if x4_1.length < 5864062014805 then (spec_l3Records.l0 kj9 l0 (x4_1 ++ [y408]) (wrap64 ((ji14) + (wrap64 ((wrap64 ((wrap64 (rd l0 x5_1)) * 256)) + (wrap64 (rd l0 (ji7)))))))) else (none)) = some (r1, r2) := q_h hy408 H
                    have Ny408 := Aside0.mk hy408
                    clear hy408
                    by_cases c27 : x4_1.length < 5864062014805
                    ·rw [if_pos c27] at H
                     have LMc27 := Aside0.mk c27
                     clear c27
                     obtain ⟨y411, hy411⟩ : ∃ y_ : List (List Int), y_ = (x4_1 ++ [y408]) := ⟨_, rfl⟩
                     replace H : (spec_l3Records.l0 kj9 l0 y411 (wrap64 ((ji14) + (wrap64 ((wrap64 ((wrap64 (rd l0 x5_1)) * 256)) + (wrap64 (rd l0 (ji7)))))))) = some (r1, r2) := q_h hy411 H
                     have Ny411 := Aside0.mk hy411
                     clear hy411
                     have H' := Aside0.mk H
                     clear H
                     obtain ⟨i028, hi028, _, hsz28, _⟩ := info_parts info5
                     obtain ⟨A28, hcut28, hA28, hC28⟩ := print_mid_of (P := Try.prog) (Value.int .u8) 0 22 5 .i64 .i64 Try.underlying22 hi028 hsz28 (some ad399) c0 l0 (ji14) (wrap64 ((ji14) + (wrap64 ((wrap64 ((wrap64 (rd l0 x5_1)) * 256)) + (wrap64 (rd l0 (ji7))))))) q_d (by first | omega | exact q_d) q_d HC0.out
                     have HR401 := Aside0.mk (Kd.C_of_reads (h1 := fun _ => rfl) (hA28 _ (Kd.reads_of_C HR0.out)))
                     have HC401 := Aside0.mk hC28
                     clear hA28 hC28 hi028 hsz28
                     go_wp2_with (first | (go_at_call 78; (refine calls_of_args (args' := #[.slice _ ((l0.take ((wrap64 ((ji14) + (wrap64 ((wrap64 ((wrap64 (rd l0 x5_1)) * 256)) + (wrap64 (rd l0 (ji7))))))) : Int).toNat).drop ((ji14) : Int).toNat).length _]) (by simp only [List.length_drop, List.length_take]; rw [Nat.min_eq_left (by have h_ : ((wrap64 ((ji14) + (wrap64 ((wrap64 ((wrap64 (rd l0 x5_1)) * 256)) + (wrap64 (rd l0 (ji7))))))) : Int) ≤ (l0.length : Int) := q_d; omega)]) ?_); (with_reducible refine (spec_CheckOf.calls kj9 _ _ ((l0.take ((wrap64 ((ji14) + (wrap64 ((wrap64 ((wrap64 (rd l0 x5_1)) * 256)) + (wrap64 (rd l0 (ji7))))))) : Int).toNat).drop ((ji14) : Int).toNat) t402 _ ?side1 ?side2 A18.out).mono ?_); (case side1 => exact q_c ((Kd.C_below HR401.out HB.out))); (case side2 => exact HC401.out); rintro e w' ⟨rfl, ⟨nd, rfl⟩⟩; (try first | exact ⟨rfl, _, World.drewN_drewN _ _ _⟩ | exact ⟨rfl, _, Eq.trans (World.drewN_drewN _ _ _) (congrArg (World.drewN _) (Nat.add_assoc _ _ _))⟩); have p403 : 0 ≤ ((ji19) : Int) := q_d; have q403 : (ji19) < (l0.length : Int) := q_d; obtain ⟨ad403, e403, hx403_0⟩ := Kd.at_int HR0.out (ji19) p403 q403; obtain rfl : ad399 = ad403 := (by injection e403); replace hx403_0 := q_x HB.out hx403_0; replace p403 := eq_true p403; replace q403 := eq_true q403; have p404 : 0 ≤ ((ji22) : Int) := q_d; have q404 : (ji22) < (l0.length : Int) := q_d; obtain ⟨ad404, e404, hx404_0⟩ := Kd.at_int HR0.out (ji22) p404 q404; obtain rfl : ad399 = ad404 := (by injection e404); replace hx404_0 := q_x HB.out hx404_0; replace p404 := eq_true p404; replace q404 := eq_true q404) | ((with_reducible refine gate_dst (N := 68) rfl ?_); (try (refine gate_guard (by rfl) ?_; dsimp only)); refine Kd.R_lit (Kd.int .u8) _ 5 ?hg (N := 68) ?hd (xs := ([] : List Int)) (inner := []) (ok := fun _ => True) (okp := fun _ => True) ?hr ?hp (fun _ hk => hk) trivial (Below.refl _ _) (Nat.le_refl _) (by simp) ?_; (case hd => rfl); (case hg => rfl); (case hr => first | (go_simp; done) | (go_simp; rfl)); (case hp => exact (Reps.none _ _)); intro v406 w29 ho30 hb hg_ hnew_; clear hg_ hnew_; (first | rw [← Ny405.out] at ho30 | (simp only [Int.reduceToNat] at ho30; rw [← Ny405.out] at ho30)); have n0_ := Aside0.mk (Kd.S_elder' (q_s (HO_4.out)) (Kd.R_base ho30) hb); have n1_ := Aside0.mk (Kd.R_lower ho30 (below_size bq)); have n2_ := Aside0.mk (below_step bq hb); revert n0_ n1_ n2_; clear HO_4 HB; intro HO_4 HO407 HB; clear hb ho30) | ((with_reducible refine gate_builtin (b := .append) (xs := #[.tmp 68, .tmp 69]) rfl ?_); (try (refine gate_guard (by rfl) ?_; dsimp only)); at_builtin; refine Kd.R_append_rows (Kd.int .u8) (w0 := w) w.heap.size rfl (.tmp 68) (.tmp 69) 22 5 (.int .u8 0) 1 rfl Try.underlying22 info5 rfl (by decide) (by omega) v406 y405 ((l0.take ((wrap64 ((ji14) + (wrap64 ((wrap64 ((wrap64 (rd l0 x5_1)) * 256)) + (wrap64 (rd l0 (ji7))))))) : Int).toNat).drop ((ji14) : Int).toNat) _ _ _ (fun _ => True) (fun _ => False) rfl rfl ?aO ?aR (fun _ _ h => h) (fun _ h => h.elim) ?aF ?aB ?aS ?aL ?_; (case aR => first | (have hz_ := (Kd.C_below HR401.out HB.out); rw [show ((l0.take ((wrap64 ((ji14) + (wrap64 ((wrap64 ((wrap64 (rd l0 x5_1)) * 256)) + (wrap64 (rd l0 (ji7))))))) : Int).toNat).drop ((ji14) : Int).toNat).length = ((wrap64 ((ji14) + (wrap64 ((wrap64 ((wrap64 (rd l0 x5_1)) * 256)) + (wrap64 (rd l0 (ji7))))))).toNat - (ji14).toNat) from (by rw [List.length_drop, List.length_take]; have h_ : ((wrap64 ((ji14) + (wrap64 ((wrap64 ((wrap64 (rd l0 x5_1)) * 256)) + (wrap64 (rd l0 (ji7))))))) : Int) ≤ (l0.length : Int) := q_d; omega)] at hz_; exact hz_) | (rw [← show ((l0.take ((wrap64 ((ji14) + (wrap64 ((wrap64 ((wrap64 (rd l0 x5_1)) * 256)) + (wrap64 (rd l0 (ji7))))))) : Int).toNat).drop ((ji14) : Int).toNat).length = ((wrap64 ((ji14) + (wrap64 ((wrap64 ((wrap64 (rd l0 x5_1)) * 256)) + (wrap64 (rd l0 (ji7))))))).toNat - (ji14).toNat) from (by rw [List.length_drop, List.length_take]; have h_ : ((wrap64 ((ji14) + (wrap64 ((wrap64 ((wrap64 (rd l0 x5_1)) * 256)) + (wrap64 (rd l0 (ji7))))))) : Int) ≤ (l0.length : Int) := q_d; omega)]; repeat (first | exact (Kd.C_below HR401.out HB.out) | (with_reducible refine Kd.C_alloc ?_ _) | (with_reducible refine Kd.C_drewN ?_ _) | (with_reducible refine Kd.C_drew ?_))) | (repeat (first | exact (Kd.C_below HR401.out HB.out) | (with_reducible refine Kd.C_alloc ?_ _) | (with_reducible refine Kd.C_drewN ?_ _) | (with_reducible refine Kd.C_drew ?_)))); (case aB => exact bq); (case aF => exact (fun _ _ => trivial)); (case aO => exact (q_r (HO407.out))); (case aS => exact (below_size bq)); (case aL => have := LMc26.out; have hlx_ := (show ((l0.take ((wrap64 ((ji14) + (wrap64 ((wrap64 ((wrap64 (rd l0 x5_1)) * 256)) + (wrap64 (rd l0 (ji7))))))) : Int).toNat).drop ((ji14) : Int).toNat).length = ((wrap64 ((ji14) + (wrap64 ((wrap64 ((wrap64 (rd l0 x5_1)) * 256)) + (wrap64 (rd l0 (ji7))))))).toNat - (ji14).toNat) from (by rw [List.length_drop, List.length_take]; have h_ : ((wrap64 ((ji14) + (wrap64 ((wrap64 ((wrap64 (rd l0 x5_1)) * 256)) + (wrap64 (rd l0 (ji7))))))) : Int) ≤ (l0.length : Int) := q_d; omega)); omega); intro v409 w31 ho hb hg hat; rw [← Ny408.out] at ho; have n0_ := Aside0.mk (Kd.S_after (ok := (fun _ => True)) (q_s (HO_4.out)) hg hat); have n1_ := Aside0.mk (hb); have n2_ := Aside0.mk (ho); revert n0_ n1_ n2_; clear HO_4 HB HO407; intro HO_4 HB HO410; clear ho hb hg hat; obtain ⟨Ao33, co33, eo33⟩ := Kd.R_slice HO410.out; subst eo33) | ((with_reducible refine gate_builtin (b := .append) (xs := #[.tmp 67, .tmp 71]) rfl ?_); (try (refine gate_guard (by rfl) ?_; dsimp only)); at_builtin; refine Kd.S_append (Kd.slice 5 (Kd.int .u8)) (w0 := w) w.heap.size rfl (.tmp 67) (.tmp 71) 40 22 (.slice none 0 0) 24 rfl Try.underlying40 info22 rfl (by decide) (by omega) u4 x4_1 y408 [.slice Ao33 y408.length co33] (fun _ => True) (fun k_ => some k_ = (.slice Ao33 y408.length co33 : Value).ownBlock) rfl rfl ?aP (fun k_ hk_ => ((Kd.R_mono (ok' := fun k_ => ((fun _ => True)) k_ ∧ some k_ ≠ (u4 : Value).ownBlock) (Kd.R_apart' (HO410.out) (Kd.S_typed HO_4.out) (by decide)) (fun k_ hk => ⟨trivial, hk.2⟩))).1 k_ hk_.symm) ?aF ?aO ?aB ?aS ?aL ?_; (case aP => exact Kd.M_row (Kd.R_mono (Kd.R_tight rfl (Kd.R_mono (ok' := fun k_ => ((fun _ => True)) k_ ∧ some k_ ≠ (u4 : Value).ownBlock) (Kd.R_apart' (HO410.out) (Kd.S_typed HO_4.out) (by decide)) (fun k_ hk => ⟨trivial, hk.2⟩))) (fun _ h_ => h_))); (case aB => exact bq); (case aF => exact (fun _ _ => trivial)); (case aO => exact (by (with_reducible repeat (first | apply Kd.S_alloc | apply Kd.S_drewN | apply Kd.S_drew)); exact Kd.S_mono HO_4.out (fun k_ hk => ⟨trivial, fun e_ => hk.2 e_⟩))); (case aS => exact (below_size bq)); (case aL => have := LMc27.out; omega); intro v412 w32 ho hb hg hat; rw [← Ny411.out] at ho; have n0_ := Aside0.mk (hb); have n1_ := Aside0.mk (ho); revert n0_ n1_; clear HB HO_4 HO410; intro HB HO413; clear ho hb hg hat))
                     repeat (go_quiet (first | (go_at_call 78; (refine calls_of_args (args' := #[.slice _ ((l0.take ((wrap64 ((ji14) + (wrap64 ((wrap64 ((wrap64 (rd l0 x5_1)) * 256)) + (wrap64 (rd l0 (ji7))))))) : Int).toNat).drop ((ji14) : Int).toNat).length _]) (by simp only [List.length_drop, List.length_take]; rw [Nat.min_eq_left (by have h_ : ((wrap64 ((ji14) + (wrap64 ((wrap64 ((wrap64 (rd l0 x5_1)) * 256)) + (wrap64 (rd l0 (ji7))))))) : Int) ≤ (l0.length : Int) := q_d; omega)]) ?_); (with_reducible refine (spec_CheckOf.calls kj9 _ _ ((l0.take ((wrap64 ((ji14) + (wrap64 ((wrap64 ((wrap64 (rd l0 x5_1)) * 256)) + (wrap64 (rd l0 (ji7))))))) : Int).toNat).drop ((ji14) : Int).toNat) t402 _ ?side1 ?side2 A18.out).mono ?_); (case side1 => exact q_c ((Kd.C_below HR401.out HB.out))); (case side2 => exact HC401.out); rintro e w' ⟨rfl, ⟨nd, rfl⟩⟩; (try first | exact ⟨rfl, _, World.drewN_drewN _ _ _⟩ | exact ⟨rfl, _, Eq.trans (World.drewN_drewN _ _ _) (congrArg (World.drewN _) (Nat.add_assoc _ _ _))⟩); have p403 : 0 ≤ ((ji19) : Int) := q_d; have q403 : (ji19) < (l0.length : Int) := q_d; obtain ⟨ad403, e403, hx403_0⟩ := Kd.at_int HR0.out (ji19) p403 q403; obtain rfl : ad399 = ad403 := (by injection e403); replace hx403_0 := q_x HB.out hx403_0; replace p403 := eq_true p403; replace q403 := eq_true q403; have p404 : 0 ≤ ((ji22) : Int) := q_d; have q404 : (ji22) < (l0.length : Int) := q_d; obtain ⟨ad404, e404, hx404_0⟩ := Kd.at_int HR0.out (ji22) p404 q404; obtain rfl : ad399 = ad404 := (by injection e404); replace hx404_0 := q_x HB.out hx404_0; replace p404 := eq_true p404; replace q404 := eq_true q404) | ((with_reducible refine gate_dst (N := 68) rfl ?_); (try (refine gate_guard (by rfl) ?_; dsimp only)); refine Kd.R_lit (Kd.int .u8) _ 5 ?hg (N := 68) ?hd (xs := ([] : List Int)) (inner := []) (ok := fun _ => True) (okp := fun _ => True) ?hr ?hp (fun _ hk => hk) trivial (Below.refl _ _) (Nat.le_refl _) (by simp) ?_; (case hd => rfl); (case hg => rfl); (case hr => first | (go_simp; done) | (go_simp; rfl)); (case hp => exact (Reps.none _ _)); intro v406 w29 ho30 hb hg_ hnew_; clear hg_ hnew_; (first | rw [← Ny405.out] at ho30 | (simp only [Int.reduceToNat] at ho30; rw [← Ny405.out] at ho30)); have n0_ := Aside0.mk (Kd.S_elder' (q_s (HO_4.out)) (Kd.R_base ho30) hb); have n1_ := Aside0.mk (Kd.R_lower ho30 (below_size bq)); have n2_ := Aside0.mk (below_step bq hb); revert n0_ n1_ n2_; clear HO_4 HB; intro HO_4 HO407 HB; clear hb ho30) | ((with_reducible refine gate_builtin (b := .append) (xs := #[.tmp 68, .tmp 69]) rfl ?_); (try (refine gate_guard (by rfl) ?_; dsimp only)); at_builtin; refine Kd.R_append_rows (Kd.int .u8) (w0 := w) w.heap.size rfl (.tmp 68) (.tmp 69) 22 5 (.int .u8 0) 1 rfl Try.underlying22 info5 rfl (by decide) (by omega) v406 y405 ((l0.take ((wrap64 ((ji14) + (wrap64 ((wrap64 ((wrap64 (rd l0 x5_1)) * 256)) + (wrap64 (rd l0 (ji7))))))) : Int).toNat).drop ((ji14) : Int).toNat) _ _ _ (fun _ => True) (fun _ => False) rfl rfl ?aO ?aR (fun _ _ h => h) (fun _ h => h.elim) ?aF ?aB ?aS ?aL ?_; (case aR => first | (have hz_ := (Kd.C_below HR401.out HB.out); rw [show ((l0.take ((wrap64 ((ji14) + (wrap64 ((wrap64 ((wrap64 (rd l0 x5_1)) * 256)) + (wrap64 (rd l0 (ji7))))))) : Int).toNat).drop ((ji14) : Int).toNat).length = ((wrap64 ((ji14) + (wrap64 ((wrap64 ((wrap64 (rd l0 x5_1)) * 256)) + (wrap64 (rd l0 (ji7))))))).toNat - (ji14).toNat) from (by rw [List.length_drop, List.length_take]; have h_ : ((wrap64 ((ji14) + (wrap64 ((wrap64 ((wrap64 (rd l0 x5_1)) * 256)) + (wrap64 (rd l0 (ji7))))))) : Int) ≤ (l0.length : Int) := q_d; omega)] at hz_; exact hz_) | (rw [← show ((l0.take ((wrap64 ((ji14) + (wrap64 ((wrap64 ((wrap64 (rd l0 x5_1)) * 256)) + (wrap64 (rd l0 (ji7))))))) : Int).toNat).drop ((ji14) : Int).toNat).length = ((wrap64 ((ji14) + (wrap64 ((wrap64 ((wrap64 (rd l0 x5_1)) * 256)) + (wrap64 (rd l0 (ji7))))))).toNat - (ji14).toNat) from (by rw [List.length_drop, List.length_take]; have h_ : ((wrap64 ((ji14) + (wrap64 ((wrap64 ((wrap64 (rd l0 x5_1)) * 256)) + (wrap64 (rd l0 (ji7))))))) : Int) ≤ (l0.length : Int) := q_d; omega)]; repeat (first | exact (Kd.C_below HR401.out HB.out) | (with_reducible refine Kd.C_alloc ?_ _) | (with_reducible refine Kd.C_drewN ?_ _) | (with_reducible refine Kd.C_drew ?_))) | (repeat (first | exact (Kd.C_below HR401.out HB.out) | (with_reducible refine Kd.C_alloc ?_ _) | (with_reducible refine Kd.C_drewN ?_ _) | (with_reducible refine Kd.C_drew ?_)))); (case aB => exact bq); (case aF => exact (fun _ _ => trivial)); (case aO => exact (q_r (HO407.out))); (case aS => exact (below_size bq)); (case aL => have := LMc26.out; have hlx_ := (show ((l0.take ((wrap64 ((ji14) + (wrap64 ((wrap64 ((wrap64 (rd l0 x5_1)) * 256)) + (wrap64 (rd l0 (ji7))))))) : Int).toNat).drop ((ji14) : Int).toNat).length = ((wrap64 ((ji14) + (wrap64 ((wrap64 ((wrap64 (rd l0 x5_1)) * 256)) + (wrap64 (rd l0 (ji7))))))).toNat - (ji14).toNat) from (by rw [List.length_drop, List.length_take]; have h_ : ((wrap64 ((ji14) + (wrap64 ((wrap64 ((wrap64 (rd l0 x5_1)) * 256)) + (wrap64 (rd l0 (ji7))))))) : Int) ≤ (l0.length : Int) := q_d; omega)); omega); intro v409 w31 ho hb hg hat; rw [← Ny408.out] at ho; have n0_ := Aside0.mk (Kd.S_after (ok := (fun _ => True)) (q_s (HO_4.out)) hg hat); have n1_ := Aside0.mk (hb); have n2_ := Aside0.mk (ho); revert n0_ n1_ n2_; clear HO_4 HB HO407; intro HO_4 HB HO410; clear ho hb hg hat; obtain ⟨Ao33, co33, eo33⟩ := Kd.R_slice HO410.out; subst eo33) | ((with_reducible refine gate_builtin (b := .append) (xs := #[.tmp 67, .tmp 71]) rfl ?_); (try (refine gate_guard (by rfl) ?_; dsimp only)); at_builtin; refine Kd.S_append (Kd.slice 5 (Kd.int .u8)) (w0 := w) w.heap.size rfl (.tmp 67) (.tmp 71) 40 22 (.slice none 0 0) 24 rfl Try.underlying40 info22 rfl (by decide) (by omega) u4 x4_1 y408 [.slice Ao33 y408.length co33] (fun _ => True) (fun k_ => some k_ = (.slice Ao33 y408.length co33 : Value).ownBlock) rfl rfl ?aP (fun k_ hk_ => ((Kd.R_mono (ok' := fun k_ => ((fun _ => True)) k_ ∧ some k_ ≠ (u4 : Value).ownBlock) (Kd.R_apart' (HO410.out) (Kd.S_typed HO_4.out) (by decide)) (fun k_ hk => ⟨trivial, hk.2⟩))).1 k_ hk_.symm) ?aF ?aO ?aB ?aS ?aL ?_; (case aP => exact Kd.M_row (Kd.R_mono (Kd.R_tight rfl (Kd.R_mono (ok' := fun k_ => ((fun _ => True)) k_ ∧ some k_ ≠ (u4 : Value).ownBlock) (Kd.R_apart' (HO410.out) (Kd.S_typed HO_4.out) (by decide)) (fun k_ hk => ⟨trivial, hk.2⟩))) (fun _ h_ => h_))); (case aB => exact bq); (case aF => exact (fun _ _ => trivial)); (case aO => exact (by (with_reducible repeat (first | apply Kd.S_alloc | apply Kd.S_drewN | apply Kd.S_drew)); exact Kd.S_mono HO_4.out (fun k_ hk => ⟨trivial, fun e_ => hk.2 e_⟩))); (case aS => exact (below_size bq)); (case aL => have := LMc27.out; omega); intro v412 w32 ho hb hg hat; rw [← Ny411.out] at ho; have n0_ := Aside0.mk (hb); have n1_ := Aside0.mk (ho); revert n0_ n1_; clear HB HO_4 HO410; intro HB HO413; clear ho hb hg hat)); (try simp only [i64_w]); try go_wp2_with (first | (go_at_call 78; (refine calls_of_args (args' := #[.slice _ ((l0.take ((wrap64 ((ji14) + (wrap64 ((wrap64 ((wrap64 (rd l0 x5_1)) * 256)) + (wrap64 (rd l0 (ji7))))))) : Int).toNat).drop ((ji14) : Int).toNat).length _]) (by simp only [List.length_drop, List.length_take]; rw [Nat.min_eq_left (by have h_ : ((wrap64 ((ji14) + (wrap64 ((wrap64 ((wrap64 (rd l0 x5_1)) * 256)) + (wrap64 (rd l0 (ji7))))))) : Int) ≤ (l0.length : Int) := q_d; omega)]) ?_); (with_reducible refine (spec_CheckOf.calls kj9 _ _ ((l0.take ((wrap64 ((ji14) + (wrap64 ((wrap64 ((wrap64 (rd l0 x5_1)) * 256)) + (wrap64 (rd l0 (ji7))))))) : Int).toNat).drop ((ji14) : Int).toNat) t402 _ ?side1 ?side2 A18.out).mono ?_); (case side1 => exact q_c ((Kd.C_below HR401.out HB.out))); (case side2 => exact HC401.out); rintro e w' ⟨rfl, ⟨nd, rfl⟩⟩; (try first | exact ⟨rfl, _, World.drewN_drewN _ _ _⟩ | exact ⟨rfl, _, Eq.trans (World.drewN_drewN _ _ _) (congrArg (World.drewN _) (Nat.add_assoc _ _ _))⟩); have p403 : 0 ≤ ((ji19) : Int) := q_d; have q403 : (ji19) < (l0.length : Int) := q_d; obtain ⟨ad403, e403, hx403_0⟩ := Kd.at_int HR0.out (ji19) p403 q403; obtain rfl : ad399 = ad403 := (by injection e403); replace hx403_0 := q_x HB.out hx403_0; replace p403 := eq_true p403; replace q403 := eq_true q403; have p404 : 0 ≤ ((ji22) : Int) := q_d; have q404 : (ji22) < (l0.length : Int) := q_d; obtain ⟨ad404, e404, hx404_0⟩ := Kd.at_int HR0.out (ji22) p404 q404; obtain rfl : ad399 = ad404 := (by injection e404); replace hx404_0 := q_x HB.out hx404_0; replace p404 := eq_true p404; replace q404 := eq_true q404) | ((with_reducible refine gate_dst (N := 68) rfl ?_); (try (refine gate_guard (by rfl) ?_; dsimp only)); refine Kd.R_lit (Kd.int .u8) _ 5 ?hg (N := 68) ?hd (xs := ([] : List Int)) (inner := []) (ok := fun _ => True) (okp := fun _ => True) ?hr ?hp (fun _ hk => hk) trivial (Below.refl _ _) (Nat.le_refl _) (by simp) ?_; (case hd => rfl); (case hg => rfl); (case hr => first | (go_simp; done) | (go_simp; rfl)); (case hp => exact (Reps.none _ _)); intro v406 w29 ho30 hb hg_ hnew_; clear hg_ hnew_; (first | rw [← Ny405.out] at ho30 | (simp only [Int.reduceToNat] at ho30; rw [← Ny405.out] at ho30)); have n0_ := Aside0.mk (Kd.S_elder' (q_s (HO_4.out)) (Kd.R_base ho30) hb); have n1_ := Aside0.mk (Kd.R_lower ho30 (below_size bq)); have n2_ := Aside0.mk (below_step bq hb); revert n0_ n1_ n2_; clear HO_4 HB; intro HO_4 HO407 HB; clear hb ho30) | ((with_reducible refine gate_builtin (b := .append) (xs := #[.tmp 68, .tmp 69]) rfl ?_); (try (refine gate_guard (by rfl) ?_; dsimp only)); at_builtin; refine Kd.R_append_rows (Kd.int .u8) (w0 := w) w.heap.size rfl (.tmp 68) (.tmp 69) 22 5 (.int .u8 0) 1 rfl Try.underlying22 info5 rfl (by decide) (by omega) v406 y405 ((l0.take ((wrap64 ((ji14) + (wrap64 ((wrap64 ((wrap64 (rd l0 x5_1)) * 256)) + (wrap64 (rd l0 (ji7))))))) : Int).toNat).drop ((ji14) : Int).toNat) _ _ _ (fun _ => True) (fun _ => False) rfl rfl ?aO ?aR (fun _ _ h => h) (fun _ h => h.elim) ?aF ?aB ?aS ?aL ?_; (case aR => first | (have hz_ := (Kd.C_below HR401.out HB.out); rw [show ((l0.take ((wrap64 ((ji14) + (wrap64 ((wrap64 ((wrap64 (rd l0 x5_1)) * 256)) + (wrap64 (rd l0 (ji7))))))) : Int).toNat).drop ((ji14) : Int).toNat).length = ((wrap64 ((ji14) + (wrap64 ((wrap64 ((wrap64 (rd l0 x5_1)) * 256)) + (wrap64 (rd l0 (ji7))))))).toNat - (ji14).toNat) from (by rw [List.length_drop, List.length_take]; have h_ : ((wrap64 ((ji14) + (wrap64 ((wrap64 ((wrap64 (rd l0 x5_1)) * 256)) + (wrap64 (rd l0 (ji7))))))) : Int) ≤ (l0.length : Int) := q_d; omega)] at hz_; exact hz_) | (rw [← show ((l0.take ((wrap64 ((ji14) + (wrap64 ((wrap64 ((wrap64 (rd l0 x5_1)) * 256)) + (wrap64 (rd l0 (ji7))))))) : Int).toNat).drop ((ji14) : Int).toNat).length = ((wrap64 ((ji14) + (wrap64 ((wrap64 ((wrap64 (rd l0 x5_1)) * 256)) + (wrap64 (rd l0 (ji7))))))).toNat - (ji14).toNat) from (by rw [List.length_drop, List.length_take]; have h_ : ((wrap64 ((ji14) + (wrap64 ((wrap64 ((wrap64 (rd l0 x5_1)) * 256)) + (wrap64 (rd l0 (ji7))))))) : Int) ≤ (l0.length : Int) := q_d; omega)]; repeat (first | exact (Kd.C_below HR401.out HB.out) | (with_reducible refine Kd.C_alloc ?_ _) | (with_reducible refine Kd.C_drewN ?_ _) | (with_reducible refine Kd.C_drew ?_))) | (repeat (first | exact (Kd.C_below HR401.out HB.out) | (with_reducible refine Kd.C_alloc ?_ _) | (with_reducible refine Kd.C_drewN ?_ _) | (with_reducible refine Kd.C_drew ?_)))); (case aB => exact bq); (case aF => exact (fun _ _ => trivial)); (case aO => exact (q_r (HO407.out))); (case aS => exact (below_size bq)); (case aL => have := LMc26.out; have hlx_ := (show ((l0.take ((wrap64 ((ji14) + (wrap64 ((wrap64 ((wrap64 (rd l0 x5_1)) * 256)) + (wrap64 (rd l0 (ji7))))))) : Int).toNat).drop ((ji14) : Int).toNat).length = ((wrap64 ((ji14) + (wrap64 ((wrap64 ((wrap64 (rd l0 x5_1)) * 256)) + (wrap64 (rd l0 (ji7))))))).toNat - (ji14).toNat) from (by rw [List.length_drop, List.length_take]; have h_ : ((wrap64 ((ji14) + (wrap64 ((wrap64 ((wrap64 (rd l0 x5_1)) * 256)) + (wrap64 (rd l0 (ji7))))))) : Int) ≤ (l0.length : Int) := q_d; omega)); omega); intro v409 w31 ho hb hg hat; rw [← Ny408.out] at ho; have n0_ := Aside0.mk (Kd.S_after (ok := (fun _ => True)) (q_s (HO_4.out)) hg hat); have n1_ := Aside0.mk (hb); have n2_ := Aside0.mk (ho); revert n0_ n1_ n2_; clear HO_4 HB HO407; intro HO_4 HB HO410; clear ho hb hg hat; obtain ⟨Ao33, co33, eo33⟩ := Kd.R_slice HO410.out; subst eo33) | ((with_reducible refine gate_builtin (b := .append) (xs := #[.tmp 67, .tmp 71]) rfl ?_); (try (refine gate_guard (by rfl) ?_; dsimp only)); at_builtin; refine Kd.S_append (Kd.slice 5 (Kd.int .u8)) (w0 := w) w.heap.size rfl (.tmp 67) (.tmp 71) 40 22 (.slice none 0 0) 24 rfl Try.underlying40 info22 rfl (by decide) (by omega) u4 x4_1 y408 [.slice Ao33 y408.length co33] (fun _ => True) (fun k_ => some k_ = (.slice Ao33 y408.length co33 : Value).ownBlock) rfl rfl ?aP (fun k_ hk_ => ((Kd.R_mono (ok' := fun k_ => ((fun _ => True)) k_ ∧ some k_ ≠ (u4 : Value).ownBlock) (Kd.R_apart' (HO410.out) (Kd.S_typed HO_4.out) (by decide)) (fun k_ hk => ⟨trivial, hk.2⟩))).1 k_ hk_.symm) ?aF ?aO ?aB ?aS ?aL ?_; (case aP => exact Kd.M_row (Kd.R_mono (Kd.R_tight rfl (Kd.R_mono (ok' := fun k_ => ((fun _ => True)) k_ ∧ some k_ ≠ (u4 : Value).ownBlock) (Kd.R_apart' (HO410.out) (Kd.S_typed HO_4.out) (by decide)) (fun k_ hk => ⟨trivial, hk.2⟩))) (fun _ h_ => h_))); (case aB => exact bq); (case aF => exact (fun _ _ => trivial)); (case aO => exact (by (with_reducible repeat (first | apply Kd.S_alloc | apply Kd.S_drewN | apply Kd.S_drew)); exact Kd.S_mono HO_4.out (fun k_ hk => ⟨trivial, fun e_ => hk.2 e_⟩))); (case aS => exact (below_size bq)); (case aL => have := LMc27.out; omega); intro v412 w32 ho hb hg hat; rw [← Ny411.out] at ho; have n0_ := Aside0.mk (hb); have n1_ := Aside0.mk (ho); revert n0_ n1_; clear HB HO_4 HO410; intro HB HO413; clear ho hb hg hat)))
                     go_roundg kj9
                     case measure => have := HK1.out; have := HJ9.out; omega
                     case rel => exact ⟨(y411), (wrap64 ((ji14) + (wrap64 ((wrap64 ((wrap64 (rd l0 x5_1)) * 256)) + (wrap64 (rd l0 (ji7))))))), (by first | rfl | (simp; done) | (simp only [← hji7, ← hji14] <;> (first | rfl | simp)) | (simp [*]; done)), H', ⟨by have := HK1.out; have := HJ9.out; omega⟩, ⟨q_s (HO413.out)⟩, ⟨bq⟩⟩
                    ·rw [if_neg c27] at H
                     exact absurd H (by simp)
                   ·rw [if_neg c26] at H
                    exact absurd H (by simp)
                  ·rw [if_neg c25] at H
                   have c25b0 : (t402 == (wrap64 ((wrap64 ((wrap64 (rd l0 (ji19))) * 256)) + (wrap64 (rd l0 (ji22)))))) = false := beq_eq_false_iff_ne.mpr c25
                   have c25b1 : (t402 != (wrap64 ((wrap64 ((wrap64 (rd l0 (ji19))) * 256)) + (wrap64 (rd l0 (ji22)))))) = true := bne_iff_ne.mpr c25
                   simp only [Option.some.injEq, Prod.mk.injEq] at H
                   obtain ⟨rfl, rfl⟩ := H
                   obtain ⟨i034, hi034, _, hsz34, _⟩ := info_parts info5
                   obtain ⟨A34, hcut34, hA34, hC34⟩ := print_mid_of (P := Try.prog) (Value.int .u8) 0 22 5 .i64 .i64 Try.underlying22 hi034 hsz34 (some ad399) c0 l0 (ji14) (wrap64 ((ji14) + (wrap64 ((wrap64 ((wrap64 (rd l0 x5_1)) * 256)) + (wrap64 (rd l0 (ji7))))))) q_d (by first | omega | exact q_d) q_d HC0.out
                   have HR401 := Aside0.mk (Kd.C_of_reads (h1 := fun _ => rfl) (hA34 _ (Kd.reads_of_C HR0.out)))
                   have HC401 := Aside0.mk hC34
                   clear hA34 hC34 hi034 hsz34
                   go_wp2_with (first | (go_at_call 78; (refine calls_of_args (args' := #[.slice _ ((l0.take ((wrap64 ((ji14) + (wrap64 ((wrap64 ((wrap64 (rd l0 x5_1)) * 256)) + (wrap64 (rd l0 (ji7))))))) : Int).toNat).drop ((ji14) : Int).toNat).length _]) (by simp only [List.length_drop, List.length_take]; rw [Nat.min_eq_left (by have h_ : ((wrap64 ((ji14) + (wrap64 ((wrap64 ((wrap64 (rd l0 x5_1)) * 256)) + (wrap64 (rd l0 (ji7))))))) : Int) ≤ (l0.length : Int) := q_d; omega)]) ?_); (with_reducible refine (spec_CheckOf.calls kj9 _ _ ((l0.take ((wrap64 ((ji14) + (wrap64 ((wrap64 ((wrap64 (rd l0 x5_1)) * 256)) + (wrap64 (rd l0 (ji7))))))) : Int).toNat).drop ((ji14) : Int).toNat) t402 _ ?side1 ?side2 A18.out).mono ?_); (case side1 => exact q_c ((Kd.C_below HR401.out HB.out))); (case side2 => exact HC401.out); rintro e w' ⟨rfl, ⟨nd, rfl⟩⟩; (try first | exact ⟨rfl, _, World.drewN_drewN _ _ _⟩ | exact ⟨rfl, _, Eq.trans (World.drewN_drewN _ _ _) (congrArg (World.drewN _) (Nat.add_assoc _ _ _))⟩); have p403 : 0 ≤ ((ji19) : Int) := q_d; have q403 : (ji19) < (l0.length : Int) := q_d; obtain ⟨ad403, e403, hx403_0⟩ := Kd.at_int HR0.out (ji19) p403 q403; obtain rfl : ad399 = ad403 := (by injection e403); replace hx403_0 := q_x HB.out hx403_0; replace p403 := eq_true p403; replace q403 := eq_true q403; have p404 : 0 ≤ ((ji22) : Int) := q_d; have q404 : (ji22) < (l0.length : Int) := q_d; obtain ⟨ad404, e404, hx404_0⟩ := Kd.at_int HR0.out (ji22) p404 q404; obtain rfl : ad399 = ad404 := (by injection e404); replace hx404_0 := q_x HB.out hx404_0; replace p404 := eq_true p404; replace q404 := eq_true q404))
                   repeat (go_quiet (first | (go_at_call 78; (refine calls_of_args (args' := #[.slice _ ((l0.take ((wrap64 ((ji14) + (wrap64 ((wrap64 ((wrap64 (rd l0 x5_1)) * 256)) + (wrap64 (rd l0 (ji7))))))) : Int).toNat).drop ((ji14) : Int).toNat).length _]) (by simp only [List.length_drop, List.length_take]; rw [Nat.min_eq_left (by have h_ : ((wrap64 ((ji14) + (wrap64 ((wrap64 ((wrap64 (rd l0 x5_1)) * 256)) + (wrap64 (rd l0 (ji7))))))) : Int) ≤ (l0.length : Int) := q_d; omega)]) ?_); (with_reducible refine (spec_CheckOf.calls kj9 _ _ ((l0.take ((wrap64 ((ji14) + (wrap64 ((wrap64 ((wrap64 (rd l0 x5_1)) * 256)) + (wrap64 (rd l0 (ji7))))))) : Int).toNat).drop ((ji14) : Int).toNat) t402 _ ?side1 ?side2 A18.out).mono ?_); (case side1 => exact q_c ((Kd.C_below HR401.out HB.out))); (case side2 => exact HC401.out); rintro e w' ⟨rfl, ⟨nd, rfl⟩⟩; (try first | exact ⟨rfl, _, World.drewN_drewN _ _ _⟩ | exact ⟨rfl, _, Eq.trans (World.drewN_drewN _ _ _) (congrArg (World.drewN _) (Nat.add_assoc _ _ _))⟩); have p403 : 0 ≤ ((ji19) : Int) := q_d; have q403 : (ji19) < (l0.length : Int) := q_d; obtain ⟨ad403, e403, hx403_0⟩ := Kd.at_int HR0.out (ji19) p403 q403; obtain rfl : ad399 = ad403 := (by injection e403); replace hx403_0 := q_x HB.out hx403_0; replace p403 := eq_true p403; replace q403 := eq_true q403; have p404 : 0 ≤ ((ji22) : Int) := q_d; have q404 : (ji22) < (l0.length : Int) := q_d; obtain ⟨ad404, e404, hx404_0⟩ := Kd.at_int HR0.out (ji22) p404 q404; obtain rfl : ad399 = ad404 := (by injection e404); replace hx404_0 := q_x HB.out hx404_0; replace p404 := eq_true p404; replace q404 := eq_true q404)); (try simp only [i64_w]); try go_wp2_with (first | (go_at_call 78; (refine calls_of_args (args' := #[.slice _ ((l0.take ((wrap64 ((ji14) + (wrap64 ((wrap64 ((wrap64 (rd l0 x5_1)) * 256)) + (wrap64 (rd l0 (ji7))))))) : Int).toNat).drop ((ji14) : Int).toNat).length _]) (by simp only [List.length_drop, List.length_take]; rw [Nat.min_eq_left (by have h_ : ((wrap64 ((ji14) + (wrap64 ((wrap64 ((wrap64 (rd l0 x5_1)) * 256)) + (wrap64 (rd l0 (ji7))))))) : Int) ≤ (l0.length : Int) := q_d; omega)]) ?_); (with_reducible refine (spec_CheckOf.calls kj9 _ _ ((l0.take ((wrap64 ((ji14) + (wrap64 ((wrap64 ((wrap64 (rd l0 x5_1)) * 256)) + (wrap64 (rd l0 (ji7))))))) : Int).toNat).drop ((ji14) : Int).toNat) t402 _ ?side1 ?side2 A18.out).mono ?_); (case side1 => exact q_c ((Kd.C_below HR401.out HB.out))); (case side2 => exact HC401.out); rintro e w' ⟨rfl, ⟨nd, rfl⟩⟩; (try first | exact ⟨rfl, _, World.drewN_drewN _ _ _⟩ | exact ⟨rfl, _, Eq.trans (World.drewN_drewN _ _ _) (congrArg (World.drewN _) (Nat.add_assoc _ _ _))⟩); have p403 : 0 ≤ ((ji19) : Int) := q_d; have q403 : (ji19) < (l0.length : Int) := q_d; obtain ⟨ad403, e403, hx403_0⟩ := Kd.at_int HR0.out (ji19) p403 q403; obtain rfl : ad399 = ad403 := (by injection e403); replace hx403_0 := q_x HB.out hx403_0; replace p403 := eq_true p403; replace q403 := eq_true q403; have p404 : 0 ≤ ((ji22) : Int) := q_d; have q404 : (ji22) < (l0.length : Int) := q_d; obtain ⟨ad404, e404, hx404_0⟩ := Kd.at_int HR0.out (ji22) p404 q404; obtain rfl : ad399 = ad404 := (by injection e404); replace hx404_0 := q_x HB.out hx404_0; replace p404 := eq_true p404; replace q404 := eq_true q404)))
                   go_ret2
                   exact ⟨_, by first | rfl | (simp [errW_none, errW_some] <;> rfl) | (simp only [← hji7, ← hji14, ← hji19, ← hji22]; first | rfl | (simp [errW_none, errW_some] <;> rfl)) | (simp [*, errW_none, errW_some] <;> rfl), q_s (HO_4.out), bq⟩
                 ·rw [if_neg c24] at H
                  exact absurd H (by simp)
                ·rw [if_neg c23] at H
                 exact absurd H (by simp)
               ·rw [if_neg c21] at H
                exact absurd H (by simp)
              ·rw [if_neg c20] at H
               exact absurd H (by simp)
             ·rw [if_neg c17] at H
              exact absurd H (by simp)
            ·rw [if_neg c16] at H
             exact absurd H (by simp)
           ·rw [if_neg c15] at H
            exact absurd H (by simp)
       ·rw [if_neg c9] at H
        exact absurd H (by simp)
      ·rw [if_neg c8] at H
       exact absurd H (by simp)
     ·rw [if_neg c6] at H
      exact absurd H (by simp)
    ·rw [if_neg c5] at H
     exact absurd H (by simp)
   ·rw [if_neg c4] at H
    have c4b0 := decide_eq_false c4
    clear c4
    simp only [Option.some.injEq, Prod.mk.injEq] at H
    obtain ⟨rfl, rfl⟩ := H
    go_wp2
    repeat (go_quiet (fail); try go_wp2)
    go_ret2
    exact ⟨_, q_e, q_s (HO_4.out), bq⟩

/-! ### spec_UnframeAll: function 37 -/
def spec_UnframeAll.f (k : Nat) (l0 : List Int) : Option (Int × Int × (List (List Int))) := if (l0.length : Int) > 6000 then (some (2, 0, ([] : List (List Int)))) else ((spec_l3Records.f k l0).bind fun bt415 => (some (0, bt415.2, bt415.1)))
set_option maxHeartbeats 8000000 in
set_option maxRecDepth 100000 in
theorem spec_UnframeAll.calls (k : Nat) (A0 : Option Addr) (c0 : Nat) (l0 : List Int) (r1 : Int) (r2 : Int) (r3 : List (List Int)) (w : World) (hr0 : Kd.C (Kd.int .u8) w A0 l0.length l0) (hc0 : l0.length ≤ c0) (h : spec_UnframeAll.f k l0 = some (r1, r2, r3)) :
  Calls Try.prog 37 #[.slice A0 l0.length c0] w fun e w' => ∃ v2_ : Value, e = .returned (.agg #[.int .i64 r1, .int .i64 r2, v2_]) ∧ Kd.S (Kd.slice 5 (Kd.int .u8)) 22 w' w.heap.size (fun _ => True) v2_ r3 ∧ Below w.heap.size w w' := by
 have hu43 := Try.underlying43
 have HR0 := Aside0.mk hr0
 have HC0 := Aside0.mk hc0
 clear hr0 hc0
 have HB := Aside0.mk (Below.refl w.heap.size w)
 have H : (if (l0.length : Int) > 6000 then (some (2, 0, ([] : List (List Int)))) else ((spec_l3Records.f k l0).bind fun bt415 => (some (0, bt415.2, bt415.1)))) = some (r1, r2, r3) := h
 clear h
 by_cases c2 : (l0.length : Int) > 6000
 ·rw [if_pos c2] at H
  have c2b0 := decide_eq_true c2
  have c2b1 : decide (6000 < l0.length) = true := decide_eq_true (by omega)
  clear c2
  simp only [Option.some.injEq, Prod.mk.injEq] at H
  obtain ⟨rfl, rfl, rfl⟩ := H
  go_enter Try.func37, Try.ntmps37
  go_wp2_with (first | ((with_reducible refine gate_dst (N := 2) rfl ?_); refine q_box (N := 2) (cs := #[.int .i64 0, .int .i64 0, .slice none 0 0]) (t := 43) ?_; intro gb414 hg w3 hbox hb; have n0_ := Aside0.mk (below_step bq hb); have n1_ := Aside0.mk (hbox); have n2_ := Aside0.mk ((q_g hg bq : w.heap.size ≤ gb414)); have n3_ := Aside0.mk ((q_g hg bq : w.heap.size ≤ gb414)); revert n0_ n1_ n2_ n3_; clear HB; intro HB BK414 GW414 GE414; clear hb hbox hg; obtain ⟨hcz4_0, hcz4_1, hcz4_2, hfz4_0, hfz4_1, hfz4_2⟩ := q_3 BK414.out))
  refine bodyPost_ret (results_cell_row rfl _ _ gb414 43 #[.int .i64 2, .int .i64 0, .slice none 0 0] (0, 0) _ rfl (by (with_reducible repeat (first | refine blk_drewN ?_ _ | refine blk_drew ?_ | refine blk_alloc ?_ _)); refine blk_put (cs := #[.int .i64 2, .int .i64 0, .slice none 0 0]) ?_ 2 _ rfl; (with_reducible repeat (first | refine blk_drewN ?_ _ | refine blk_drew ?_ | refine blk_alloc ?_ _)); refine blk_put (cs := #[.int .i64 2, .int .i64 0, .slice none 0 0]) ?_ 1 _ rfl; (with_reducible repeat (first | refine blk_drewN ?_ _ | refine blk_drew ?_ | refine blk_alloc ?_ _)); refine blk_put (cs := #[.int .i64 0, .int .i64 0, .slice none 0 0]) ?_ 0 _ rfl; (with_reducible repeat (first | refine blk_drewN ?_ _ | refine blk_drew ?_ | refine blk_alloc ?_ _)); exact BK414.out) Try.underlying43 rfl (by kernel_rfl)) rfl ?_
  exact ⟨_, q_e, by first | exact Kd.S_nil _ _ _ _ _ | exact Kd.N_nil _ _ _ _ _ | exact Kd.V_nil _ _ _ _ _ | exact Kd.Q_nil _ _ _ _ _ | exact Kd.R_nil _ _ _ _ _, bq⟩
 ·rw [if_neg c2] at H
  have c2b0 := decide_eq_false c2
  have c2b1 : decide (6000 < l0.length) = false := decide_eq_false (by omega)
  clear c2
  replace H := Option.bind_eq_some_iff.mp H
  obtain ⟨⟨t415, t416⟩, A50, H⟩ := H
  replace H : (some (0, t416, t415)) = some (r1, r2, r3) := H
  have A5 := Aside0.mk A50
  clear A50
  simp only [Option.some.injEq, Prod.mk.injEq] at H
  obtain ⟨rfl, rfl, rfl⟩ := H
  go_enter Try.func37, Try.ntmps37
  go_wp2_with (first | ((with_reducible refine gate_dst (N := 2) rfl ?_); refine q_box (N := 2) (cs := #[.int .i64 0, .int .i64 0, .slice none 0 0]) (t := 43) ?_; intro gb414 hg w6 hbox hb; have n0_ := Aside0.mk (below_step bq hb); have n1_ := Aside0.mk (hbox); have n2_ := Aside0.mk ((q_g hg bq : w.heap.size ≤ gb414)); have n3_ := Aside0.mk ((q_g hg bq : w.heap.size ≤ gb414)); revert n0_ n1_ n2_ n3_; clear HB; intro HB BK414 GW414 GE414; clear hb hbox hg) | ((with_reducible refine gate_callee (f := 64) rfl ?_); refine goesLq (some 11) rfl rfl Try.func64 (by kernel_rfl) rfl #[.slice A0 l0.length c0] rfl ?_; (with_reducible refine (spec_l3Records.calls k _ _ l0 t415 t416 _ ?side1 ?side2 A5.out).mono ?_); (case side1 => exact q_c ((Kd.C_below HR0.out HB.out))); (case side2 => exact HC0.out); rintro e w7 ⟨v417, rfl, ho0, hb⟩; refine ⟨_, rfl, ?_⟩; have n0_ := Aside0.mk (Kd.S_lower ho0 (below_size bq)); have n1_ := Aside0.mk (blk_below (q_b BK414.out) hb); have n2_ := Aside0.mk (below_step bq hb); revert n0_ n1_ n2_; clear BK414 HB; intro HO418 BK414 HB; (try clear hb); (try clear hb2); (try clear hk); (try clear hi); (try clear ho0); obtain ⟨Ao8, co8, eo8⟩ := Kd.S_slice HO418.out; subst eo8; obtain ⟨hcz9_0, hcz9_1, hcz9_2, hfz9_0, hfz9_1, hfz9_2⟩ := q_3 BK414.out))
  refine bodyPost_ret (results_cell_row rfl _ _ gb414 43 #[.int .i64 0, .int .i64 t416, .slice Ao8 t415.length co8] (0, 0) _ rfl (by (with_reducible repeat (first | refine blk_drewN ?_ _ | refine blk_drew ?_ | refine blk_alloc ?_ _)); refine blk_put (cs := #[.int .i64 0, .int .i64 t416, .slice none 0 0]) ?_ 2 _ rfl; (with_reducible repeat (first | refine blk_drewN ?_ _ | refine blk_drew ?_ | refine blk_alloc ?_ _)); refine blk_put (cs := #[.int .i64 0, .int .i64 0, .slice none 0 0]) ?_ 1 _ rfl; (with_reducible repeat (first | refine blk_drewN ?_ _ | refine blk_drew ?_ | refine blk_alloc ?_ _)); refine blk_put (cs := #[.int .i64 0, .int .i64 0, .slice none 0 0]) ?_ 0 _ rfl; (with_reducible repeat (first | refine blk_drewN ?_ _ | refine blk_drew ?_ | refine blk_alloc ?_ _)); exact BK414.out) Try.underlying43 rfl (by kernel_rfl)) rfl ?_
  exact ⟨_, q_e, by (with_reducible repeat (first | apply Kd.S_alloc | apply Kd.S_drewN | apply Kd.S_drew)); exact Kd.S_mono (Kd.S_far (p := ⟨gb414, 2, none⟩) (Kd.S_far (p := ⟨gb414, 1, none⟩) (Kd.S_far (p := ⟨gb414, 0, none⟩) (Kd.S_types HO418.out BK414.out (by decide)) (fun _ hk => hk.2) (.int .i64 0)) (fun _ hk => hk.2) (.int .i64 t416)) (fun _ hk => hk.2) (.slice Ao8 t415.length co8)) (fun _ hk => trivial), bq⟩

/-! ### spec_ReadLog: function 49 -/
def spec_ReadLog.f (k : Nat) (l0_0 : List Int) (l0_1 : List Int) : Option (Int × Int × (List (List Int))) := (spec_LogFault.f l0_0 l0_1).bind fun t421 => (if t421 = 0 then ((spec_l4Sync.f l0_0 l0_1).bind fun bt422 => ((spec_UnframeAll.f k bt422.1).bind fun bt428 => (some (bt428.1, bt428.2.1, bt428.2.2)))) else (some (t421, 0, ([] : List (List Int)))))
attribute [local go_sem] Instr.field asAgg
set_option maxHeartbeats 8000000 in
set_option maxRecDepth 100000 in
theorem spec_ReadLog.calls (k : Nat) (A0_0 : Option Addr) (c0_0 : Nat) (l0_0 : List Int) (A0_1 : Option Addr) (c0_1 : Nat) (l0_1 : List Int) (r1 : Int) (r2 : Int) (r3 : List (List Int)) (w : World) (hr0_0 : Kd.C (Kd.int .u8) w A0_0 l0_0.length l0_0) (hc0_0 : l0_0.length ≤ c0_0) (hr0_1 : Kd.C (Kd.int .u8) w A0_1 l0_1.length l0_1) (hc0_1 : l0_1.length ≤ c0_1) (h : spec_ReadLog.f k l0_0 l0_1 = some (r1, r2, r3)) :
  Calls Try.prog 49 #[.agg #[.slice A0_0 l0_0.length c0_0, .slice A0_1 l0_1.length c0_1]] w fun e w' => ∃ v2_ : Value, e = .returned (.agg #[.int .i64 r1, .int .i64 r2, v2_]) ∧ Kd.S (Kd.slice 5 (Kd.int .u8)) 22 w' w.heap.size (fun _ => True) v2_ r3 ∧ Below w.heap.size w w' := by
 have hu27 := Try.underlying27
 have hu43 := Try.underlying43
 have HR0_0 := Aside0.mk hr0_0
 have HC0_0 := Aside0.mk hc0_0
 clear hr0_0 hc0_0
 have HR0_1 := Aside0.mk hr0_1
 have HC0_1 := Aside0.mk hc0_1
 clear hr0_1 hc0_1
 have HB := Aside0.mk (Below.refl w.heap.size w)
 have H : ((spec_LogFault.f l0_0 l0_1).bind fun t421 => (if t421 = 0 then ((spec_l4Sync.f l0_0 l0_1).bind fun bt422 => ((spec_UnframeAll.f k bt422.1).bind fun bt428 => (some (bt428.1, bt428.2.1, bt428.2.2)))) else (some (t421, 0, ([] : List (List Int)))))) = some (r1, r2, r3) := h
 clear h
 replace H := Option.bind_eq_some_iff.mp H
 obtain ⟨t421, A20, H⟩ := H
 replace H : (if t421 = 0 then ((spec_l4Sync.f l0_0 l0_1).bind fun bt422 => ((spec_UnframeAll.f k bt422.1).bind fun bt428 => (some (bt428.1, bt428.2.1, bt428.2.2)))) else (some (t421, 0, ([] : List (List Int))))) = some (r1, r2, r3) := H
 have A2 := Aside0.mk A20
 clear A20
 by_cases c3 : t421 = 0
 ·rw [if_pos c3] at H
  have c3b0 : (t421 == 0) = true := beq_iff_eq.mpr c3
  have c3b1 : (t421 != 0) = false := bne_eq_false_iff_eq.mpr c3
  clear c3
  replace H := Option.bind_eq_some_iff.mp H
  obtain ⟨⟨t422, t425⟩, A40, H⟩ := H
  replace H : ((spec_UnframeAll.f k t422).bind fun bt428 => (some (bt428.1, bt428.2.1, bt428.2.2))) = some (r1, r2, r3) := H
  have A4 := Aside0.mk A40
  clear A40
  replace H := Option.bind_eq_some_iff.mp H
  obtain ⟨⟨t428, t429, t430⟩, A50, H⟩ := H
  replace H : (some (t428, t429, t430)) = some (r1, r2, r3) := H
  have A5 := Aside0.mk A50
  clear A50
  simp only [Option.some.injEq, Prod.mk.injEq] at H
  obtain ⟨rfl, rfl, rfl⟩ := H
  go_enter Try.func49, Try.ntmps49
  go_wp2_with (first | ((with_reducible refine gate_dst (N := 1) rfl ?_); refine q_box (N := 1) (cs := #[.slice A0_0 l0_0.length c0_0, .slice A0_1 l0_1.length c0_1]) (t := 27) ?_; intro gb419 hg w6 hbox hb; have n0_ := Aside0.mk (below_step bq hb); have n1_ := Aside0.mk (hbox); have n2_ := Aside0.mk ((q_g hg bq : w.heap.size ≤ gb419)); have n3_ := Aside0.mk ((q_g hg bq : w.heap.size ≤ gb419)); revert n0_ n1_ n2_ n3_; clear HB; intro HB BK419 GW419 GE419; clear hb hbox hg) | ((with_reducible refine gate_dst (N := 2) rfl ?_); refine q_box (N := 2) (cs := #[.int .i64 0, .int .i64 0, .slice none 0 0]) (t := 43) ?_; intro gb420 hg w7 hbox hb; have n0_ := Aside0.mk (blk_below (q_b BK419.out) hb); have n1_ := Aside0.mk (below_step bq hb); have n2_ := Aside0.mk (hbox); have n3_ := Aside0.mk ((q_g hg bq : w.heap.size ≤ gb420)); have n4_ := Aside0.mk ((q_g hg bq : w.heap.size ≤ gb420)); have n5_ := Aside0.mk ((q_n hg (q_b BK419.out) : gb419 ≠ gb420)); have n6_ := Aside0.mk ((q_m hg (q_b BK419.out) : gb420 ≠ gb419)); revert n0_ n1_ n2_ n3_ n4_ n5_ n6_; clear BK419 HB; intro BK419 HB BK420 GW420 GE420 NB419_420 NB420_419; clear hb hbox hg; have hnb8 := NB419_420.out; have hnc8 := NB420_419.out; obtain ⟨hcz9_0, hcz9_1, hfz9_0, hfz9_1⟩ := q_2 BK419.out) | ((with_reducible refine gate_callee (f := 15) rfl ?_); refine goesLq (some 5) rfl rfl Try.func15 (by kernel_rfl) rfl #[.agg #[.slice A0_0 l0_0.length c0_0, .slice A0_1 l0_1.length c0_1]] rfl ?_; (with_reducible refine (spec_LogFault.calls _ _ l0_0 _ _ l0_1 t421 _ ?side1 ?side2 ?side3 ?side4 A2.out).mono ?_); (case side1 => exact q_c ((Kd.C_below HR0_0.out HB.out))); (case side2 => exact HC0_0.out); (case side3 => exact q_c ((Kd.C_below HR0_1.out HB.out))); (case side4 => exact HC0_1.out); rintro e w10 ⟨rfl, hb⟩; refine ⟨_, rfl, ?_⟩; have n0_ := Aside0.mk (blk_below (q_b BK419.out) hb); have n1_ := Aside0.mk (blk_below (q_b BK420.out) hb); have n2_ := Aside0.mk (below_step bq hb); revert n0_ n1_ n2_; clear BK419 BK420 HB; intro BK419 BK420 HB; (try clear hb); (try clear hb2); (try clear hk); (try clear hi); obtain ⟨hcz11_0, hcz11_1, hfz11_0, hfz11_1⟩ := q_2 BK419.out) | ((with_reducible refine gate_callee (f := 61) rfl ?_); refine goesLq (some 11) rfl rfl Try.func61 (by kernel_rfl) rfl #[.agg #[.slice A0_0 l0_0.length c0_0, .slice A0_1 l0_1.length c0_1]] rfl ?_; (with_reducible refine (spec_l4Sync.calls _ _ l0_0 _ _ l0_1 t422 t425 _ ?side1 ?side2 ?side3 ?side4 A4.out).mono ?_); (case side1 => exact q_c ((Kd.C_below HR0_0.out HB.out))); (case side2 => exact HC0_0.out); (case side3 => exact q_c ((Kd.C_below HR0_1.out HB.out))); (case side4 => exact HC0_1.out); rintro e w12 ⟨v423, v426, rfl, ho0, ho1, hb⟩; refine ⟨_, rfl, ?_⟩; have n0_ := Aside0.mk (Kd.R_lower ho0 (below_size bq)); have n1_ := Aside0.mk (Kd.R_lower ho1 (below_size bq)); have n2_ := Aside0.mk (blk_below (q_b BK419.out) hb); have n3_ := Aside0.mk (blk_below (q_b BK420.out) hb); have n4_ := Aside0.mk (below_step bq hb); revert n0_ n1_ n2_ n3_ n4_; clear BK419 BK420 HB; intro HO424 HO427 BK419 BK420 HB; (try clear hb); (try clear hb2); (try clear hk); (try clear hi); (try clear ho0); (try clear ho1); obtain ⟨Ao13, co13, eo13⟩ := Kd.R_slice HO424.out; subst eo13) | ((with_reducible refine gate_callee (f := 37) rfl ?_); refine goesLq (some 13) rfl rfl Try.func37 (by kernel_rfl) rfl #[.slice Ao13 t422.length co13] rfl ?_; (with_reducible refine (spec_UnframeAll.calls k _ _ t422 t428 t429 t430 _ ?side1 ?side2 A5.out).mono ?_); (case side1 => exact q_c ((Kd.R_reads' HO424.out).2.2)); (case side2 => exact (Kd.R_reads' HO424.out).2.1); rintro e w14 ⟨v431, rfl, ho0, hb⟩; refine ⟨_, rfl, ?_⟩; have n0_ := Aside0.mk (Kd.R_below (q_r (HO424.out)) hb); have n1_ := Aside0.mk (Kd.R_below (q_r (HO427.out)) hb); have n2_ := Aside0.mk (Kd.S_lower (Kd.S_new' (Kd.S_new' ho0 (Kd.R_lt (q_r (HO424.out)))) (Kd.R_lt (q_r (HO427.out)))) (below_size bq)); have n3_ := Aside0.mk (blk_below (q_b BK419.out) hb); have n4_ := Aside0.mk (blk_below (q_b BK420.out) hb); have n5_ := Aside0.mk (below_step bq hb); revert n0_ n1_ n2_ n3_ n4_ n5_; clear HO424 HO427 BK419 BK420 HB; intro HO424 HO427 HO432 BK419 BK420 HB; (try clear hb); (try clear hb2); (try clear hk); (try clear hi); (try clear ho0); obtain ⟨hcz15_0, hcz15_1, hcz15_2, hfz15_0, hfz15_1, hfz15_2⟩ := q_3 BK420.out; obtain ⟨Ao16, co16, eo16⟩ := Kd.S_slice HO432.out; subst eo16))
  refine bodyPost_ret (results_cell_row rfl _ _ gb420 43 #[.int .i64 t428, .int .i64 t429, .slice Ao16 t430.length co16] (0, 0) _ rfl (by (with_reducible repeat (first | refine blk_drewN ?_ _ | refine blk_drew ?_ | refine blk_alloc ?_ _)); refine blk_put (cs := #[.int .i64 t428, .int .i64 t429, .slice none 0 0]) ?_ 2 _ rfl; (with_reducible repeat (first | refine blk_drewN ?_ _ | refine blk_drew ?_ | refine blk_alloc ?_ _)); refine blk_put (cs := #[.int .i64 t428, .int .i64 0, .slice none 0 0]) ?_ 1 _ rfl; (with_reducible repeat (first | refine blk_drewN ?_ _ | refine blk_drew ?_ | refine blk_alloc ?_ _)); refine blk_put (cs := #[.int .i64 0, .int .i64 0, .slice none 0 0]) ?_ 0 _ rfl; (with_reducible repeat (first | refine blk_drewN ?_ _ | refine blk_drew ?_ | refine blk_alloc ?_ _)); exact BK420.out) Try.underlying43 rfl (by kernel_rfl)) rfl ?_
  exact ⟨_, q_e, by (with_reducible repeat (first | apply Kd.S_alloc | apply Kd.S_drewN | apply Kd.S_drew)); exact Kd.S_mono (Kd.S_far (p := ⟨gb420, 2, none⟩) (Kd.S_far (p := ⟨gb420, 1, none⟩) (Kd.S_far (p := ⟨gb420, 0, none⟩) (Kd.S_types HO432.out BK420.out (by decide)) (fun _ hk => hk.2) (.int .i64 t428)) (fun _ hk => hk.2) (.int .i64 t429)) (fun _ hk => hk.2) (.slice Ao16 t430.length co16)) (fun _ hk => trivial), bq⟩
 ·rw [if_neg c3] at H
  have c3b0 : (t421 == 0) = false := beq_eq_false_iff_ne.mpr c3
  have c3b1 : (t421 != 0) = true := bne_iff_ne.mpr c3
  simp only [Option.some.injEq, Prod.mk.injEq] at H
  obtain ⟨rfl, rfl, rfl⟩ := H
  go_enter Try.func49, Try.ntmps49
  go_wp2_with (first | ((with_reducible refine gate_dst (N := 1) rfl ?_); refine q_box (N := 1) (cs := #[.slice A0_0 l0_0.length c0_0, .slice A0_1 l0_1.length c0_1]) (t := 27) ?_; intro gb419 hg w17 hbox hb; have n0_ := Aside0.mk (below_step bq hb); have n1_ := Aside0.mk (hbox); have n2_ := Aside0.mk ((q_g hg bq : w.heap.size ≤ gb419)); have n3_ := Aside0.mk ((q_g hg bq : w.heap.size ≤ gb419)); revert n0_ n1_ n2_ n3_; clear HB; intro HB BK419 GW419 GE419; clear hb hbox hg) | ((with_reducible refine gate_dst (N := 2) rfl ?_); refine q_box (N := 2) (cs := #[.int .i64 0, .int .i64 0, .slice none 0 0]) (t := 43) ?_; intro gb420 hg w18 hbox hb; have n0_ := Aside0.mk (blk_below (q_b BK419.out) hb); have n1_ := Aside0.mk (below_step bq hb); have n2_ := Aside0.mk (hbox); have n3_ := Aside0.mk ((q_g hg bq : w.heap.size ≤ gb420)); have n4_ := Aside0.mk ((q_g hg bq : w.heap.size ≤ gb420)); have n5_ := Aside0.mk ((q_n hg (q_b BK419.out) : gb419 ≠ gb420)); have n6_ := Aside0.mk ((q_m hg (q_b BK419.out) : gb420 ≠ gb419)); revert n0_ n1_ n2_ n3_ n4_ n5_ n6_; clear BK419 HB; intro BK419 HB BK420 GW420 GE420 NB419_420 NB420_419; clear hb hbox hg; have hnb19 := NB419_420.out; have hnc19 := NB420_419.out; obtain ⟨hcz20_0, hcz20_1, hfz20_0, hfz20_1⟩ := q_2 BK419.out) | ((with_reducible refine gate_callee (f := 15) rfl ?_); refine goesLq (some 5) rfl rfl Try.func15 (by kernel_rfl) rfl #[.agg #[.slice A0_0 l0_0.length c0_0, .slice A0_1 l0_1.length c0_1]] rfl ?_; (with_reducible refine (spec_LogFault.calls _ _ l0_0 _ _ l0_1 t421 _ ?side1 ?side2 ?side3 ?side4 A2.out).mono ?_); (case side1 => exact q_c ((Kd.C_below HR0_0.out HB.out))); (case side2 => exact HC0_0.out); (case side3 => exact q_c ((Kd.C_below HR0_1.out HB.out))); (case side4 => exact HC0_1.out); rintro e w21 ⟨rfl, hb⟩; refine ⟨_, rfl, ?_⟩; have n0_ := Aside0.mk (blk_below (q_b BK419.out) hb); have n1_ := Aside0.mk (blk_below (q_b BK420.out) hb); have n2_ := Aside0.mk (below_step bq hb); revert n0_ n1_ n2_; clear BK419 BK420 HB; intro BK419 BK420 HB; (try clear hb); (try clear hb2); (try clear hk); (try clear hi); obtain ⟨hcz22_0, hcz22_1, hcz22_2, hfz22_0, hfz22_1, hfz22_2⟩ := q_3 BK420.out))
  refine bodyPost_ret (results_cell_row rfl _ _ gb420 43 #[.int .i64 t421, .int .i64 0, .slice none 0 0] (0, 0) _ rfl (by (with_reducible repeat (first | refine blk_drewN ?_ _ | refine blk_drew ?_ | refine blk_alloc ?_ _)); refine blk_put (cs := #[.int .i64 t421, .int .i64 0, .slice none 0 0]) ?_ 2 _ rfl; (with_reducible repeat (first | refine blk_drewN ?_ _ | refine blk_drew ?_ | refine blk_alloc ?_ _)); refine blk_put (cs := #[.int .i64 t421, .int .i64 0, .slice none 0 0]) ?_ 1 _ rfl; (with_reducible repeat (first | refine blk_drewN ?_ _ | refine blk_drew ?_ | refine blk_alloc ?_ _)); refine blk_put (cs := #[.int .i64 0, .int .i64 0, .slice none 0 0]) ?_ 0 _ rfl; (with_reducible repeat (first | refine blk_drewN ?_ _ | refine blk_drew ?_ | refine blk_alloc ?_ _)); exact BK420.out) Try.underlying43 rfl (by kernel_rfl)) rfl ?_
  exact ⟨_, q_e, by first | exact Kd.S_nil _ _ _ _ _ | exact Kd.N_nil _ _ _ _ _ | exact Kd.V_nil _ _ _ _ _ | exact Kd.Q_nil _ _ _ _ _ | exact Kd.R_nil _ _ _ _ _, bq⟩

end Go.Proofs.Ytcdpiejcdeedoaa.PFnCrashLogs
