/- The functions that a law reaches, each as a plain Lean function with the proof that the machine comes to its answer: written by program (the kit's print, turned by wip/gen). No conditions. -/
import Derived.Test.YtooiamkaipdmpaaPFnContractsx0
import Derived.Test.YtooiamkaipdmpaaPFnContractsx1
import Derived.Test.YtooiamkaipdmpaaPFnContractsx3
import Derived.Test.YtooiamkaipdmpaaPFnContractsx4
import Derived.Test.YtooiamkaipdmpaaPFnContractsx7
import Derived.Test.YtooiamkaipdmpaaPFnContractsx10
import Derived.Test.YtooiamkaipdmpaaPFnContractsx12
namespace Go.Proofs.Ytooiamkaipdmpaa.PFnContracts
open Go.RowKit Go.Proofs.YtooiamkaipdmpaaW.PrintWords Go.Proofs.YtooiamkaipdmpaaW.PrintLast Go.Proofs.YtooiamkaipdmpaaW.PrintMore
attribute [local go_sem] max2_int min2_int max_two min_two max_three min_three max_four min_four   -- for this text's walks alone
set_option linter.unusedVariables false
set_option linter.unusedSimpArgs false

attribute [local go_sem high] eqA42
/-! ### laws_FnContracts: function 13 -/
mutual
def laws_FnContracts.l0 : Nat → Int → Int → Int → List (S89) → Int → Int → List (S89) → Int → Int → List (S89) → Int → List Int → Option (Bool)
  | 0, _, _, _, _, _, _, _, _, _, _, _, _ => none
  | k + 1, x7, x9, x358000, x358001, x364000, x364001, x364002, x370000, x370001, x370002, x375000, x375001 => if x9 < (x375001.length : Int) then (if 0 ≤ x9 then ((impl_LegsAt.f k x358000 x358001 (rd x375001 x9)).bind fun bt376 => (if (bt376.2.length : Int) = 0 then (none) else (laws_FnContracts.l0 k (wrap64 (x7 + (bt376.2.length : Int))) (wrap64 (x9 + 1)) x358000 x358001 x364000 x364001 x364002 x370000 x370001 x370002 x375000 x375001))) else (none)) else (laws_FnContracts.l1 k x7 0 x358000 x358001 x364000 x364001 x364002 x370000 x370001 x370002)
def laws_FnContracts.l1 : Nat → Int → Int → Int → List (S89) → Int → Int → List (S89) → Int → Int → List (S89) → Option (Bool)
  | 0, _, _, _, _, _, _, _, _, _, _ => none
  | k + 1, x7, x11, x358000, x358001, x364000, x364001, x364002, x370000, x370001, x370002 => if x11 < 3 then ((impl_SumOf.f k x358000 x358001 x11).bind fun bt381 => ((impl_SumOf.f k x364001 x364002 x11).bind fun bt383 => (if (!(bt381.1 == bt383.1) || (!(bt381.2 == bt383.2))) = true then (none) else (laws_FnContracts.l1 k x7 (wrap64 (x11 + 1)) x358000 x358001 x364000 x364001 x364002 x370000 x370001 x370002)))) else ((impl_ContractFault.f k x364001 x364002).bind fun t385 => (if t385 = 0 then (if x370000 = 0 then ((impl_SameContract.f k x370001 x370002 x358000 x358001).bind fun t386 => (if t386 = true then (some (x7 == (x358001.length : Int))) else (none))) else (none)) else (none)))
end
def laws_FnContracts.f (k : Nat) (l0 : List Int) : Option (Bool) := (laws_lwBig.f l0).bind fun t351 => (if t351 = true then (some true) else ((spec_DrawReverseOf.f k l0).bind fun bt352 => ((impl_ReverseOf.f k bt352.1 bt352.2.1 bt352.2.2).bind fun bt358 => (if bt358.1 = 0 then ((impl_ReverseOf.f k bt358.2.1 bt358.2.2 bt352.1).bind fun bt364 => ((impl_ShardsOf.f k bt352.1 bt352.2.1).bind fun bt370 => (laws_FnContracts.l0 k 0 0 bt352.1 bt352.2.1 bt358.1 bt358.2.1 bt358.2.2 bt364.1 bt364.2.1 bt364.2.2 bt370.1 bt370.2))) else ((spec_ReverseOf.f k bt352.1 bt352.2.1 bt352.2.2).bind fun bt387 => (some (bt387.1 == bt358.1)))))))
def laws_FnContracts.T6 : Bool × List (List Nat × List Nat) := (true, [([], []), ([], []), ([0, 1], [0, 1]), ([2], [2]), ([], []), ([4], [4]), ([3, 5], [3, 5]), ([6, 2, 0, 1, 2, 3, 4, 5, 6], [6])])
def laws_FnContracts.B6 : List Nat := [0, 0, 3, 7, 0, 16, 63, 127]
theorem laws_FnContracts.tab6 : rtab .any (opsOf Try.f13 6) = laws_FnContracts.T6 := by kernel_rfl
theorem laws_FnContracts.bits6 : waitsOk laws_FnContracts.T6.2 laws_FnContracts.B6 = true := by kernel_rfl
def laws_FnContracts.T13 : Bool × List (List Nat × List Nat) := (true, [([], []), ([], []), ([1], [1]), ([], []), ([2, 3], [2, 3]), ([4], [4]), ([0, 5], [0, 5]), ([], []), ([7, 6, 6, 0, 1, 2, 3, 4, 5, 6, 7], [6, 7])])
def laws_FnContracts.B13 : List Nat := [0, 0, 2, 0, 14, 30, 63, 0, 255]
theorem laws_FnContracts.tab13 : rtab .any (opsOf Try.f13 13) = laws_FnContracts.T13 := by kernel_rfl
theorem laws_FnContracts.bits13 : waitsOk laws_FnContracts.T13.2 laws_FnContracts.B13 = true := by kernel_rfl
def laws_FnContracts.T20 : Bool × List (List Nat × List Nat) := (true, [([], []), ([], []), ([0, 1], [0, 1]), ([], []), ([3], [3]), ([], []), ([4, 5, 2], [4, 5]), ([2, 6], [2, 6])])
def laws_FnContracts.B20 : List Nat := [0, 0, 3, 0, 8, 0, 63, 127]
theorem laws_FnContracts.tab20 : rtab .any (opsOf Try.f13 20) = laws_FnContracts.T20 := by kernel_rfl
theorem laws_FnContracts.bits20 : waitsOk laws_FnContracts.T20.2 laws_FnContracts.B20 = true := by kernel_rfl
attribute [local go_sem] Instr.field asAgg
set_option maxHeartbeats 8000000 in
set_option maxRecDepth 100000 in
theorem laws_FnContracts.calls (k : Nat) (A0 : Option Addr) (c0 : Nat) (l0 : List Int) (r : Bool) (w : World) (hr0 : Kd.C (Kd.int .u8) w A0 l0.length l0) (hc0 : l0.length ≤ c0) (h : laws_FnContracts.f k l0 = some r) :
  Calls Try.prog 13 #[.slice A0 l0.length c0] w fun e w' => e = .returned (.bool r) ∧ Below w.heap.size w w' := by
 have hu36 := Try.underlying36
 have hu59 := Try.underlying59
 have hu83 := Try.underlying83
 have hu65 := Try.underlying65
 have HR0 := Aside0.mk hr0
 have HC0 := Aside0.mk hc0
 clear hr0 hc0
 have HB := Aside0.mk (Below.refl w.heap.size w)
 have H : ((laws_lwBig.f l0).bind fun t351 => (if t351 = true then (some true) else ((spec_DrawReverseOf.f k l0).bind fun bt352 => ((impl_ReverseOf.f k bt352.1 bt352.2.1 bt352.2.2).bind fun bt358 => (if bt358.1 = 0 then ((impl_ReverseOf.f k bt358.2.1 bt358.2.2 bt352.1).bind fun bt364 => ((impl_ShardsOf.f k bt352.1 bt352.2.1).bind fun bt370 => (laws_FnContracts.l0 k 0 0 bt352.1 bt352.2.1 bt358.1 bt358.2.1 bt358.2.2 bt364.1 bt364.2.1 bt364.2.2 bt370.1 bt370.2))) else ((spec_ReverseOf.f k bt352.1 bt352.2.1 bt352.2.2).bind fun bt387 => (some (bt387.1 == bt358.1)))))))) = some r := h
 clear h
 replace H := Option.bind_eq_some_iff.mp H
 obtain ⟨t351, A20, H⟩ := H
 replace H : (if t351 = true then (some true) else ((spec_DrawReverseOf.f k l0).bind fun bt352 => ((impl_ReverseOf.f k bt352.1 bt352.2.1 bt352.2.2).bind fun bt358 => (if bt358.1 = 0 then ((impl_ReverseOf.f k bt358.2.1 bt358.2.2 bt352.1).bind fun bt364 => ((impl_ShardsOf.f k bt352.1 bt352.2.1).bind fun bt370 => (laws_FnContracts.l0 k 0 0 bt352.1 bt352.2.1 bt358.1 bt358.2.1 bt358.2.2 bt364.1 bt364.2.1 bt364.2.2 bt370.1 bt370.2))) else ((spec_ReverseOf.f k bt352.1 bt352.2.1 bt352.2.2).bind fun bt387 => (some (bt387.1 == bt358.1))))))) = some r := H
 have A2 := Aside0.mk A20
 clear A20
 by_cases c3 : t351 = true
 ·subst c3
  have H1 : (some true) = some r := by rw [if_pos rfl] at H; exact H
  clear H
  have H := H1
  clear H1
  obtain rfl := Option.some.inj H
  go_enter Try.func13, Try.ntmps13
  go_wp2_with (first | ((with_reducible refine gate_callee (f := 53) rfl ?_); refine goesLq (some 13) rfl rfl Try.func53 (by kernel_rfl) rfl #[.slice A0 l0.length c0] rfl ?_; (with_reducible refine (laws_lwBig.calls _ _ l0 true _ ?side1 ?side2 A2.out).mono ?_); (case side1 => exact q_c (HR0.out)); (case side2 => exact HC0.out); rintro e w' ⟨rfl, ⟨nd, rfl⟩⟩; refine ⟨_, rfl, ?_⟩))
  go_ret
  exact ⟨q_e, bq⟩
 ·replace c3 := Bool.eq_false_iff.mpr c3
  subst c3
  have H1 : ((spec_DrawReverseOf.f k l0).bind fun bt352 => ((impl_ReverseOf.f k bt352.1 bt352.2.1 bt352.2.2).bind fun bt358 => (if bt358.1 = 0 then ((impl_ReverseOf.f k bt358.2.1 bt358.2.2 bt352.1).bind fun bt364 => ((impl_ShardsOf.f k bt352.1 bt352.2.1).bind fun bt370 => (laws_FnContracts.l0 k 0 0 bt352.1 bt352.2.1 bt358.1 bt358.2.1 bt358.2.2 bt364.1 bt364.2.1 bt364.2.2 bt370.1 bt370.2))) else ((spec_ReverseOf.f k bt352.1 bt352.2.1 bt352.2.2).bind fun bt387 => (some (bt387.1 == bt358.1)))))) = some r := by rw [if_neg (show ¬ (false = true) by decide)] at H; exact H
  clear H
  have H := H1
  clear H1
  replace H := Option.bind_eq_some_iff.mp H
  obtain ⟨⟨t352, t353, t356⟩, A40, H⟩ := H
  replace H : ((impl_ReverseOf.f k t352 t353 t356).bind fun bt358 => (if bt358.1 = 0 then ((impl_ReverseOf.f k bt358.2.1 bt358.2.2 t352).bind fun bt364 => ((impl_ShardsOf.f k t352 t353).bind fun bt370 => (laws_FnContracts.l0 k 0 0 t352 t353 bt358.1 bt358.2.1 bt358.2.2 bt364.1 bt364.2.1 bt364.2.2 bt370.1 bt370.2))) else ((spec_ReverseOf.f k t352 t353 t356).bind fun bt387 => (some (bt387.1 == bt358.1))))) = some r := H
  have A4 := Aside0.mk A40
  clear A40
  replace H := Option.bind_eq_some_iff.mp H
  obtain ⟨⟨t358, t359, t360⟩, A50, H⟩ := H
  replace H : (if t358 = 0 then ((impl_ReverseOf.f k t359 t360 t352).bind fun bt364 => ((impl_ShardsOf.f k t352 t353).bind fun bt370 => (laws_FnContracts.l0 k 0 0 t352 t353 t358 t359 t360 bt364.1 bt364.2.1 bt364.2.2 bt370.1 bt370.2))) else ((spec_ReverseOf.f k t352 t353 t356).bind fun bt387 => (some (bt387.1 == t358)))) = some r := H
  have A5 := Aside0.mk A50
  clear A50
  by_cases c6 : t358 = 0
  ·rw [if_pos c6] at H
   have c6b0 : (t358 == 0) = true := beq_iff_eq.mpr c6
   have c6b1 : (t358 != 0) = false := bne_eq_false_iff_eq.mpr c6
   clear c6
   replace H := Option.bind_eq_some_iff.mp H
   obtain ⟨⟨t364, t365, t366⟩, A70, H⟩ := H
   replace H : ((impl_ShardsOf.f k t352 t353).bind fun bt370 => (laws_FnContracts.l0 k 0 0 t352 t353 t358 t359 t360 t364 t365 t366 bt370.1 bt370.2)) = some r := H
   have A7 := Aside0.mk A70
   clear A70
   replace H := Option.bind_eq_some_iff.mp H
   obtain ⟨⟨t370, t371⟩, A80, H⟩ := H
   replace H : (laws_FnContracts.l0 k 0 0 t352 t353 t358 t359 t360 t364 t365 t366 t370 t371) = some r := H
   have A8 := Aside0.mk A80
   clear A80
   have H' := Aside0.mk H
   clear H
   go_enter Try.func13, Try.ntmps13
   go_wp2_with (first | ((with_reducible refine gate_callee (f := 53) rfl ?_); refine goesLq (some 13) rfl rfl Try.func53 (by kernel_rfl) rfl #[.slice A0 l0.length c0] rfl ?_; (with_reducible refine (laws_lwBig.calls _ _ l0 false _ ?side1 ?side2 A2.out).mono ?_); (case side1 => exact q_c (HR0.out)); (case side2 => exact HC0.out); rintro e w' ⟨rfl, ⟨nd, rfl⟩⟩; refine ⟨_, rfl, ?_⟩) | ((with_reducible refine gate_callee (f := 59) rfl ?_); refine goesLq (some 16) rfl rfl Try.func59 (by kernel_rfl) rfl #[.slice A0 l0.length c0] rfl ?_; (with_reducible refine (spec_DrawReverseOf.calls k _ _ l0 t352 t353 t356 _ ?side1 ?side2 A4.out).mono ?_); (case side1 => exact q_c (HR0.out)); (case side2 => exact HC0.out); rintro e w9 ⟨v354, rfl, ho0, hb⟩; refine ⟨_, rfl, ?_⟩; have n0_ := Aside0.mk (Kd.R_lower ho0 (below_size bq)); have n1_ := Aside0.mk (below_step bq hb); revert n0_ n1_; clear HB; intro HO355 HB; (try clear hb); (try clear hb2); (try clear hk); (try clear hi); (try clear ho0)) | ((with_reducible refine gate_dst (N := 3) rfl ?_); (try (refine gate_guard (by rfl) ?_; dsimp only)); refine q_box (N := 3) (cs := #[.int .i64 0, .slice none 0 0]) (t := 36) ?_; intro gb357 hg w10 hbox hb; have n0_ := Aside0.mk (Kd.R_below (q_r (HO355.out)) hb); have n1_ := Aside0.mk (below_step bq hb); have n2_ := Aside0.mk (hbox); have n3_ := Aside0.mk ((q_g hg bq : w.heap.size ≤ gb357)); have n4_ := Aside0.mk ((q_g hg bq : w.heap.size ≤ gb357)); revert n0_ n1_ n2_ n3_ n4_; clear HO355 HB; intro HO355 HB BK357 GW357 GE357; clear hb hbox hg; obtain ⟨hcz11_0, hcz11_1, hfz11_0, hfz11_1⟩ := q_2 BK357.out; obtain ⟨Ao12, co12, eo12⟩ := Kd.R_slice HO355.out; subst eo12) | ((with_reducible refine gate_callee (f := 36) rfl ?_); refine goesLq (some 21) rfl rfl Try.func36 (by kernel_rfl) rfl #[.agg #[.int .i64 t352, .slice Ao12 t353.length co12], .int .i64 t356] rfl ?_; (with_reducible refine (impl_ReverseOf.calls k t352 _ _ t353 t356 t358 t359 t360 _ ?side1 ?side2 A5.out).mono ?_); (case side1 => refine (Kd.R_reads' (e := 89) (base := w.heap.size) (ok := fun k_ => True) (n := t353.length) (c := co12) ?_).2.2; exact (by (with_reducible repeat (first | apply Kd.R_alloc | apply Kd.R_drewN | apply Kd.R_drew)); exact (Kd.R_mono (Kd.R_far (p := ⟨gb357, 1, none⟩) (Kd.R_far (p := ⟨gb357, 0, none⟩) (Kd.R_types HO355.out BK357.out (by decide)) (fun _ hk => hk.2) (.int .i64 t352)) (fun _ hk => hk.2) (.slice Ao12 t353.length co12)) (fun _ h_ => h_.1)))); (case side2 => exact (Kd.R_reads' HO355.out).2.1); rintro e w13 ⟨v361, rfl, ho0, hb⟩; refine ⟨_, rfl, ?_⟩; have n0_ := Aside0.mk (Kd.R_elder' (by (with_reducible repeat (first | apply Kd.R_alloc | apply Kd.R_drewN | apply Kd.R_drew)); exact (Kd.R_mono (Kd.R_far (p := ⟨gb357, 1, none⟩) (Kd.R_far (p := ⟨gb357, 0, none⟩) (Kd.R_types HO355.out BK357.out (by decide)) (fun _ hk => hk.2) (.int .i64 t352)) (fun _ hk => hk.2) (.slice Ao12 t353.length co12)) (fun _ h_ => h_.1))) (Kd.R_base ho0) hb); have n1_ := Aside0.mk (Kd.R_lower (Kd.R_new' ho0 (Kd.R_lt (by (with_reducible repeat (first | apply Kd.R_alloc | apply Kd.R_drewN | apply Kd.R_drew)); exact (Kd.R_mono (Kd.R_far (p := ⟨gb357, 1, none⟩) (Kd.R_far (p := ⟨gb357, 0, none⟩) (Kd.R_types HO355.out BK357.out (by decide)) (fun _ hk => hk.2) (.int .i64 t352)) (fun _ hk => hk.2) (.slice Ao12 t353.length co12)) (fun _ h_ => h_.1))))) (below_size bq)); have n2_ := Aside0.mk (blk_below (g := gb357) (o := .cells #[.int .i64 t352, .slice Ao12 t353.length co12] 36 (0, 0)) (by (with_reducible repeat (first | refine blk_drewN ?_ _ | refine blk_drew ?_ | refine blk_alloc ?_ _)); refine blk_put (cs := #[.int .i64 t352, .slice none 0 0]) ?_ 1 _ rfl; (with_reducible repeat (first | refine blk_drewN ?_ _ | refine blk_drew ?_ | refine blk_alloc ?_ _)); refine blk_put (cs := #[.int .i64 0, .slice none 0 0]) ?_ 0 _ rfl; (with_reducible repeat (first | refine blk_drewN ?_ _ | refine blk_drew ?_ | refine blk_alloc ?_ _)); exact BK357.out) hb); have n3_ := Aside0.mk (below_step bq hb); revert n0_ n1_ n2_ n3_; clear HO355 BK357 HB; intro HO355 HO362 BK357 HB; (try clear hb); (try clear hb2); (try clear hk); (try clear hi); (try clear ho0)) | ((with_reducible refine gate_dst (N := 5) rfl ?_); (try (refine gate_guard (by rfl) ?_; dsimp only)); refine q_box (N := 5) (cs := #[.int .i64 0, .int .i64 0, .slice none 0 0]) (t := 59) ?_; intro gb363 hg w14 hbox hb; have n0_ := Aside0.mk (Kd.R_below (q_r (HO355.out)) hb); have n1_ := Aside0.mk (Kd.R_below (q_r (HO362.out)) hb); have n2_ := Aside0.mk (blk_below (q_b BK357.out) hb); have n3_ := Aside0.mk (below_step bq hb); have n4_ := Aside0.mk (hbox); have n5_ := Aside0.mk ((q_g hg bq : w.heap.size ≤ gb363)); have n6_ := Aside0.mk ((q_g hg bq : w.heap.size ≤ gb363)); have n7_ := Aside0.mk ((q_n hg (q_b BK357.out) : gb357 ≠ gb363)); have n8_ := Aside0.mk ((q_m hg (q_b BK357.out) : gb363 ≠ gb357)); revert n0_ n1_ n2_ n3_ n4_ n5_ n6_ n7_ n8_; clear HO355 HO362 BK357 HB; intro HO355 HO362 BK357 HB BK363 GW363 GE363 NB357_363 NB363_357; clear hb hbox hg; have hnb15 := NB363_357.out; have hnc15 := NB357_363.out; obtain ⟨hcz16_0, hcz16_1, hcz16_2, hfz16_0, hfz16_1, hfz16_2⟩ := q_3 BK363.out; obtain ⟨Ao17, co17, eo17⟩ := Kd.R_slice HO362.out; subst eo17; obtain ⟨hcz18_0, hcz18_1, hfz18_0, hfz18_1⟩ := q_2 BK357.out) | ((with_reducible refine gate_callee (f := 36) rfl ?_); refine goesLq (some 36) rfl rfl Try.func36 (by kernel_rfl) rfl #[.agg #[.int .i64 t359, .slice Ao17 t360.length co17], .int .i64 t352] rfl ?_; (with_reducible refine (impl_ReverseOf.calls k t359 _ _ t360 t352 t364 t365 t366 _ ?side1 ?side2 A7.out).mono ?_); (case side1 => refine (Kd.R_reads' (e := 89) (base := w.heap.size) (ok := fun k_ => (True ∧ some k_ ≠ (.slice Ao12 t353.length co12 : Value).ownBlock)) (n := t360.length) (c := co17) ?_).2.2; exact (by (with_reducible repeat (first | apply Kd.R_alloc | apply Kd.R_drewN | apply Kd.R_drew)); exact (Kd.R_mono (Kd.R_far (p := ⟨gb363, 2, none⟩) (Kd.R_far (p := ⟨gb363, 1, none⟩) (Kd.R_far (p := ⟨gb363, 0, none⟩) (Kd.R_types HO362.out BK363.out (by decide)) (fun _ hk => hk.2) (.int .i64 t358)) (fun _ hk => hk.2) (.int .i64 t359)) (fun _ hk => hk.2) (.slice Ao17 t360.length co17)) (fun _ h_ => h_.1)))); (case side2 => exact (Kd.R_reads' HO362.out).2.1); rintro e w19 ⟨v367, rfl, ho0, hb⟩; refine ⟨_, rfl, ?_⟩; have n0_ := Aside0.mk (Kd.R_elder' (by (with_reducible repeat (first | apply Kd.R_alloc | apply Kd.R_drewN | apply Kd.R_drew)); exact (Kd.R_mono (Kd.R_far (p := ⟨gb363, 2, none⟩) (Kd.R_far (p := ⟨gb363, 1, none⟩) (Kd.R_far (p := ⟨gb363, 0, none⟩) (Kd.R_types HO355.out BK363.out (by decide)) (fun _ hk => hk.2) (.int .i64 t358)) (fun _ hk => hk.2) (.int .i64 t359)) (fun _ hk => hk.2) (.slice Ao17 t360.length co17)) (fun _ h_ => h_.1))) (Kd.R_base ho0) hb); have n1_ := Aside0.mk (Kd.R_elder' (by (with_reducible repeat (first | apply Kd.R_alloc | apply Kd.R_drewN | apply Kd.R_drew)); exact (Kd.R_mono (Kd.R_far (p := ⟨gb363, 2, none⟩) (Kd.R_far (p := ⟨gb363, 1, none⟩) (Kd.R_far (p := ⟨gb363, 0, none⟩) (Kd.R_types HO362.out BK363.out (by decide)) (fun _ hk => hk.2) (.int .i64 t358)) (fun _ hk => hk.2) (.int .i64 t359)) (fun _ hk => hk.2) (.slice Ao17 t360.length co17)) (fun _ h_ => h_.1))) (Kd.R_base ho0) hb); have n2_ := Aside0.mk (Kd.R_lower (Kd.R_new' (Kd.R_new' ho0 (Kd.R_lt (by (with_reducible repeat (first | apply Kd.R_alloc | apply Kd.R_drewN | apply Kd.R_drew)); exact (Kd.R_mono (Kd.R_far (p := ⟨gb363, 2, none⟩) (Kd.R_far (p := ⟨gb363, 1, none⟩) (Kd.R_far (p := ⟨gb363, 0, none⟩) (Kd.R_types HO355.out BK363.out (by decide)) (fun _ hk => hk.2) (.int .i64 t358)) (fun _ hk => hk.2) (.int .i64 t359)) (fun _ hk => hk.2) (.slice Ao17 t360.length co17)) (fun _ h_ => h_.1))))) (Kd.R_lt (by (with_reducible repeat (first | apply Kd.R_alloc | apply Kd.R_drewN | apply Kd.R_drew)); exact (Kd.R_mono (Kd.R_far (p := ⟨gb363, 2, none⟩) (Kd.R_far (p := ⟨gb363, 1, none⟩) (Kd.R_far (p := ⟨gb363, 0, none⟩) (Kd.R_types HO362.out BK363.out (by decide)) (fun _ hk => hk.2) (.int .i64 t358)) (fun _ hk => hk.2) (.int .i64 t359)) (fun _ hk => hk.2) (.slice Ao17 t360.length co17)) (fun _ h_ => h_.1))))) (below_size bq)); have n3_ := Aside0.mk (blk_below (g := gb357) (o := .cells #[.int .i64 t352, .slice Ao12 t353.length co12] 36 (0, 0)) (by (with_reducible repeat (first | refine blk_drewN ?_ _ | refine blk_drew ?_ | refine blk_alloc ?_ _)); refine blk_far ?_ NB357_363.out _; (with_reducible repeat (first | refine blk_drewN ?_ _ | refine blk_drew ?_ | refine blk_alloc ?_ _)); refine blk_far ?_ NB357_363.out _; (with_reducible repeat (first | refine blk_drewN ?_ _ | refine blk_drew ?_ | refine blk_alloc ?_ _)); refine blk_far ?_ NB357_363.out _; (with_reducible repeat (first | refine blk_drewN ?_ _ | refine blk_drew ?_ | refine blk_alloc ?_ _)); exact BK357.out) hb); have n4_ := Aside0.mk (blk_below (g := gb363) (o := .cells #[.int .i64 t358, .int .i64 t359, .slice Ao17 t360.length co17] 59 (0, 0)) (by (with_reducible repeat (first | refine blk_drewN ?_ _ | refine blk_drew ?_ | refine blk_alloc ?_ _)); refine blk_put (cs := #[.int .i64 t358, .int .i64 t359, .slice none 0 0]) ?_ 2 _ rfl; (with_reducible repeat (first | refine blk_drewN ?_ _ | refine blk_drew ?_ | refine blk_alloc ?_ _)); refine blk_put (cs := #[.int .i64 t358, .int .i64 0, .slice none 0 0]) ?_ 1 _ rfl; (with_reducible repeat (first | refine blk_drewN ?_ _ | refine blk_drew ?_ | refine blk_alloc ?_ _)); refine blk_put (cs := #[.int .i64 0, .int .i64 0, .slice none 0 0]) ?_ 0 _ rfl; (with_reducible repeat (first | refine blk_drewN ?_ _ | refine blk_drew ?_ | refine blk_alloc ?_ _)); exact BK363.out) hb); have n5_ := Aside0.mk (below_step bq hb); revert n0_ n1_ n2_ n3_ n4_ n5_; clear HO355 HO362 BK357 BK363 HB; intro HO355 HO362 HO368 BK357 BK363 HB; (try clear hb); (try clear hb2); (try clear hk); (try clear hi); (try clear ho0)) | ((with_reducible refine gate_dst (N := 6) rfl ?_); (try (refine gate_guard (by rfl) ?_; dsimp only)); refine q_box (N := 6) (cs := #[.int .i64 0, .int .i64 0, .slice none 0 0]) (t := 59) ?_; intro gb369 hg w20 hbox hb; have n0_ := Aside0.mk (Kd.R_below (q_r (HO355.out)) hb); have n1_ := Aside0.mk (Kd.R_below (q_r (HO362.out)) hb); have n2_ := Aside0.mk (Kd.R_below (q_r (HO368.out)) hb); have n3_ := Aside0.mk (blk_below (q_b BK357.out) hb); have n4_ := Aside0.mk (blk_below (q_b BK363.out) hb); have n5_ := Aside0.mk (below_step bq hb); have n6_ := Aside0.mk (hbox); have n7_ := Aside0.mk ((q_g hg bq : w.heap.size ≤ gb369)); have n8_ := Aside0.mk ((q_g hg bq : w.heap.size ≤ gb369)); have n9_ := Aside0.mk ((q_n hg (q_b BK357.out) : gb357 ≠ gb369)); have n10_ := Aside0.mk ((q_m hg (q_b BK357.out) : gb369 ≠ gb357)); have n11_ := Aside0.mk ((q_n hg (q_b BK363.out) : gb363 ≠ gb369)); have n12_ := Aside0.mk ((q_m hg (q_b BK363.out) : gb369 ≠ gb363)); revert n0_ n1_ n2_ n3_ n4_ n5_ n6_ n7_ n8_ n9_ n10_ n11_ n12_; clear HO355 HO362 HO368 BK357 BK363 HB; intro HO355 HO362 HO368 BK357 BK363 HB BK369 GW369 GE369 NB357_369 NB369_357 NB363_369 NB369_363; clear hb hbox hg; have hnb21 := NB369_357.out; have hnc21 := NB357_369.out; have hnb22 := NB369_363.out; have hnc22 := NB363_369.out; obtain ⟨hcz23_0, hcz23_1, hcz23_2, hfz23_0, hfz23_1, hfz23_2⟩ := q_3 BK369.out; obtain ⟨Ao24, co24, eo24⟩ := Kd.R_slice HO368.out; subst eo24; obtain ⟨hcz25_0, hcz25_1, hfz25_0, hfz25_1⟩ := q_2 BK357.out) | ((with_reducible refine gate_callee (f := 60) rfl ?_); refine goesLq (some 38) rfl rfl Try.func60 (by kernel_rfl) rfl #[.agg #[.int .i64 t352, .slice Ao12 t353.length co12]] rfl ?_; (with_reducible refine (impl_ShardsOf.calls k t352 _ _ t353 t370 t371 _ ?side1 ?side2 A8.out).mono ?_); (case side1 => refine (Kd.R_reads' (e := 89) (base := w.heap.size) (ok := fun k_ => ((True ∧ some k_ ≠ (.slice Ao17 t360.length co17 : Value).ownBlock) ∧ some k_ ≠ (.slice Ao24 t366.length co24 : Value).ownBlock)) (n := t353.length) (c := co12) ?_).2.2; exact (by (with_reducible repeat (first | apply Kd.R_alloc | apply Kd.R_drewN | apply Kd.R_drew)); exact (Kd.R_mono (Kd.R_far (p := ⟨gb369, 2, none⟩) (Kd.R_far (p := ⟨gb369, 1, none⟩) (Kd.R_far (p := ⟨gb369, 0, none⟩) (Kd.R_types HO355.out BK369.out (by decide)) (fun _ hk => hk.2) (.int .i64 t364)) (fun _ hk => hk.2) (.int .i64 t365)) (fun _ hk => hk.2) (.slice Ao24 t366.length co24)) (fun _ h_ => h_.1)))); (case side2 => exact (Kd.R_reads' HO355.out).2.1); rintro e w26 ⟨v372, rfl, ho0, hb⟩; refine ⟨_, rfl, ?_⟩; have n0_ := Aside0.mk (Kd.R_below (by (with_reducible repeat (first | apply Kd.R_alloc | apply Kd.R_drewN | apply Kd.R_drew)); exact (Kd.R_mono (Kd.R_far (p := ⟨gb369, 2, none⟩) (Kd.R_far (p := ⟨gb369, 1, none⟩) (Kd.R_far (p := ⟨gb369, 0, none⟩) (Kd.R_types HO355.out BK369.out (by decide)) (fun _ hk => hk.2) (.int .i64 t364)) (fun _ hk => hk.2) (.int .i64 t365)) (fun _ hk => hk.2) (.slice Ao24 t366.length co24)) (fun _ h_ => h_.1))) hb); have n1_ := Aside0.mk (Kd.R_below (by (with_reducible repeat (first | apply Kd.R_alloc | apply Kd.R_drewN | apply Kd.R_drew)); exact (Kd.R_mono (Kd.R_far (p := ⟨gb369, 2, none⟩) (Kd.R_far (p := ⟨gb369, 1, none⟩) (Kd.R_far (p := ⟨gb369, 0, none⟩) (Kd.R_types HO362.out BK369.out (by decide)) (fun _ hk => hk.2) (.int .i64 t364)) (fun _ hk => hk.2) (.int .i64 t365)) (fun _ hk => hk.2) (.slice Ao24 t366.length co24)) (fun _ h_ => h_.1))) hb); have n2_ := Aside0.mk (Kd.R_below (by (with_reducible repeat (first | apply Kd.R_alloc | apply Kd.R_drewN | apply Kd.R_drew)); exact (Kd.R_mono (Kd.R_far (p := ⟨gb369, 2, none⟩) (Kd.R_far (p := ⟨gb369, 1, none⟩) (Kd.R_far (p := ⟨gb369, 0, none⟩) (Kd.R_types HO368.out BK369.out (by decide)) (fun _ hk => hk.2) (.int .i64 t364)) (fun _ hk => hk.2) (.int .i64 t365)) (fun _ hk => hk.2) (.slice Ao24 t366.length co24)) (fun _ h_ => h_.1))) hb); have n3_ := Aside0.mk (Kd.R_lower ho0 (below_size bq)); have n4_ := Aside0.mk (blk_below (g := gb357) (o := .cells #[.int .i64 t352, .slice Ao12 t353.length co12] 36 (0, 0)) (by (with_reducible repeat (first | refine blk_drewN ?_ _ | refine blk_drew ?_ | refine blk_alloc ?_ _)); refine blk_far ?_ NB357_369.out _; (with_reducible repeat (first | refine blk_drewN ?_ _ | refine blk_drew ?_ | refine blk_alloc ?_ _)); refine blk_far ?_ NB357_369.out _; (with_reducible repeat (first | refine blk_drewN ?_ _ | refine blk_drew ?_ | refine blk_alloc ?_ _)); refine blk_far ?_ NB357_369.out _; (with_reducible repeat (first | refine blk_drewN ?_ _ | refine blk_drew ?_ | refine blk_alloc ?_ _)); exact BK357.out) hb); have n5_ := Aside0.mk (blk_below (g := gb363) (o := .cells #[.int .i64 t358, .int .i64 t359, .slice Ao17 t360.length co17] 59 (0, 0)) (by (with_reducible repeat (first | refine blk_drewN ?_ _ | refine blk_drew ?_ | refine blk_alloc ?_ _)); refine blk_far ?_ NB363_369.out _; (with_reducible repeat (first | refine blk_drewN ?_ _ | refine blk_drew ?_ | refine blk_alloc ?_ _)); refine blk_far ?_ NB363_369.out _; (with_reducible repeat (first | refine blk_drewN ?_ _ | refine blk_drew ?_ | refine blk_alloc ?_ _)); refine blk_far ?_ NB363_369.out _; (with_reducible repeat (first | refine blk_drewN ?_ _ | refine blk_drew ?_ | refine blk_alloc ?_ _)); exact BK363.out) hb); have n6_ := Aside0.mk (blk_below (g := gb369) (o := .cells #[.int .i64 t364, .int .i64 t365, .slice Ao24 t366.length co24] 59 (0, 0)) (by (with_reducible repeat (first | refine blk_drewN ?_ _ | refine blk_drew ?_ | refine blk_alloc ?_ _)); refine blk_put (cs := #[.int .i64 t364, .int .i64 t365, .slice none 0 0]) ?_ 2 _ rfl; (with_reducible repeat (first | refine blk_drewN ?_ _ | refine blk_drew ?_ | refine blk_alloc ?_ _)); refine blk_put (cs := #[.int .i64 t364, .int .i64 0, .slice none 0 0]) ?_ 1 _ rfl; (with_reducible repeat (first | refine blk_drewN ?_ _ | refine blk_drew ?_ | refine blk_alloc ?_ _)); refine blk_put (cs := #[.int .i64 0, .int .i64 0, .slice none 0 0]) ?_ 0 _ rfl; (with_reducible repeat (first | refine blk_drewN ?_ _ | refine blk_drew ?_ | refine blk_alloc ?_ _)); exact BK369.out) hb); have n7_ := Aside0.mk (below_step bq hb); revert n0_ n1_ n2_ n3_ n4_ n5_ n6_ n7_; clear HO355 HO362 HO368 BK357 BK363 BK369 HB; intro HO355 HO362 HO368 HO373 BK357 BK363 BK369 HB; (try clear hb); (try clear hb2); (try clear hk); (try clear hi); (try clear ho0)) | ((with_reducible refine gate_dst (N := 8) rfl ?_); (try (refine gate_guard (by rfl) ?_; dsimp only)); refine q_box (N := 8) (cs := #[.int .i64 0, .slice none 0 0]) (t := 83) ?_; intro gb374 hg w27 hbox hb; have n0_ := Aside0.mk (Kd.R_below (q_r (HO355.out)) hb); have n1_ := Aside0.mk (Kd.R_below (q_r (HO362.out)) hb); have n2_ := Aside0.mk (Kd.R_below (q_r (HO368.out)) hb); have n3_ := Aside0.mk (Kd.R_below (q_r (HO373.out)) hb); have n4_ := Aside0.mk (blk_below (q_b BK357.out) hb); have n5_ := Aside0.mk (blk_below (q_b BK363.out) hb); have n6_ := Aside0.mk (blk_below (q_b BK369.out) hb); have n7_ := Aside0.mk (below_step bq hb); have n8_ := Aside0.mk (hbox); have n9_ := Aside0.mk ((q_g hg bq : w.heap.size ≤ gb374)); have n10_ := Aside0.mk ((q_g hg bq : w.heap.size ≤ gb374)); have n11_ := Aside0.mk ((q_n hg (q_b BK357.out) : gb357 ≠ gb374)); have n12_ := Aside0.mk ((q_m hg (q_b BK357.out) : gb374 ≠ gb357)); have n13_ := Aside0.mk ((q_n hg (q_b BK363.out) : gb363 ≠ gb374)); have n14_ := Aside0.mk ((q_m hg (q_b BK363.out) : gb374 ≠ gb363)); have n15_ := Aside0.mk ((q_n hg (q_b BK369.out) : gb369 ≠ gb374)); have n16_ := Aside0.mk ((q_m hg (q_b BK369.out) : gb374 ≠ gb369)); revert n0_ n1_ n2_ n3_ n4_ n5_ n6_ n7_ n8_ n9_ n10_ n11_ n12_ n13_ n14_ n15_ n16_; clear HO355 HO362 HO368 HO373 BK357 BK363 BK369 HB; intro HO355 HO362 HO368 HO373 BK357 BK363 BK369 HB BK374 GW374 GE374 NB357_374 NB374_357 NB363_374 NB374_363 NB369_374 NB374_369; clear hb hbox hg; have hnb28 := NB374_357.out; have hnc28 := NB357_374.out; have hnb29 := NB374_363.out; have hnc29 := NB363_374.out; have hnb30 := NB374_369.out; have hnc30 := NB369_374.out; obtain ⟨hcz31_0, hcz31_1, hfz31_0, hfz31_1⟩ := q_2 BK374.out; obtain ⟨Ao32, co32, eo32⟩ := Kd.R_slice HO373.out; subst eo32))
   go_loopg [7, 9] k (fun kq v7 v9 w' => ∃ (x7_1 : Int) (x9_1 : Int), v7 = .int .i64 x7_1 ∧ v9 = .int .i64 x9_1 ∧ Aside0 (laws_FnContracts.l0 kq x7_1 x9_1 t352 t353 t358 t359 t360 t364 t365 t366 t370 t371 = some r) ∧ Aside0 (kq ≤ k) ∧ Aside0 (Kd.R k89 89 w' w.heap.size (fun k_ => some k_ ≠ ((.slice Ao17 t360.length co17) : Value).ownBlock ∧ some k_ ≠ ((.slice Ao24 t366.length co24) : Value).ownBlock) (.slice Ao12 t353.length co12) t353) ∧ Aside0 (Kd.R k89 89 w' w.heap.size (fun k_ => some k_ ≠ ((.slice Ao12 t353.length co12) : Value).ownBlock ∧ some k_ ≠ ((.slice Ao24 t366.length co24) : Value).ownBlock) (.slice Ao17 t360.length co17) t360) ∧ Aside0 (Kd.R k89 89 w' w.heap.size (fun k_ => some k_ ≠ ((.slice Ao12 t353.length co12) : Value).ownBlock ∧ some k_ ≠ ((.slice Ao17 t360.length co17) : Value).ownBlock) (.slice Ao24 t366.length co24) t366) ∧ Aside0 (Kd.R (Kd.int .i64) 2 w' w.heap.size (fun _ => True) (.slice Ao32 t371.length co32) t371) ∧ Aside0 (w'.heap[gb357]? = some (.cells #[.int .i64 t352, (.slice Ao12 t353.length co12)] 36 (0, 0))) ∧ Aside0 (w'.heap[gb363]? = some (.cells #[.int .i64 t358, .int .i64 t359, (.slice Ao17 t360.length co17)] 59 (0, 0))) ∧ Aside0 (w'.heap[gb369]? = some (.cells #[.int .i64 t364, .int .i64 t365, (.slice Ao24 t366.length co24)] 59 (0, 0))) ∧ Aside0 (w'.heap[gb374]? = some (.cells #[.int .i64 t370, (.slice Ao32 t371.length co32)] 83 (0, 0))) ∧ Aside0 (Below w.heap.size w w'))
   case atStart => exact ⟨(0), (0), q_i, q_i, H', ⟨Nat.le_refl _⟩, ⟨by (with_reducible repeat (first | apply Kd.R_alloc | apply Kd.R_drewN | apply Kd.R_drew)); exact Kd.R_mono (Kd.R_far (p := ⟨gb374, 1, none⟩) (Kd.R_far (p := ⟨gb374, 0, none⟩) (Kd.R_types HO355.out BK374.out (by decide)) (fun _ hk => hk.2) (.int .i64 t370)) (fun _ hk => hk.2) (.slice Ao32 t371.length co32)) (fun _ hk => ⟨hk.1.1.2, hk.1.2⟩)⟩, ⟨by (with_reducible repeat (first | apply Kd.R_alloc | apply Kd.R_drewN | apply Kd.R_drew)); exact Kd.R_mono (Kd.R_far (p := ⟨gb374, 1, none⟩) (Kd.R_far (p := ⟨gb374, 0, none⟩) (Kd.R_types HO362.out BK374.out (by decide)) (fun _ hk => hk.2) (.int .i64 t370)) (fun _ hk => hk.2) (.slice Ao32 t371.length co32)) (fun _ hk => ⟨hk.1.1.2, hk.1.2⟩)⟩, ⟨by (with_reducible repeat (first | apply Kd.R_alloc | apply Kd.R_drewN | apply Kd.R_drew)); exact Kd.R_mono (Kd.R_far (p := ⟨gb374, 1, none⟩) (Kd.R_far (p := ⟨gb374, 0, none⟩) (Kd.R_types HO368.out BK374.out (by decide)) (fun _ hk => hk.2) (.int .i64 t370)) (fun _ hk => hk.2) (.slice Ao32 t371.length co32)) (fun _ hk => ⟨hk.1.1.2, hk.1.2⟩)⟩, ⟨by (with_reducible repeat (first | apply Kd.R_alloc | apply Kd.R_drewN | apply Kd.R_drew)); exact Kd.R_mono (Kd.R_far (p := ⟨gb374, 1, none⟩) (Kd.R_far (p := ⟨gb374, 0, none⟩) (Kd.R_types HO373.out BK374.out (by decide)) (fun _ hk => hk.2) (.int .i64 t370)) (fun _ hk => hk.2) (.slice Ao32 t371.length co32)) (fun _ hk => trivial)⟩, ⟨by (with_reducible repeat (first | refine blk_drewN ?_ _ | refine blk_drew ?_ | refine blk_alloc ?_ _)); refine blk_far ?_ NB357_374.out _; (with_reducible repeat (first | refine blk_drewN ?_ _ | refine blk_drew ?_ | refine blk_alloc ?_ _)); refine blk_far ?_ NB357_374.out _; (with_reducible repeat (first | refine blk_drewN ?_ _ | refine blk_drew ?_ | refine blk_alloc ?_ _)); exact BK357.out⟩, ⟨by (with_reducible repeat (first | refine blk_drewN ?_ _ | refine blk_drew ?_ | refine blk_alloc ?_ _)); refine blk_far ?_ NB363_374.out _; (with_reducible repeat (first | refine blk_drewN ?_ _ | refine blk_drew ?_ | refine blk_alloc ?_ _)); refine blk_far ?_ NB363_374.out _; (with_reducible repeat (first | refine blk_drewN ?_ _ | refine blk_drew ?_ | refine blk_alloc ?_ _)); exact BK363.out⟩, ⟨by (with_reducible repeat (first | refine blk_drewN ?_ _ | refine blk_drew ?_ | refine blk_alloc ?_ _)); refine blk_far ?_ NB369_374.out _; (with_reducible repeat (first | refine blk_drewN ?_ _ | refine blk_drew ?_ | refine blk_alloc ?_ _)); refine blk_far ?_ NB369_374.out _; (with_reducible repeat (first | refine blk_drewN ?_ _ | refine blk_drew ?_ | refine blk_alloc ?_ _)); exact BK369.out⟩, ⟨by (with_reducible repeat (first | refine blk_drewN ?_ _ | refine blk_drew ?_ | refine blk_alloc ?_ _)); refine blk_put (cs := #[.int .i64 t370, .slice none 0 0]) ?_ 1 _ rfl; (with_reducible repeat (first | refine blk_drewN ?_ _ | refine blk_drew ?_ | refine blk_alloc ?_ _)); refine blk_put (cs := #[.int .i64 0, .slice none 0 0]) ?_ 0 _ rfl; (with_reducible repeat (first | refine blk_drewN ?_ _ | refine blk_drew ?_ | refine blk_alloc ?_ _)); exact BK374.out⟩, ⟨bq⟩⟩
   case round =>
    clear H'
    (try clear c1); (try clear c2); (try clear p2); (try clear c3); (try clear c5); (try clear c6); (try clear c6b0); (try clear c6b1); (try clear c13); (try clear c15); (try clear c21); (try clear c22)
    (try clear c28); (try clear c29); (try clear c30); (try clear hcz11_0); (try clear hcz11_1); (try clear hcz16_0); (try clear hcz16_1); (try clear hcz16_2); (try clear hcz18_0); (try clear hcz18_1)
    (try clear hcz23_0); (try clear hcz23_1); (try clear hcz23_2); (try clear hcz25_0); (try clear hcz25_1); (try clear hcz31_0); (try clear hcz31_1); (try clear hfz11_0); (try clear hfz11_1); (try clear hfz16_0)
    (try clear hfz16_1); (try clear hfz16_2); (try clear hfz18_0); (try clear hfz18_1); (try clear hfz23_0); (try clear hfz23_1); (try clear hfz23_2); (try clear hfz25_0); (try clear hfz25_1); (try clear hfz31_0)
    (try clear hfz31_1)
    obtain ⟨x7_1, x9_1, rfl, rfl, HA, HK1, HO_358001, HO_364002, HO_370002, HO_375001, BK357, BK363, BK369, BK374, HB⟩ := hrel
    cases gk with
    | zero => exact absurd HA.out (by simp [laws_FnContracts.l0])
    | succ k1 =>
     have H := HA.out
     clear HA
     simp only [laws_FnContracts.l0] at H
     by_cases c33 : x9_1 < (t371.length : Int)
     ·rw [if_pos c33] at H
      have c33b0 := decide_eq_true c33
      clear c33
      by_cases c34 : 0 ≤ x9_1
      ·rw [if_pos c34] at H
       have c34b0 := decide_eq_true c34
       clear c34
       replace H := Option.bind_eq_some_iff.mp H
       obtain ⟨⟨t376, t377⟩, A350, H⟩ := H
       replace H : (if (t377.length : Int) = 0 then (none) else (laws_FnContracts.l0 k1 (wrap64 (x7_1 + (t377.length : Int))) (wrap64 (x9_1 + 1)) t352 t353 t358 t359 t360 t364 t365 t366 t370 t371)) = some r := H
       have A35 := Aside0.mk A350
       clear A350
       by_cases c36 : (t377.length : Int) = 0
       ·rw [if_pos c36] at H
        exact absurd H (by simp)
       ·rw [if_neg c36] at H
        have c36b0 : ((t377.length : Int) == 0) = false := beq_eq_false_iff_ne.mpr c36
        have c36b1 : ((t377.length : Int) != 0) = true := bne_iff_ne.mpr c36
        have c36b2 : ¬ (t377 = []) := fun h_ => c36 (by rw [h_]; rfl)
        have H' := Aside0.mk H
        clear H
        have hnb37 := NB374_357.out
        have hnc37 := NB357_374.out
        have hnb38 := NB374_363.out
        have hnc38 := NB363_374.out
        have hnb39 := NB374_369.out
        have hnc39 := NB369_374.out
        obtain ⟨hcz40_0, hcz40_1, hfz40_0, hfz40_1⟩ := q_2 BK374.out
        try go_wp2
        have n0_ := Aside0.mk (Kd.R_drew HO_358001.out)
        have n1_ := Aside0.mk (Kd.R_drew HO_364002.out)
        have n2_ := Aside0.mk (Kd.R_drew HO_370002.out)
        have n3_ := Aside0.mk (Kd.R_drew HO_375001.out)
        have n4_ := Aside0.mk (blk_drew BK357.out)
        have n5_ := Aside0.mk (blk_drew BK363.out)
        have n6_ := Aside0.mk (blk_drew BK369.out)
        have n7_ := Aside0.mk (blk_drew BK374.out)
        have n8_ := Aside0.mk (below_drew1 HB.out)
        clear HO_358001
        clear HO_364002
        clear HO_370002
        clear HO_375001
        clear BK357
        clear BK363
        clear BK369
        clear BK374
        clear HB
        have HO_358001 := n0_
        have HO_364002 := n1_
        have HO_370002 := n2_
        have HO_375001 := n3_
        have BK357 := n4_
        have BK363 := n5_
        have BK369 := n6_
        have BK374 := n7_
        have HB := n8_
        clear n0_ n1_ n2_ n3_ n4_ n5_ n6_ n7_ n8_
        have p375 : 0 ≤ (x9_1 : Int) := q_d
        have q375 : x9_1 < (t371.length : Int) := q_d
        obtain ⟨ad375, e375, hx375_0⟩ := Kd.at_int (Kd.R_reads' HO_375001.out).2.2 x9_1 p375 q375
        cases e375
        replace p375 := eq_true p375
        replace q375 := eq_true q375
        refine start_ (n := 9) (S := fun w' => w'.cell? ⟨gb357, 0, none⟩ = some (.int .i64 t352) ∧ w'.cell? ⟨gb357, 1, none⟩ = some (.slice Ao12 t353.length co12) ∧ w'.cell? ⟨gb374, 0, none⟩ = some (.int .i64 t370) ∧ w'.cell? ⟨gb374, 1, none⟩ = some (.slice (some ad375) t371.length co32) ∧ w'.cell? (ad375.add (x9_1).toNat) = some (.int .i64 (rd t371 x9_1))) (ds := []) #[false, false, false, false, false, false, false, false, false] (by kernel_rfl) rfl rfl ⟨q_z BK357.out 0, q_z BK357.out 1, q_z BK374.out 0, q_z BK374.out 1, hx375_0⟩ (fun hHeld => ?_); refine with_tabW laws_FnContracts.tab13 laws_FnContracts.bits13 (fun HT_ HW_ => ?_)
        generalize wr.drew = w41 at HO_358001 HO_364002 HO_370002 HO_375001 BK357 BK363 BK369 BK374 HB hx375_0 hHeld ⊢
        refine pure_ (i := 1) (N := some 47) (v := ?_) (a' := ?_) #[false, true, false, false, false, false, false, false, false] rfl rfl (any_of HT_.out (by kernel_rfl)) (fun _ _ _ h => h) (Or.inl ⟨by rfl, ?_⟩) ?_ ?_
        rotate_left
        ·intro w'
         go_simp
         (try (simp only [Instr.field, asAgg]; go_simp))
         with_reducible rfl
        rotate_left
        ·simp only [Act.put, List.setIfInBounds_toArray, List.set_cons_zero, List.set_cons_succ, i64_w, i32_w]
         rfl
        refine pure_ (i := 3) (N := some 49) (v := ?_) (a' := ?_) #[false, true, false, true, false, false, false, false, false] rfl rfl (any_of HT_.out (by kernel_rfl)) (fun _ _ _ h => h) (Or.inl ⟨by rfl, ?_⟩) ?_ ?_
        rotate_left
        ·intro w'
         go_simp
         (try (simp only [Instr.field, asAgg]; go_simp))
         with_reducible rfl
        rotate_left
        ·simp only [Act.put, List.setIfInBounds_toArray, List.set_cons_zero, List.set_cons_succ, i64_w, i32_w]
         rfl
        refine q_t 0 (some 46) #[true, true, false, true, false, false, false, false, false] HT_.out HW_.out hHeld ?_
        refine q_t 2 (some 48) #[true, true, true, true, false, false, false, false, false] HT_.out HW_.out hHeld ?_
        refine pure_ (i := 4) (N := some 50) (v := ?_) (a' := ?_) #[true, true, true, true, true, false, false, false, false] rfl rfl (any_of HT_.out (by kernel_rfl)) (fun _ _ _ h => h) (Or.inl ⟨by rfl, ?_⟩) ?_ ?_
        rotate_left
        ·intro w'
         go_simp
         (try (simp only [Instr.field, asAgg]; go_simp))
         with_reducible rfl
        rotate_left
        ·simp only [Act.put, List.setIfInBounds_toArray, List.set_cons_zero, List.set_cons_succ, i64_w, i32_w]
         rfl
        refine q_t 5 (some 51) #[true, true, true, true, true, true, false, false, false] HT_.out HW_.out hHeld ?_
        refine join_ (σ := Value × Nat) 1 #[true, true, true, true, true, true, true, true, false] (fun s_ => [(52, .agg #[.int .i64 t376, s_.1]), (10, .pointer (some ⟨s_.2, 0, none⟩))]) (fun s_ w' => (w'.cell? ⟨gb357, 0, none⟩ = some (.int .i64 t352) ∧ w'.cell? ⟨gb357, 1, none⟩ = some (.slice Ao12 t353.length co12) ∧ w'.cell? ⟨gb374, 0, none⟩ = some (.int .i64 t370) ∧ w'.cell? ⟨gb374, 1, none⟩ = some (.slice (some ad375) t371.length co32) ∧ w'.cell? (ad375.add (x9_1).toNat) = some (.int .i64 (rd t371 x9_1))) ∧ (Kd.R k89 89 w' w.heap.size (fun k_ => some k_ ≠ (.slice Ao12 t353.length co12 : Value).ownBlock ∧ some k_ ≠ (.slice Ao17 t360.length co17 : Value).ownBlock ∧ some k_ ≠ (.slice Ao24 t366.length co24 : Value).ownBlock) s_.1 t377) ∧ (Kd.R k89 89 w' w.heap.size (fun k_ => some k_ ≠ (s_.1 : Value).ownBlock ∧ some k_ ≠ (.slice Ao17 t360.length co17 : Value).ownBlock ∧ some k_ ≠ (.slice Ao24 t366.length co24 : Value).ownBlock) (.slice Ao12 t353.length co12) t353) ∧ (Kd.R k89 89 w' w.heap.size (fun k_ => some k_ ≠ (s_.1 : Value).ownBlock ∧ some k_ ≠ (.slice Ao12 t353.length co12 : Value).ownBlock ∧ some k_ ≠ (.slice Ao24 t366.length co24 : Value).ownBlock) (.slice Ao17 t360.length co17) t360) ∧ (Kd.R k89 89 w' w.heap.size (fun k_ => some k_ ≠ (s_.1 : Value).ownBlock ∧ some k_ ≠ (.slice Ao12 t353.length co12 : Value).ownBlock ∧ some k_ ≠ (.slice Ao17 t360.length co17 : Value).ownBlock) (.slice Ao24 t366.length co24) t366) ∧ (Kd.R (Kd.int .i64) 2 w' w.heap.size (fun _ => True) (.slice (some ad375) t371.length co32) t371) ∧ (w'.heap[gb357]? = some (.cells #[.int .i64 t352, .slice Ao12 t353.length co12] 36 (0, 0))) ∧ (w'.heap[gb363]? = some (.cells #[.int .i64 t358, .int .i64 t359, .slice Ao17 t360.length co17] 59 (0, 0))) ∧ (w'.heap[gb369]? = some (.cells #[.int .i64 t364, .int .i64 t365, .slice Ao24 t366.length co24] 59 (0, 0))) ∧ (w'.heap[gb374]? = some (.cells #[.int .i64 t370, .slice (some ad375) t371.length co32] 83 (0, 0))) ∧ (w'.heap[s_.2]? = some (.cells #[.int .i64 0, .slice none 0 0] 65 (0, 0))) ∧ (w.heap.size ≤ s_.2) ∧ (w.heap.size ≤ s_.2) ∧ (gb357 ≠ s_.2) ∧ (s_.2 ≠ gb357) ∧ (gb363 ≠ s_.2) ∧ (s_.2 ≠ gb363) ∧ (gb369 ≠ s_.2) ∧ (s_.2 ≠ gb369) ∧ (gb374 ≠ s_.2) ∧ (s_.2 ≠ gb374) ∧ (Below w.heap.size w w')) ?_ ?_
        rotate_left
        ·intro hCont
         refine two_ (i := 6) (j := 7) (Ni := some 52) (Nj := some 10) #[true, true, true, true, true, true, true, false, false] #[true, true, true, true, true, true, false, true, false] rfl rfl rfl rfl (two_of HT_.out (by kernel_rfl)) (by decide) (by decide) (fun K hK => ?_) (fun K hK => ?_)
         ·skip
          refine goes_ Try.func42 (by kernel_rfl) rfl #[.agg #[.int .i64 t352, .slice Ao12 t353.length co12], .int .i64 (rd t371 x9_1)] (by rfl) rfl rfl (by (try simp only [List.map_toArray, List.map_cons, List.map_nil]); first | done | rfl | (simp only [List.length_drop, List.length_take]; rfl)) ?_
          with_reducible refine (impl_LegsAt.calls k1 t352 _ _ t353 (rd t371 x9_1) t376 t377 _ ?side1 ?side2 A35.out).mono ?_
          (case side1 => exact q_c ((Kd.R_reads' HO_358001.out).2.2))
          (case side2 => exact (Kd.R_reads' HO_358001.out).2.1)
          rintro e w42 ⟨v378, rfl, ho0, hb⟩
          have HS4_ := (hb.cell (World.block_lt_of_cell? _ _ (hHeld.2.2.2.2))).trans (hHeld.2.2.2.2)
          refine ⟨_, rfl, ?_⟩
          have n0_ := Aside0.mk (Kd.R_elder' (q_r (HO_358001.out)) (Kd.R_base ho0) hb)
          have n1_ := Aside0.mk (Kd.R_elder' (q_r (HO_364002.out)) (Kd.R_base ho0) hb)
          have n2_ := Aside0.mk (Kd.R_elder' (q_r (HO_370002.out)) (Kd.R_base ho0) hb)
          have n3_ := Aside0.mk (Kd.R_below (q_r (HO_375001.out)) hb)
          have n4_ := Aside0.mk (Kd.R_lower (Kd.R_new' (Kd.R_new' (Kd.R_new' ho0 (Kd.R_lt (q_r (HO_358001.out)))) (Kd.R_lt (q_r (HO_364002.out)))) (Kd.R_lt (q_r (HO_370002.out)))) (below_size bq))
          have n5_ := Aside0.mk (blk_below (q_b BK357.out) hb)
          have n6_ := Aside0.mk (blk_below (q_b BK363.out) hb)
          have n7_ := Aside0.mk (blk_below (q_b BK369.out) hb)
          have n8_ := Aside0.mk (blk_below (q_b BK374.out) hb)
          have n9_ := Aside0.mk (below_step bq hb)
          clear HO_358001
          clear HO_364002
          clear HO_370002
          clear HO_375001
          clear BK357
          clear BK363
          clear BK369
          clear BK374
          clear HB
          have HO_358001 := n0_
          have HO_364002 := n1_
          have HO_370002 := n2_
          have HO_375001 := n3_
          have HO379 := n4_
          have BK357 := n5_
          have BK363 := n6_
          have BK369 := n7_
          have BK374 := n8_
          have HB := n9_
          clear n0_ n1_ n2_ n3_ n4_ n5_ n6_ n7_ n8_ n9_
          (try clear hb)
          (try clear hb2)
          (try clear hk)
          (try clear hi)
          (try clear ho0)
          refine hK.out _ _ ⟨q_z BK357.out 0, q_z BK357.out 1, q_z BK374.out 0, q_z BK374.out 1, HS4_⟩ (fun hHeld => ?_)
          clear hK K
          refine norm_ (a' := ?_) ?_ ?_
          rotate_left
          ·show Act.put _ (some 52) _ = _
           simp only [Act.put, List.setIfInBounds_toArray, List.set_cons_zero, List.set_cons_succ, i64_w, i32_w]
           rfl
          refine one_ (i := 7) (N := some 10) #[true, true, true, true, true, true, true, true, false] rfl rfl (one_of HT_.out (by kernel_rfl)) (by decide) (fun K hK => ?_)
          refine box_step ?hg (N := 10) ?hd (cs := #[.int .i64 0, .slice none 0 0]) (t := 65) ?hr ?_; (case hd => rfl); (case hg => rfl); (case hr => first | (go_simp; done) | (go_simp; rfl))
          intro gb380 hg w43 hbox hb
          have HS4_ := (hb.cell (World.block_lt_of_cell? _ _ (hHeld.2.2.2.2))).trans (hHeld.2.2.2.2)
          have n0_ := Aside0.mk (Kd.R_below (q_r (HO_358001.out)) hb)
          have n1_ := Aside0.mk (Kd.R_below (q_r (HO_364002.out)) hb)
          have n2_ := Aside0.mk (Kd.R_below (q_r (HO_370002.out)) hb)
          have n3_ := Aside0.mk (Kd.R_below (q_r (HO_375001.out)) hb)
          have n4_ := Aside0.mk (Kd.R_below (q_r (HO379.out)) hb)
          have n5_ := Aside0.mk (blk_below (q_b BK357.out) hb)
          have n6_ := Aside0.mk (blk_below (q_b BK363.out) hb)
          have n7_ := Aside0.mk (blk_below (q_b BK369.out) hb)
          have n8_ := Aside0.mk (blk_below (q_b BK374.out) hb)
          have n9_ := Aside0.mk (below_step bq hb)
          have n10_ := Aside0.mk (hbox)
          have n11_ := Aside0.mk ((q_g hg bq : w.heap.size ≤ gb380))
          have n12_ := Aside0.mk ((q_g hg bq : w.heap.size ≤ gb380))
          have n13_ := Aside0.mk ((q_n hg (q_b BK357.out) : gb357 ≠ gb380))
          have n14_ := Aside0.mk ((q_m hg (q_b BK357.out) : gb380 ≠ gb357))
          have n15_ := Aside0.mk ((q_n hg (q_b BK363.out) : gb363 ≠ gb380))
          have n16_ := Aside0.mk ((q_m hg (q_b BK363.out) : gb380 ≠ gb363))
          have n17_ := Aside0.mk ((q_n hg (q_b BK369.out) : gb369 ≠ gb380))
          have n18_ := Aside0.mk ((q_m hg (q_b BK369.out) : gb380 ≠ gb369))
          have n19_ := Aside0.mk ((q_n hg (q_b BK374.out) : gb374 ≠ gb380))
          have n20_ := Aside0.mk ((q_m hg (q_b BK374.out) : gb380 ≠ gb374))
          clear HO_358001
          clear HO_364002
          clear HO_370002
          clear HO_375001
          clear HO379
          clear BK357
          clear BK363
          clear BK369
          clear BK374
          clear HB
          have HO_358001 := n0_
          have HO_364002 := n1_
          have HO_370002 := n2_
          have HO_375001 := n3_
          have HO379 := n4_
          have BK357 := n5_
          have BK363 := n6_
          have BK369 := n7_
          have BK374 := n8_
          have HB := n9_
          have BK380 := n10_
          have GW380 := n11_
          have GE380 := n12_
          have NB357_380 := n13_
          have NB380_357 := n14_
          have NB363_380 := n15_
          have NB380_363 := n16_
          have NB369_380 := n17_
          have NB380_369 := n18_
          have NB374_380 := n19_
          have NB380_374 := n20_
          clear n0_ n1_ n2_ n3_ n4_ n5_ n6_ n7_ n8_ n9_ n10_ n11_ n12_ n13_ n14_ n15_ n16_ n17_ n18_ n19_ n20_
          clear hb hbox hg
          refine hK.out _ _ ⟨q_z BK357.out 0, q_z BK357.out 1, q_z BK374.out 0, q_z BK374.out 1, HS4_⟩ (fun hHeld => ?_)
          clear hK K
          refine norm_ (a' := ?_) ?_ ?_
          rotate_left
          ·show Act.put _ (some 10) _ = _
           simp only [Act.put, List.setIfInBounds_toArray, List.set_cons_zero, List.set_cons_succ, i64_w, i32_w]
           rfl
          exact norm_ (by simp only [putAll, Act.put, List.setIfInBounds_toArray, List.set_cons_zero, List.set_cons_succ]) (hCont (v378, gb380) _ ⟨hHeld, (by (with_reducible repeat (first | apply Kd.R_alloc | apply Kd.R_drewN | apply Kd.R_drew)); exact Kd.R_mono HO379.out (fun _ hk => ⟨hk.1.1.2, ⟨hk.1.2, hk.2⟩⟩)), (by (with_reducible repeat (first | apply Kd.R_alloc | apply Kd.R_drewN | apply Kd.R_drew)); exact Kd.R_mono HO_358001.out (fun _ hk => ⟨hk.2, ⟨hk.1.1, hk.1.2⟩⟩)), (by (with_reducible repeat (first | apply Kd.R_alloc | apply Kd.R_drewN | apply Kd.R_drew)); exact Kd.R_mono HO_364002.out (fun _ hk => ⟨hk.2, ⟨hk.1.1, hk.1.2⟩⟩)), (by (with_reducible repeat (first | apply Kd.R_alloc | apply Kd.R_drewN | apply Kd.R_drew)); exact Kd.R_mono HO_370002.out (fun _ hk => ⟨hk.2, ⟨hk.1.1, hk.1.2⟩⟩)), (q_r (HO_375001.out)), kq, kq, kq, kq, kq, GW380.out, GE380.out, NB357_380.out, NB380_357.out, NB363_380.out, NB380_363.out, NB369_380.out, NB380_369.out, NB374_380.out, NB380_374.out, bq⟩)
         ·skip
          refine box_step ?hg (N := 10) ?hd (cs := #[.int .i64 0, .slice none 0 0]) (t := 65) ?hr ?_; (case hd => rfl); (case hg => rfl); (case hr => first | (go_simp; done) | (go_simp; rfl))
          intro gb380 hg w42 hbox hb
          have HS4_ := (hb.cell (World.block_lt_of_cell? _ _ (hHeld.2.2.2.2))).trans (hHeld.2.2.2.2)
          have n0_ := Aside0.mk (Kd.R_below (q_r (HO_358001.out)) hb)
          have n1_ := Aside0.mk (Kd.R_below (q_r (HO_364002.out)) hb)
          have n2_ := Aside0.mk (Kd.R_below (q_r (HO_370002.out)) hb)
          have n3_ := Aside0.mk (Kd.R_below (q_r (HO_375001.out)) hb)
          have n4_ := Aside0.mk (blk_below (q_b BK357.out) hb)
          have n5_ := Aside0.mk (blk_below (q_b BK363.out) hb)
          have n6_ := Aside0.mk (blk_below (q_b BK369.out) hb)
          have n7_ := Aside0.mk (blk_below (q_b BK374.out) hb)
          have n8_ := Aside0.mk (below_step bq hb)
          have n9_ := Aside0.mk (hbox)
          have n10_ := Aside0.mk ((q_g hg bq : w.heap.size ≤ gb380))
          have n11_ := Aside0.mk ((q_g hg bq : w.heap.size ≤ gb380))
          have n12_ := Aside0.mk ((q_n hg (q_b BK357.out) : gb357 ≠ gb380))
          have n13_ := Aside0.mk ((q_m hg (q_b BK357.out) : gb380 ≠ gb357))
          have n14_ := Aside0.mk ((q_n hg (q_b BK363.out) : gb363 ≠ gb380))
          have n15_ := Aside0.mk ((q_m hg (q_b BK363.out) : gb380 ≠ gb363))
          have n16_ := Aside0.mk ((q_n hg (q_b BK369.out) : gb369 ≠ gb380))
          have n17_ := Aside0.mk ((q_m hg (q_b BK369.out) : gb380 ≠ gb369))
          have n18_ := Aside0.mk ((q_n hg (q_b BK374.out) : gb374 ≠ gb380))
          have n19_ := Aside0.mk ((q_m hg (q_b BK374.out) : gb380 ≠ gb374))
          clear HO_358001
          clear HO_364002
          clear HO_370002
          clear HO_375001
          clear BK357
          clear BK363
          clear BK369
          clear BK374
          clear HB
          have HO_358001 := n0_
          have HO_364002 := n1_
          have HO_370002 := n2_
          have HO_375001 := n3_
          have BK357 := n4_
          have BK363 := n5_
          have BK369 := n6_
          have BK374 := n7_
          have HB := n8_
          have BK380 := n9_
          have GW380 := n10_
          have GE380 := n11_
          have NB357_380 := n12_
          have NB380_357 := n13_
          have NB363_380 := n14_
          have NB380_363 := n15_
          have NB369_380 := n16_
          have NB380_369 := n17_
          have NB374_380 := n18_
          have NB380_374 := n19_
          clear n0_ n1_ n2_ n3_ n4_ n5_ n6_ n7_ n8_ n9_ n10_ n11_ n12_ n13_ n14_ n15_ n16_ n17_ n18_ n19_
          clear hb hbox hg
          refine hK.out _ _ ⟨q_z BK357.out 0, q_z BK357.out 1, q_z BK374.out 0, q_z BK374.out 1, HS4_⟩ (fun hHeld => ?_)
          clear hK K
          refine norm_ (a' := ?_) ?_ ?_
          rotate_left
          ·show Act.put _ (some 10) _ = _
           simp only [Act.put, List.setIfInBounds_toArray, List.set_cons_zero, List.set_cons_succ, i64_w, i32_w]
           rfl
          refine one_ (i := 6) (N := some 52) #[true, true, true, true, true, true, true, true, false] rfl rfl (one_of HT_.out (by kernel_rfl)) (by decide) (fun K hK => ?_)
          refine goes_ Try.func42 (by kernel_rfl) rfl #[.agg #[.int .i64 t352, .slice Ao12 t353.length co12], .int .i64 (rd t371 x9_1)] (by rfl) rfl rfl (by (try simp only [List.map_toArray, List.map_cons, List.map_nil]); first | done | rfl | (simp only [List.length_drop, List.length_take]; rfl)) ?_
          with_reducible refine (impl_LegsAt.calls k1 t352 _ _ t353 (rd t371 x9_1) t376 t377 _ ?side1 ?side2 A35.out).mono ?_
          (case side1 => exact q_c ((Kd.R_reads' HO_358001.out).2.2))
          (case side2 => exact (Kd.R_reads' HO_358001.out).2.1)
          rintro e w43 ⟨v378, rfl, ho0, hb⟩
          have HS4_ := (hb.cell (World.block_lt_of_cell? _ _ (hHeld.2.2.2.2))).trans (hHeld.2.2.2.2)
          refine ⟨_, rfl, ?_⟩
          have n0_ := Aside0.mk (Kd.R_elder' (q_r (HO_358001.out)) (Kd.R_base ho0) hb)
          have n1_ := Aside0.mk (Kd.R_elder' (q_r (HO_364002.out)) (Kd.R_base ho0) hb)
          have n2_ := Aside0.mk (Kd.R_elder' (q_r (HO_370002.out)) (Kd.R_base ho0) hb)
          have n3_ := Aside0.mk (Kd.R_below (q_r (HO_375001.out)) hb)
          have n4_ := Aside0.mk (Kd.R_lower (Kd.R_new' (Kd.R_new' (Kd.R_new' ho0 (Kd.R_lt (q_r (HO_358001.out)))) (Kd.R_lt (q_r (HO_364002.out)))) (Kd.R_lt (q_r (HO_370002.out)))) (below_size bq))
          have n5_ := Aside0.mk (blk_below (q_b BK357.out) hb)
          have n6_ := Aside0.mk (blk_below (q_b BK363.out) hb)
          have n7_ := Aside0.mk (blk_below (q_b BK369.out) hb)
          have n8_ := Aside0.mk (blk_below (q_b BK374.out) hb)
          have n9_ := Aside0.mk (blk_below (q_b BK380.out) hb)
          have n10_ := Aside0.mk (below_step bq hb)
          clear HO_358001
          clear HO_364002
          clear HO_370002
          clear HO_375001
          clear BK357
          clear BK363
          clear BK369
          clear BK374
          clear BK380
          clear HB
          have HO_358001 := n0_
          have HO_364002 := n1_
          have HO_370002 := n2_
          have HO_375001 := n3_
          have HO379 := n4_
          have BK357 := n5_
          have BK363 := n6_
          have BK369 := n7_
          have BK374 := n8_
          have BK380 := n9_
          have HB := n10_
          clear n0_ n1_ n2_ n3_ n4_ n5_ n6_ n7_ n8_ n9_ n10_
          (try clear hb)
          (try clear hb2)
          (try clear hk)
          (try clear hi)
          (try clear ho0)
          refine hK.out _ _ ⟨q_z BK357.out 0, q_z BK357.out 1, q_z BK374.out 0, q_z BK374.out 1, HS4_⟩ (fun hHeld => ?_)
          clear hK K
          refine norm_ (a' := ?_) ?_ ?_
          rotate_left
          ·show Act.put _ (some 52) _ = _
           simp only [Act.put, List.setIfInBounds_toArray, List.set_cons_zero, List.set_cons_succ, i64_w, i32_w]
           rfl
          exact norm_ (by simp only [putAll, Act.put, List.setIfInBounds_toArray, List.set_cons_zero, List.set_cons_succ]) (hCont (v378, gb380) _ ⟨hHeld, (by (with_reducible repeat (first | apply Kd.R_alloc | apply Kd.R_drewN | apply Kd.R_drew)); exact Kd.R_mono HO379.out (fun _ hk => ⟨hk.1.1.2, ⟨hk.1.2, hk.2⟩⟩)), (by (with_reducible repeat (first | apply Kd.R_alloc | apply Kd.R_drewN | apply Kd.R_drew)); exact Kd.R_mono HO_358001.out (fun _ hk => ⟨hk.2, ⟨hk.1.1, hk.1.2⟩⟩)), (by (with_reducible repeat (first | apply Kd.R_alloc | apply Kd.R_drewN | apply Kd.R_drew)); exact Kd.R_mono HO_364002.out (fun _ hk => ⟨hk.2, ⟨hk.1.1, hk.1.2⟩⟩)), (by (with_reducible repeat (first | apply Kd.R_alloc | apply Kd.R_drewN | apply Kd.R_drew)); exact Kd.R_mono HO_370002.out (fun _ hk => ⟨hk.2, ⟨hk.1.1, hk.1.2⟩⟩)), (q_r (HO_375001.out)), kq, kq, kq, kq, kq, GW380.out, GE380.out, NB357_380.out, NB380_357.out, NB363_380.out, NB380_363.out, NB369_380.out, NB380_369.out, NB374_380.out, NB380_374.out, bq⟩)
        rintro ⟨v378, gb380⟩ w44 ⟨hS_, h0_, h1_, h2_, h3_, h4_, h5_, h6_, h7_, h8_, h9_, h10_, h11_, h12_, h13_, h14_, h15_, h16_, h17_, h18_, h19_, h20_⟩
        have n0_ : Aside0 (Kd.R k89 89 w44 w.heap.size (fun k_ => some k_ ≠ (.slice Ao12 t353.length co12 : Value).ownBlock ∧ some k_ ≠ (.slice Ao17 t360.length co17 : Value).ownBlock ∧ some k_ ≠ (.slice Ao24 t366.length co24 : Value).ownBlock) v378 t377) := ⟨h0_⟩
        have n1_ : Aside0 (Kd.R k89 89 w44 w.heap.size (fun k_ => some k_ ≠ (v378 : Value).ownBlock ∧ some k_ ≠ (.slice Ao17 t360.length co17 : Value).ownBlock ∧ some k_ ≠ (.slice Ao24 t366.length co24 : Value).ownBlock) (.slice Ao12 t353.length co12) t353) := ⟨h1_⟩
        have n2_ : Aside0 (Kd.R k89 89 w44 w.heap.size (fun k_ => some k_ ≠ (v378 : Value).ownBlock ∧ some k_ ≠ (.slice Ao12 t353.length co12 : Value).ownBlock ∧ some k_ ≠ (.slice Ao24 t366.length co24 : Value).ownBlock) (.slice Ao17 t360.length co17) t360) := ⟨h2_⟩
        have n3_ : Aside0 (Kd.R k89 89 w44 w.heap.size (fun k_ => some k_ ≠ (v378 : Value).ownBlock ∧ some k_ ≠ (.slice Ao12 t353.length co12 : Value).ownBlock ∧ some k_ ≠ (.slice Ao17 t360.length co17 : Value).ownBlock) (.slice Ao24 t366.length co24) t366) := ⟨h3_⟩
        have n4_ : Aside0 (Kd.R (Kd.int .i64) 2 w44 w.heap.size (fun _ => True) (.slice (some ad375) t371.length co32) t371) := ⟨h4_⟩
        have n5_ : Aside0 (w44.heap[gb357]? = some (.cells #[.int .i64 t352, .slice Ao12 t353.length co12] 36 (0, 0))) := ⟨h5_⟩
        have n6_ : Aside0 (w44.heap[gb363]? = some (.cells #[.int .i64 t358, .int .i64 t359, .slice Ao17 t360.length co17] 59 (0, 0))) := ⟨h6_⟩
        have n7_ : Aside0 (w44.heap[gb369]? = some (.cells #[.int .i64 t364, .int .i64 t365, .slice Ao24 t366.length co24] 59 (0, 0))) := ⟨h7_⟩
        have n8_ : Aside0 (w44.heap[gb374]? = some (.cells #[.int .i64 t370, .slice (some ad375) t371.length co32] 83 (0, 0))) := ⟨h8_⟩
        have n9_ : Aside0 (w44.heap[gb380]? = some (.cells #[.int .i64 0, .slice none 0 0] 65 (0, 0))) := ⟨h9_⟩
        have n10_ : Aside0 (w.heap.size ≤ gb380) := ⟨h10_⟩
        have n11_ : Aside0 (w.heap.size ≤ gb380) := ⟨h11_⟩
        have n12_ : Aside0 (gb357 ≠ gb380) := ⟨h12_⟩
        have n13_ : Aside0 (gb380 ≠ gb357) := ⟨h13_⟩
        have n14_ : Aside0 (gb363 ≠ gb380) := ⟨h14_⟩
        have n15_ : Aside0 (gb380 ≠ gb363) := ⟨h15_⟩
        have n16_ : Aside0 (gb369 ≠ gb380) := ⟨h16_⟩
        have n17_ : Aside0 (gb380 ≠ gb369) := ⟨h17_⟩
        have n18_ : Aside0 (gb374 ≠ gb380) := ⟨h18_⟩
        have n19_ : Aside0 (gb380 ≠ gb374) := ⟨h19_⟩
        have n20_ : Aside0 (Below w.heap.size w w44) := ⟨h20_⟩
        clear HO_358001
        clear HO_364002
        clear HO_370002
        clear HO_375001
        clear BK357
        clear BK363
        clear BK369
        clear BK374
        clear HB
        clear h0_ h1_ h2_ h3_ h4_ h5_ h6_ h7_ h8_ h9_ h10_ h11_ h12_ h13_ h14_ h15_ h16_ h17_ h18_ h19_ h20_
        have HO379 := n0_
        have HO_358001 := n1_
        have HO_364002 := n2_
        have HO_370002 := n3_
        have HO_375001 := n4_
        have BK357 := n5_
        have BK363 := n6_
        have BK369 := n7_
        have BK374 := n8_
        have BK380 := n9_
        have GW380 := n10_
        have GE380 := n11_
        have NB357_380 := n12_
        have NB380_357 := n13_
        have NB363_380 := n14_
        have NB380_363 := n15_
        have NB369_380 := n16_
        have NB380_369 := n17_
        have NB374_380 := n18_
        have NB380_374 := n19_
        have HB := n20_
        clear n0_ n1_ n2_ n3_ n4_ n5_ n6_ n7_ n8_ n9_ n10_ n11_ n12_ n13_ n14_ n15_ n16_ n17_ n18_ n19_ n20_
        have hHeld : w44.cell? ⟨gb357, 0, none⟩ = some (.int .i64 t352) ∧ w44.cell? ⟨gb357, 1, none⟩ = some (.slice Ao12 t353.length co12) ∧ w44.cell? ⟨gb374, 0, none⟩ = some (.int .i64 t370) ∧ w44.cell? ⟨gb374, 1, none⟩ = some (.slice (some ad375) t371.length co32) ∧ w44.cell? (ad375.add (x9_1).toNat) = some (.int .i64 (rd t371 x9_1)) := hS_
        obtain ⟨Ao46, co46, eo46⟩ := Kd.R_slice HO379.out
        (first | subst eo46 | (injection eo46 with f1_ f2_ f3_; have f4_ := f1_.symm; have f5_ := f3_.symm; clear f1_ f2_ f3_; subst f4_; subst f5_))
        refine norm_ (a' := ?_) ?_ ?_
        rotate_left
        ·simp only [putAll, Act.put, List.setIfInBounds_toArray, List.set_cons_zero, List.set_cons_succ]
         rfl
        refine one_ (i := 8) (N := none) #[true, true, true, true, true, true, true, true, true] rfl rfl (one_of HT_.out (by kernel_rfl)) (by decide) (fun K hK => ?_)
        have hs45 : w44.cell? ⟨gb380, 0, none⟩ = some (.int .i64 0) := (blk_cell BK380.out 0).trans rfl
        have hfs45 := blk_frozen BK380.out 0
        have hns45_0 := NB357_380.out
        have hns45_1 := NB363_380.out
        have hns45_2 := NB369_380.out
        have hns45_3 := NB374_380.out
        have hms45_0 := NB380_357.out
        have hms45_1 := NB380_363.out
        have hms45_2 := NB380_369.out
        have hms45_3 := NB380_374.out
        have hs47 : w44.cell? ⟨gb380, 1, none⟩ = some (.slice none 0 0) := (blk_cell BK380.out 1).trans rfl
        have hfs47 := blk_frozen BK380.out 1
        have hns47_0 := NB357_380.out
        have hns47_1 := NB363_380.out
        have hns47_2 := NB369_380.out
        have hns47_3 := NB374_380.out
        have hms47_0 := NB380_357.out
        have hms47_1 := NB380_363.out
        have hms47_2 := NB380_369.out
        have hms47_3 := NB380_374.out
        refine skip_ (w1 := ?_) (by rfl) rfl ?_ ?_
        rotate_left
        ·go_simp
         rfl
        refine hK.out _ _ ⟨((cell_far (p := ⟨gb380, _, none⟩) NB357_380.out _).trans (((cell_far (p := ⟨gb380, _, none⟩) NB357_380.out _).trans (hHeld.1)))), ((cell_far (p := ⟨gb380, _, none⟩) NB357_380.out _).trans (((cell_far (p := ⟨gb380, _, none⟩) NB357_380.out _).trans (hHeld.2.1)))), ((cell_far (p := ⟨gb380, _, none⟩) NB374_380.out _).trans (((cell_far (p := ⟨gb380, _, none⟩) NB374_380.out _).trans (hHeld.2.2.1)))), ((cell_far (p := ⟨gb380, _, none⟩) NB374_380.out _).trans (((cell_far (p := ⟨gb380, _, none⟩) NB374_380.out _).trans (hHeld.2.2.2.1)))), ((cell_far (p := ⟨gb380, _, none⟩) (by first | exact Kd.own_blk (Kd.R_ne HO_375001.out BK380.out (by decide)) | (rw [add_block]; exact Kd.own_blk (Kd.R_ne HO_375001.out BK380.out (by decide))) | (show (Addr.add _ _).block ≠ _; rw [add_block]; exact Kd.own_blk (Kd.R_ne HO_375001.out BK380.out (by decide))) | (dsimp only; exact Kd.own_blk (Kd.R_ne HO_375001.out BK380.out (by decide)))) _).trans (((cell_far (p := ⟨gb380, _, none⟩) (by first | exact Kd.own_blk (Kd.R_ne HO_375001.out BK380.out (by decide)) | (rw [add_block]; exact Kd.own_blk (Kd.R_ne HO_375001.out BK380.out (by decide))) | (show (Addr.add _ _).block ≠ _; rw [add_block]; exact Kd.own_blk (Kd.R_ne HO_375001.out BK380.out (by decide))) | (dsimp only; exact Kd.own_blk (Kd.R_ne HO_375001.out BK380.out (by decide)))) _).trans (hHeld.2.2.2.2))))⟩ (fun hHeld => ?_)
        clear hK K
        refine done_ (done_of HT_.out (by kernel_rfl)) ?_
        have hnb48 := NB380_357.out
        have hnc48 := NB357_380.out
        have hnb49 := NB380_363.out
        have hnc49 := NB363_380.out
        have hnb50 := NB380_369.out
        have hnc50 := NB369_380.out
        have hnb51 := NB380_374.out
        have hnc51 := NB374_380.out
        obtain ⟨hcz52_0, hcz52_1, hfz52_0, hfz52_1⟩ := q_2 BK380.out
        try go_wp2
        go_roundg k1
        case measure => have := HK1.out; omega
        case rel => exact ⟨(wrap64 (x7_1 + (t377.length : Int))), (wrap64 (x9_1 + 1)), q_i, q_i, H', ⟨by have := HK1.out; omega⟩, ⟨by (with_reducible repeat (first | apply Kd.R_alloc | apply Kd.R_drewN | apply Kd.R_drew)); exact Kd.R_mono (Kd.R_far (p := ⟨gb380, 1, none⟩) (Kd.R_far (p := ⟨gb380, 0, none⟩) (Kd.R_types HO_358001.out BK380.out (by decide)) (fun _ hk => hk.2) (.int .i64 t376)) (fun _ hk => hk.2) (.slice Ao46 t377.length co46)) (fun _ hk => ⟨hk.1.2.1, hk.1.2.2⟩)⟩, ⟨by (with_reducible repeat (first | apply Kd.R_alloc | apply Kd.R_drewN | apply Kd.R_drew)); exact Kd.R_mono (Kd.R_far (p := ⟨gb380, 1, none⟩) (Kd.R_far (p := ⟨gb380, 0, none⟩) (Kd.R_types HO_364002.out BK380.out (by decide)) (fun _ hk => hk.2) (.int .i64 t376)) (fun _ hk => hk.2) (.slice Ao46 t377.length co46)) (fun _ hk => ⟨hk.1.2.1, hk.1.2.2⟩)⟩, ⟨by (with_reducible repeat (first | apply Kd.R_alloc | apply Kd.R_drewN | apply Kd.R_drew)); exact Kd.R_mono (Kd.R_far (p := ⟨gb380, 1, none⟩) (Kd.R_far (p := ⟨gb380, 0, none⟩) (Kd.R_types HO_370002.out BK380.out (by decide)) (fun _ hk => hk.2) (.int .i64 t376)) (fun _ hk => hk.2) (.slice Ao46 t377.length co46)) (fun _ hk => ⟨hk.1.2.1, hk.1.2.2⟩)⟩, ⟨by (with_reducible repeat (first | apply Kd.R_alloc | apply Kd.R_drewN | apply Kd.R_drew)); exact Kd.R_mono (Kd.R_far (p := ⟨gb380, 1, none⟩) (Kd.R_far (p := ⟨gb380, 0, none⟩) (Kd.R_types HO_375001.out BK380.out (by decide)) (fun _ hk => hk.2) (.int .i64 t376)) (fun _ hk => hk.2) (.slice Ao46 t377.length co46)) (fun _ hk => trivial)⟩, ⟨by (with_reducible repeat (first | refine blk_drewN ?_ _ | refine blk_drew ?_ | refine blk_alloc ?_ _)); refine blk_far ?_ NB357_380.out _; (with_reducible repeat (first | refine blk_drewN ?_ _ | refine blk_drew ?_ | refine blk_alloc ?_ _)); refine blk_far ?_ NB357_380.out _; (with_reducible repeat (first | refine blk_drewN ?_ _ | refine blk_drew ?_ | refine blk_alloc ?_ _)); exact BK357.out⟩, ⟨by (with_reducible repeat (first | refine blk_drewN ?_ _ | refine blk_drew ?_ | refine blk_alloc ?_ _)); refine blk_far ?_ NB363_380.out _; (with_reducible repeat (first | refine blk_drewN ?_ _ | refine blk_drew ?_ | refine blk_alloc ?_ _)); refine blk_far ?_ NB363_380.out _; (with_reducible repeat (first | refine blk_drewN ?_ _ | refine blk_drew ?_ | refine blk_alloc ?_ _)); exact BK363.out⟩, ⟨by (with_reducible repeat (first | refine blk_drewN ?_ _ | refine blk_drew ?_ | refine blk_alloc ?_ _)); refine blk_far ?_ NB369_380.out _; (with_reducible repeat (first | refine blk_drewN ?_ _ | refine blk_drew ?_ | refine blk_alloc ?_ _)); refine blk_far ?_ NB369_380.out _; (with_reducible repeat (first | refine blk_drewN ?_ _ | refine blk_drew ?_ | refine blk_alloc ?_ _)); exact BK369.out⟩, ⟨by (with_reducible repeat (first | refine blk_drewN ?_ _ | refine blk_drew ?_ | refine blk_alloc ?_ _)); refine blk_far ?_ NB374_380.out _; (with_reducible repeat (first | refine blk_drewN ?_ _ | refine blk_drew ?_ | refine blk_alloc ?_ _)); refine blk_far ?_ NB374_380.out _; (with_reducible repeat (first | refine blk_drewN ?_ _ | refine blk_drew ?_ | refine blk_alloc ?_ _)); exact BK374.out⟩, ⟨bq⟩⟩
      ·rw [if_neg c34] at H
       exact absurd H (by simp)
     ·rw [if_neg c33] at H
      have c33b0 := decide_eq_false c33
      clear c33
      have H' := Aside0.mk H
      clear H
      have hnb53 := NB374_357.out
      have hnc53 := NB357_374.out
      have hnb54 := NB374_363.out
      have hnc54 := NB363_374.out
      have hnb55 := NB374_369.out
      have hnc55 := NB369_374.out
      obtain ⟨hcz56_0, hcz56_1, hfz56_0, hfz56_1⟩ := q_2 BK374.out
      go_wp2
      go_loopg [11] k1 (fun kq v11 w' => ∃ (x11_2 : Int), v11 = .int .i64 x11_2 ∧ Aside0 (laws_FnContracts.l1 kq x7_1 x11_2 t352 t353 t358 t359 t360 t364 t365 t366 = some r) ∧ Aside0 (kq ≤ k1) ∧ Aside0 (Kd.R k89 89 w' w.heap.size (fun k_ => some k_ ≠ ((.slice Ao17 t360.length co17) : Value).ownBlock ∧ some k_ ≠ ((.slice Ao24 t366.length co24) : Value).ownBlock) (.slice Ao12 t353.length co12) t353) ∧ Aside0 (Kd.R k89 89 w' w.heap.size (fun k_ => some k_ ≠ ((.slice Ao12 t353.length co12) : Value).ownBlock ∧ some k_ ≠ ((.slice Ao24 t366.length co24) : Value).ownBlock) (.slice Ao17 t360.length co17) t360) ∧ Aside0 (Kd.R k89 89 w' w.heap.size (fun k_ => some k_ ≠ ((.slice Ao12 t353.length co12) : Value).ownBlock ∧ some k_ ≠ ((.slice Ao17 t360.length co17) : Value).ownBlock) (.slice Ao24 t366.length co24) t366) ∧ Aside0 (Kd.R (Kd.int .i64) 2 w' w.heap.size (fun _ => True) (.slice Ao32 t371.length co32) t371) ∧ Aside0 (w'.heap[gb357]? = some (.cells #[.int .i64 t352, (.slice Ao12 t353.length co12)] 36 (0, 0))) ∧ Aside0 (w'.heap[gb363]? = some (.cells #[.int .i64 t358, .int .i64 t359, (.slice Ao17 t360.length co17)] 59 (0, 0))) ∧ Aside0 (w'.heap[gb369]? = some (.cells #[.int .i64 t364, .int .i64 t365, (.slice Ao24 t366.length co24)] 59 (0, 0))) ∧ Aside0 (w'.heap[gb374]? = some (.cells #[.int .i64 t370, (.slice Ao32 t371.length co32)] 83 (0, 0))) ∧ Aside0 (Below w.heap.size w w'))
      case atStart => exact ⟨(0), q_i, H', ⟨Nat.le_refl _⟩, ⟨q_r (HO_358001.out)⟩, ⟨q_r (HO_364002.out)⟩, ⟨q_r (HO_370002.out)⟩, ⟨q_r (HO_375001.out)⟩, ⟨q_b BK357.out⟩, ⟨q_b BK363.out⟩, ⟨q_b BK369.out⟩, ⟨q_b BK374.out⟩, ⟨bq⟩⟩
      case round =>
       clear H'
       (try clear c1); (try clear c2); (try clear p2); (try clear c3); (try clear p3); (try clear q3); (try clear hx3); (try clear c4); (try clear c5); (try clear c6); (try clear c6b0); (try clear c6b1)
       (try clear p6); (try clear c13); (try clear c15); (try clear c21); (try clear c22); (try clear c28); (try clear c29); (try clear c30); (try clear c33); (try clear c33b0); (try clear c34); (try clear c34b0)
       (try clear c36); (try clear c36b0); (try clear c36b1); (try clear c36b2); (try clear c37); (try clear p37); (try clear q37); (try clear hx37); (try clear c38); (try clear c39); (try clear c42); (try clear c48)
       (try clear c49); (try clear c50); (try clear c51); (try clear c53); (try clear c54); (try clear c55); (try clear hcz11_0); (try clear hcz11_1); (try clear hcz16_0); (try clear hcz16_1); (try clear hcz16_2)
       (try clear hcz18_0); (try clear hcz18_1); (try clear hcz23_0); (try clear hcz23_1); (try clear hcz23_2); (try clear hcz25_0); (try clear hcz25_1); (try clear hcz31_0); (try clear hcz31_1); (try clear hcz40_0)
       (try clear hcz40_1); (try clear hcz52_0); (try clear hcz52_1); (try clear hcz56_0); (try clear hcz56_1); (try clear hfz11_0); (try clear hfz11_1); (try clear hfz16_0); (try clear hfz16_1); (try clear hfz16_2)
       (try clear hfz18_0); (try clear hfz18_1); (try clear hfz23_0); (try clear hfz23_1); (try clear hfz23_2); (try clear hfz25_0); (try clear hfz25_1); (try clear hfz31_0); (try clear hfz31_1); (try clear hfz40_0)
       (try clear hfz40_1); (try clear hfz52_0); (try clear hfz52_1); (try clear hfz56_0); (try clear hfz56_1); (try clear hx375_0); (try clear p2); (try clear p375); (try clear q375)
       obtain ⟨x11_2, rfl, HA, HK2, HO_358001, HO_364002, HO_370002, HO_375001, BK357, BK363, BK369, BK374, HB⟩ := hrel
       cases gk with
       | zero => exact absurd HA.out (by simp [laws_FnContracts.l1])
       | succ k2 =>
        have H := HA.out
        clear HA
        simp only [laws_FnContracts.l1] at H
        by_cases c57 : x11_2 < 3
        ·rw [if_pos c57] at H
         have c57b0 := decide_eq_true c57
         clear c57
         replace H := Option.bind_eq_some_iff.mp H
         obtain ⟨⟨t381, t382⟩, A580, H⟩ := H
         replace H : ((impl_SumOf.f k2 t359 t360 x11_2).bind fun bt383 => (if (!(t381 == bt383.1) || (!(t382 == bt383.2))) = true then (none) else (laws_FnContracts.l1 k2 x7_1 (wrap64 (x11_2 + 1)) t352 t353 t358 t359 t360 t364 t365 t366))) = some r := H
         have A58 := Aside0.mk A580
         clear A580
         replace H := Option.bind_eq_some_iff.mp H
         obtain ⟨⟨t383, t384⟩, A590, H⟩ := H
         replace H : (if (!(t381 == t383) || (!(t382 == t384))) = true then (none) else (laws_FnContracts.l1 k2 x7_1 (wrap64 (x11_2 + 1)) t352 t353 t358 t359 t360 t364 t365 t366)) = some r := H
         have A59 := Aside0.mk A590
         clear A590
         by_cases c60 : (!(t381 == t383) || (!(t382 == t384))) = true
         ·rw [if_pos c60] at H
          exact absurd H (by simp)
         ·rw [if_neg c60] at H
          have c60b0 : (!(t381 == t383) || (!(t382 == t384))) = false := by simpa using c60
          clear c60
          have H' := Aside0.mk H
          clear H
          try go_wp2
          have n0_ := Aside0.mk (Kd.R_drew HO_358001.out)
          have n1_ := Aside0.mk (Kd.R_drew HO_364002.out)
          have n2_ := Aside0.mk (Kd.R_drew HO_370002.out)
          have n3_ := Aside0.mk (Kd.R_drew HO_375001.out)
          have n4_ := Aside0.mk (blk_drew BK357.out)
          have n5_ := Aside0.mk (blk_drew BK363.out)
          have n6_ := Aside0.mk (blk_drew BK369.out)
          have n7_ := Aside0.mk (blk_drew BK374.out)
          have n8_ := Aside0.mk (below_drew1 HB.out)
          clear HO_358001
          clear HO_364002
          clear HO_370002
          clear HO_375001
          clear BK357
          clear BK363
          clear BK369
          clear BK374
          clear HB
          have HO_358001 := n0_
          have HO_364002 := n1_
          have HO_370002 := n2_
          have HO_375001 := n3_
          have BK357 := n4_
          have BK363 := n5_
          have BK369 := n6_
          have BK374 := n7_
          have HB := n8_
          clear n0_ n1_ n2_ n3_ n4_ n5_ n6_ n7_ n8_
          refine start_ (n := 8) (S := fun w' => w'.cell? ⟨gb357, 0, none⟩ = some (.int .i64 t352) ∧ w'.cell? ⟨gb357, 1, none⟩ = some (.slice Ao12 t353.length co12) ∧ w'.cell? ⟨gb363, 0, none⟩ = some (.int .i64 t358) ∧ w'.cell? ⟨gb363, 1, none⟩ = some (.int .i64 t359) ∧ w'.cell? ⟨gb363, 2, none⟩ = some (.slice Ao17 t360.length co17)) (ds := []) #[false, false, false, false, false, false, false, false] (by kernel_rfl) rfl rfl ⟨q_z BK357.out 0, q_z BK357.out 1, q_z BK363.out 0, q_z BK363.out 1, q_z BK363.out 2⟩ (fun hHeld => ?_); refine with_tabW laws_FnContracts.tab20 laws_FnContracts.bits20 (fun HT_ HW_ => ?_)
          generalize wr.drew = w61 at HO_358001 HO_364002 HO_370002 HO_375001 BK357 BK363 BK369 BK374 HB hHeld ⊢
          refine pure_ (i := 1) (N := some 67) (v := ?_) (a' := ?_) #[false, true, false, false, false, false, false, false] rfl rfl (any_of HT_.out (by kernel_rfl)) (fun _ _ _ h => h) (Or.inl ⟨by rfl, ?_⟩) ?_ ?_
          rotate_left
          ·intro w'
           go_simp
           (try (simp only [Instr.field, asAgg]; go_simp))
           with_reducible rfl
          rotate_left
          ·simp only [Act.put, List.setIfInBounds_toArray, List.set_cons_zero, List.set_cons_succ, i64_w, i32_w]
           rfl
          refine pure_ (i := 3) (N := some 69) (v := ?_) (a' := ?_) #[false, true, false, true, false, false, false, false] rfl rfl (any_of HT_.out (by kernel_rfl)) (fun _ _ _ h => h) (Or.inl ⟨by rfl, ?_⟩) ?_ ?_
          rotate_left
          ·intro w'
           go_simp
           (try (simp only [Instr.field, asAgg]; go_simp))
           with_reducible rfl
          rotate_left
          ·simp only [Act.put, List.setIfInBounds_toArray, List.set_cons_zero, List.set_cons_succ, i64_w, i32_w]
           rfl
          refine pure_ (i := 5) (N := some 71) (v := ?_) (a' := ?_) #[false, true, false, true, false, true, false, false] rfl rfl (any_of HT_.out (by kernel_rfl)) (fun _ _ _ h => h) (Or.inl ⟨by rfl, ?_⟩) ?_ ?_
          rotate_left
          ·intro w'
           go_simp
           (try (simp only [Instr.field, asAgg]; go_simp))
           with_reducible rfl
          rotate_left
          ·simp only [Act.put, List.setIfInBounds_toArray, List.set_cons_zero, List.set_cons_succ, i64_w, i32_w]
           rfl
          refine q_t 0 (some 66) #[true, true, false, true, false, true, false, false] HT_.out HW_.out hHeld ?_
          refine q_t 4 (some 70) #[true, true, false, true, true, true, false, false] HT_.out HW_.out hHeld ?_
          refine one_ (i := 2) (N := some 68) #[true, true, true, true, true, true, false, false] rfl rfl (one_of HT_.out (by kernel_rfl)) (by decide) (fun K hK => ?_)
          refine goes_ Try.func28 (by kernel_rfl) rfl #[.agg #[.int .i64 t352, .slice Ao12 t353.length co12], .int .i64 x11_2] (by rfl) rfl rfl (by (try simp only [List.map_toArray, List.map_cons, List.map_nil]); first | done | rfl | (simp only [List.length_drop, List.length_take]; rfl)) ?_
          with_reducible refine (impl_SumOf.calls k2 t352 _ _ t353 x11_2 t381 t382 _ ?side1 ?side2 A58.out).mono ?_
          (case side1 => exact q_c ((Kd.R_reads' HO_358001.out).2.2))
          (case side2 => exact (Kd.R_reads' HO_358001.out).2.1)
          rintro e w62 ⟨rfl, hb⟩
          refine ⟨_, rfl, ?_⟩
          have n0_ := Aside0.mk (Kd.R_below (q_r (HO_358001.out)) hb)
          have n1_ := Aside0.mk (Kd.R_below (q_r (HO_364002.out)) hb)
          have n2_ := Aside0.mk (Kd.R_below (q_r (HO_370002.out)) hb)
          have n3_ := Aside0.mk (Kd.R_below (q_r (HO_375001.out)) hb)
          have n4_ := Aside0.mk (blk_below (q_b BK357.out) hb)
          have n5_ := Aside0.mk (blk_below (q_b BK363.out) hb)
          have n6_ := Aside0.mk (blk_below (q_b BK369.out) hb)
          have n7_ := Aside0.mk (blk_below (q_b BK374.out) hb)
          have n8_ := Aside0.mk (below_step bq hb)
          clear HO_358001
          clear HO_364002
          clear HO_370002
          clear HO_375001
          clear BK357
          clear BK363
          clear BK369
          clear BK374
          clear HB
          have HO_358001 := n0_
          have HO_364002 := n1_
          have HO_370002 := n2_
          have HO_375001 := n3_
          have BK357 := n4_
          have BK363 := n5_
          have BK369 := n6_
          have BK374 := n7_
          have HB := n8_
          clear n0_ n1_ n2_ n3_ n4_ n5_ n6_ n7_ n8_
          (try clear hb)
          (try clear hb2)
          (try clear hk)
          (try clear hi)
          refine hK.out _ _ ⟨q_z BK357.out 0, q_z BK357.out 1, q_z BK363.out 0, q_z BK363.out 1, q_z BK363.out 2⟩ (fun hHeld => ?_)
          clear hK K
          refine norm_ (a' := ?_) ?_ ?_
          rotate_left
          ·show Act.put _ (some 68) _ = _
           simp only [Act.put, List.setIfInBounds_toArray, List.set_cons_zero, List.set_cons_succ, i64_w, i32_w]
           rfl
          refine one_ (i := 6) (N := some 72) #[true, true, true, true, true, true, true, false] rfl rfl (one_of HT_.out (by kernel_rfl)) (by decide) (fun K hK => ?_)
          refine goes_ Try.func28 (by kernel_rfl) rfl #[.agg #[.int .i64 t359, .slice Ao17 t360.length co17], .int .i64 x11_2] (by rfl) rfl rfl (by (try simp only [List.map_toArray, List.map_cons, List.map_nil]); first | done | rfl | (simp only [List.length_drop, List.length_take]; rfl)) ?_
          with_reducible refine (impl_SumOf.calls k2 t359 _ _ t360 x11_2 t383 t384 _ ?side1 ?side2 A59.out).mono ?_
          (case side1 => exact q_c ((Kd.R_reads' HO_364002.out).2.2))
          (case side2 => exact (Kd.R_reads' HO_364002.out).2.1)
          rintro e w63 ⟨rfl, hb⟩
          refine ⟨_, rfl, ?_⟩
          have n0_ := Aside0.mk (Kd.R_below (q_r (HO_358001.out)) hb)
          have n1_ := Aside0.mk (Kd.R_below (q_r (HO_364002.out)) hb)
          have n2_ := Aside0.mk (Kd.R_below (q_r (HO_370002.out)) hb)
          have n3_ := Aside0.mk (Kd.R_below (q_r (HO_375001.out)) hb)
          have n4_ := Aside0.mk (blk_below (q_b BK357.out) hb)
          have n5_ := Aside0.mk (blk_below (q_b BK363.out) hb)
          have n6_ := Aside0.mk (blk_below (q_b BK369.out) hb)
          have n7_ := Aside0.mk (blk_below (q_b BK374.out) hb)
          have n8_ := Aside0.mk (below_step bq hb)
          clear HO_358001
          clear HO_364002
          clear HO_370002
          clear HO_375001
          clear BK357
          clear BK363
          clear BK369
          clear BK374
          clear HB
          have HO_358001 := n0_
          have HO_364002 := n1_
          have HO_370002 := n2_
          have HO_375001 := n3_
          have BK357 := n4_
          have BK363 := n5_
          have BK369 := n6_
          have BK374 := n7_
          have HB := n8_
          clear n0_ n1_ n2_ n3_ n4_ n5_ n6_ n7_ n8_
          (try clear hb)
          (try clear hb2)
          (try clear hk)
          (try clear hi)
          refine hK.out _ _ ⟨q_z BK357.out 0, q_z BK357.out 1, q_z BK363.out 0, q_z BK363.out 1, q_z BK363.out 2⟩ (fun hHeld => ?_)
          clear hK K
          refine norm_ (a' := ?_) ?_ ?_
          rotate_left
          ·show Act.put _ (some 72) _ = _
           simp only [Act.put, List.setIfInBounds_toArray, List.set_cons_zero, List.set_cons_succ, i64_w, i32_w]
           rfl
          refine pure_ (i := 7) (N := some 73) (v := ?_) (a' := ?_) #[true, true, true, true, true, true, true, true] rfl rfl (any_of HT_.out (by kernel_rfl)) (fun _ _ _ h => h) (Or.inl ⟨by rfl, ?_⟩) ?_ ?_
          rotate_left
          ·intro w'
           go_simp
           (try (simp only [Instr.field, asAgg]; go_simp))
           with_reducible rfl
          rotate_left
          ·simp only [Act.put, List.setIfInBounds_toArray, List.set_cons_zero, List.set_cons_succ, i64_w, i32_w]
           rfl
          refine done_ (done_of HT_.out (by kernel_rfl)) ?_
          try go_wp2
          go_roundg k2
          case measure => have := HK1.out; have := HK2.out; omega
          case rel => exact ⟨(wrap64 (x11_2 + 1)), q_i, H', ⟨by have := HK1.out; have := HK2.out; omega⟩, ⟨q_r (HO_358001.out)⟩, ⟨q_r (HO_364002.out)⟩, ⟨q_r (HO_370002.out)⟩, ⟨q_r (HO_375001.out)⟩, ⟨q_b BK357.out⟩, ⟨q_b BK363.out⟩, ⟨q_b BK369.out⟩, ⟨q_b BK374.out⟩, ⟨bq⟩⟩
        ·rw [if_neg c57] at H
         have c57b0 := decide_eq_false c57
         clear c57
         replace H := Option.bind_eq_some_iff.mp H
         obtain ⟨t385, A640, H⟩ := H
         replace H : (if t385 = 0 then (if t364 = 0 then ((impl_SameContract.f k2 t365 t366 t352 t353).bind fun t386 => (if t386 = true then (some (x7_1 == (t353.length : Int))) else (none))) else (none)) else (none)) = some r := H
         have A64 := Aside0.mk A640
         clear A640
         by_cases c65 : t385 = 0
         ·rw [if_pos c65] at H
          have c65b0 : (t385 == 0) = true := beq_iff_eq.mpr c65
          have c65b1 : (t385 != 0) = false := bne_eq_false_iff_eq.mpr c65
          clear c65
          by_cases c66 : t364 = 0
          ·rw [if_pos c66] at H
           have c66b0 : (t364 == 0) = true := beq_iff_eq.mpr c66
           have c66b1 : (t364 != 0) = false := bne_eq_false_iff_eq.mpr c66
           clear c66
           replace H := Option.bind_eq_some_iff.mp H
           obtain ⟨t386, A670, H⟩ := H
           replace H : (if t386 = true then (some (x7_1 == (t353.length : Int))) else (none)) = some r := H
           have A67 := Aside0.mk A670
           clear A670
           by_cases c68 : t386 = true
           ·subst c68
            have H1 : (some (x7_1 == (t353.length : Int))) = some r := by rw [if_pos rfl] at H; exact H
            clear H
            have H := H1
            clear H1
            obtain rfl := Option.some.inj H
            have hnb69 := NB363_357.out
            have hnc69 := NB357_363.out
            have hnb70 := NB363_369.out
            have hnc70 := NB369_363.out
            have hnb71 := NB363_374.out
            have hnc71 := NB374_363.out
            obtain ⟨hcz72_0, hcz72_1, hcz72_2, hfz72_0, hfz72_1, hfz72_2⟩ := q_3 BK363.out
            go_wp2_with (first | ((with_reducible refine gate_callee (f := 26) rfl ?_); refine goesLq (some 76) rfl rfl Try.func26 (by kernel_rfl) rfl #[.agg #[.int .i64 t359, .slice Ao17 t360.length co17]] rfl ?_; (with_reducible refine (impl_ContractFault.calls k2 t359 _ _ t360 t385 _ ?side1 ?side2 A64.out).mono ?_); (case side1 => exact q_c ((Kd.R_reads' HO_364002.out).2.2)); (case side2 => exact (Kd.R_reads' HO_364002.out).2.1); rintro e w73 ⟨rfl, hb⟩; refine ⟨_, rfl, ?_⟩; have n0_ := Aside0.mk (Kd.R_below (q_r (HO_358001.out)) hb); have n1_ := Aside0.mk (Kd.R_below (q_r (HO_364002.out)) hb); have n2_ := Aside0.mk (Kd.R_below (q_r (HO_370002.out)) hb); have n3_ := Aside0.mk (Kd.R_below (q_r (HO_375001.out)) hb); have n4_ := Aside0.mk (blk_below (q_b BK357.out) hb); have n5_ := Aside0.mk (blk_below (q_b BK363.out) hb); have n6_ := Aside0.mk (blk_below (q_b BK369.out) hb); have n7_ := Aside0.mk (blk_below (q_b BK374.out) hb); have n8_ := Aside0.mk (below_step bq hb); revert n0_ n1_ n2_ n3_ n4_ n5_ n6_ n7_ n8_; clear HO_358001 HO_364002 HO_370002 HO_375001 BK357 BK363 BK369 BK374 HB; intro HO_358001 HO_364002 HO_370002 HO_375001 BK357 BK363 BK369 BK374 HB; (try clear hb); (try clear hb2); (try clear hk); (try clear hi); have hnb74 := NB369_357.out; have hnc74 := NB357_369.out; have hnb75 := NB369_374.out; have hnc75 := NB374_369.out; obtain ⟨hcz76_0, hcz76_1, hcz76_2, hfz76_0, hfz76_1, hfz76_2⟩ := q_3 BK369.out; have hnb77 := NB357_374.out; have hnc77 := NB374_357.out; obtain ⟨hcz78_0, hcz78_1, hfz78_0, hfz78_1⟩ := q_2 BK357.out) | (go_at_call 23; (with_reducible refine (impl_SameContract.calls k2 t365 _ _ t366 t352 _ _ t353 true _ ?side1 ?side2 ?side3 ?side4 A67.out).mono ?_); (case side1 => exact q_c ((Kd.R_reads' HO_370002.out).2.2)); (case side2 => exact (Kd.R_reads' HO_370002.out).2.1); (case side3 => exact q_c ((Kd.R_reads' HO_358001.out).2.2)); (case side4 => exact (Kd.R_reads' HO_358001.out).2.1); rintro e w79 ⟨rfl, hb⟩; have n0_ := Aside0.mk (Kd.R_below (q_r (HO_358001.out)) hb); have n1_ := Aside0.mk (Kd.R_below (q_r (HO_364002.out)) hb); have n2_ := Aside0.mk (Kd.R_below (q_r (HO_370002.out)) hb); have n3_ := Aside0.mk (Kd.R_below (q_r (HO_375001.out)) hb); have n4_ := Aside0.mk (blk_below (q_b BK357.out) hb); have n5_ := Aside0.mk (blk_below (q_b BK363.out) hb); have n6_ := Aside0.mk (blk_below (q_b BK369.out) hb); have n7_ := Aside0.mk (blk_below (q_b BK374.out) hb); have n8_ := Aside0.mk (below_step bq hb); revert n0_ n1_ n2_ n3_ n4_ n5_ n6_ n7_ n8_; clear HO_358001 HO_364002 HO_370002 HO_375001 BK357 BK363 BK369 BK374 HB; intro HO_358001 HO_364002 HO_370002 HO_375001 BK357 BK363 BK369 BK374 HB; (try clear hb); (try clear hb2); (try clear hk); (try clear hi); obtain ⟨hcz80_0, hcz80_1, hfz80_0, hfz80_1⟩ := q_2 BK357.out))
            go_ret
            exact ⟨q_e, bq⟩
           ·replace c68 := Bool.eq_false_iff.mpr c68
            subst c68
            have H1 : (none) = some r := by rw [if_neg (show ¬ (false = true) by decide)] at H; exact H
            clear H
            have H := H1
            clear H1
            exact absurd H (by simp)
          ·rw [if_neg c66] at H
           exact absurd H (by simp)
         ·rw [if_neg c65] at H
          exact absurd H (by simp)
  ·rw [if_neg c6] at H
   have c6b0 : (t358 == 0) = false := beq_eq_false_iff_ne.mpr c6
   have c6b1 : (t358 != 0) = true := bne_iff_ne.mpr c6
   replace H := Option.bind_eq_some_iff.mp H
   obtain ⟨⟨t387, t388, t389⟩, A810, H⟩ := H
   replace H : (some (t387 == t358)) = some r := H
   have A81 := Aside0.mk A810
   clear A810
   obtain rfl := Option.some.inj H
   go_enter Try.func13, Try.ntmps13
   try go_wp2_with (first | ((with_reducible refine gate_callee (f := 53) rfl ?_); refine goesLq (some 13) rfl rfl Try.func53 (by kernel_rfl) rfl #[.slice A0 l0.length c0] rfl ?_; (with_reducible refine (laws_lwBig.calls _ _ l0 false _ ?side1 ?side2 A2.out).mono ?_); (case side1 => exact q_c (HR0.out)); (case side2 => exact HC0.out); rintro e w' ⟨rfl, ⟨nd, rfl⟩⟩; refine ⟨_, rfl, ?_⟩) | ((with_reducible refine gate_callee (f := 59) rfl ?_); refine goesLq (some 16) rfl rfl Try.func59 (by kernel_rfl) rfl #[.slice A0 l0.length c0] rfl ?_; (with_reducible refine (spec_DrawReverseOf.calls k _ _ l0 t352 t353 t356 _ ?side1 ?side2 A4.out).mono ?_); (case side1 => exact q_c (HR0.out)); (case side2 => exact HC0.out); rintro e w82 ⟨v354, rfl, ho0, hb⟩; refine ⟨_, rfl, ?_⟩; have n0_ := Aside0.mk (Kd.R_lower ho0 (below_size bq)); have n1_ := Aside0.mk (below_step bq hb); revert n0_ n1_; clear HB; intro HO355 HB; (try clear hb); (try clear hb2); (try clear hk); (try clear hi); (try clear ho0)) | ((with_reducible refine gate_dst (N := 3) rfl ?_); (try (refine gate_guard (by rfl) ?_; dsimp only)); refine q_box (N := 3) (cs := #[.int .i64 0, .slice none 0 0]) (t := 36) ?_; intro gb357 hg w83 hbox hb; have n0_ := Aside0.mk (Kd.R_below (q_r (HO355.out)) hb); have n1_ := Aside0.mk (below_step bq hb); have n2_ := Aside0.mk (hbox); have n3_ := Aside0.mk ((q_g hg bq : w.heap.size ≤ gb357)); have n4_ := Aside0.mk ((q_g hg bq : w.heap.size ≤ gb357)); revert n0_ n1_ n2_ n3_ n4_; clear HO355 HB; intro HO355 HB BK357 GW357 GE357; clear hb hbox hg; obtain ⟨hcz84_0, hcz84_1, hfz84_0, hfz84_1⟩ := q_2 BK357.out; obtain ⟨Ao85, co85, eo85⟩ := Kd.R_slice HO355.out; subst eo85) | ((with_reducible refine gate_callee (f := 36) rfl ?_); refine goesLq (some 21) rfl rfl Try.func36 (by kernel_rfl) rfl #[.agg #[.int .i64 t352, .slice Ao85 t353.length co85], .int .i64 t356] rfl ?_; (with_reducible refine (impl_ReverseOf.calls k t352 _ _ t353 t356 t358 t359 t360 _ ?side1 ?side2 A5.out).mono ?_); (case side1 => refine (Kd.R_reads' (e := 89) (base := w.heap.size) (ok := fun k_ => True) (n := t353.length) (c := co85) ?_).2.2; exact (by (with_reducible repeat (first | apply Kd.R_alloc | apply Kd.R_drewN | apply Kd.R_drew)); exact (Kd.R_mono (Kd.R_far (p := ⟨gb357, 1, none⟩) (Kd.R_far (p := ⟨gb357, 0, none⟩) (Kd.R_types HO355.out BK357.out (by decide)) (fun _ hk => hk.2) (.int .i64 t352)) (fun _ hk => hk.2) (.slice Ao85 t353.length co85)) (fun _ h_ => h_.1)))); (case side2 => exact (Kd.R_reads' HO355.out).2.1); rintro e w86 ⟨v361, rfl, ho0, hb⟩; refine ⟨_, rfl, ?_⟩; have n0_ := Aside0.mk (Kd.R_elder' (by (with_reducible repeat (first | apply Kd.R_alloc | apply Kd.R_drewN | apply Kd.R_drew)); exact (Kd.R_mono (Kd.R_far (p := ⟨gb357, 1, none⟩) (Kd.R_far (p := ⟨gb357, 0, none⟩) (Kd.R_types HO355.out BK357.out (by decide)) (fun _ hk => hk.2) (.int .i64 t352)) (fun _ hk => hk.2) (.slice Ao85 t353.length co85)) (fun _ h_ => h_.1))) (Kd.R_base ho0) hb); have n1_ := Aside0.mk (Kd.R_lower (Kd.R_new' ho0 (Kd.R_lt (by (with_reducible repeat (first | apply Kd.R_alloc | apply Kd.R_drewN | apply Kd.R_drew)); exact (Kd.R_mono (Kd.R_far (p := ⟨gb357, 1, none⟩) (Kd.R_far (p := ⟨gb357, 0, none⟩) (Kd.R_types HO355.out BK357.out (by decide)) (fun _ hk => hk.2) (.int .i64 t352)) (fun _ hk => hk.2) (.slice Ao85 t353.length co85)) (fun _ h_ => h_.1))))) (below_size bq)); have n2_ := Aside0.mk (blk_below (g := gb357) (o := .cells #[.int .i64 t352, .slice Ao85 t353.length co85] 36 (0, 0)) (by (with_reducible repeat (first | refine blk_drewN ?_ _ | refine blk_drew ?_ | refine blk_alloc ?_ _)); refine blk_put (cs := #[.int .i64 t352, .slice none 0 0]) ?_ 1 _ rfl; (with_reducible repeat (first | refine blk_drewN ?_ _ | refine blk_drew ?_ | refine blk_alloc ?_ _)); refine blk_put (cs := #[.int .i64 0, .slice none 0 0]) ?_ 0 _ rfl; (with_reducible repeat (first | refine blk_drewN ?_ _ | refine blk_drew ?_ | refine blk_alloc ?_ _)); exact BK357.out) hb); have n3_ := Aside0.mk (below_step bq hb); revert n0_ n1_ n2_ n3_; clear HO355 BK357 HB; intro HO355 HO362 BK357 HB; (try clear hb); (try clear hb2); (try clear hk); (try clear hi); (try clear ho0)) | ((with_reducible refine gate_dst (N := 5) rfl ?_); (try (refine gate_guard (by rfl) ?_; dsimp only)); refine q_box (N := 5) (cs := #[.int .i64 0, .int .i64 0, .slice none 0 0]) (t := 59) ?_; intro gb363 hg w87 hbox hb; have n0_ := Aside0.mk (Kd.R_below (q_r (HO355.out)) hb); have n1_ := Aside0.mk (Kd.R_below (q_r (HO362.out)) hb); have n2_ := Aside0.mk (blk_below (q_b BK357.out) hb); have n3_ := Aside0.mk (below_step bq hb); have n4_ := Aside0.mk (hbox); have n5_ := Aside0.mk ((q_g hg bq : w.heap.size ≤ gb363)); have n6_ := Aside0.mk ((q_g hg bq : w.heap.size ≤ gb363)); have n7_ := Aside0.mk ((q_n hg (q_b BK357.out) : gb357 ≠ gb363)); have n8_ := Aside0.mk ((q_m hg (q_b BK357.out) : gb363 ≠ gb357)); revert n0_ n1_ n2_ n3_ n4_ n5_ n6_ n7_ n8_; clear HO355 HO362 BK357 HB; intro HO355 HO362 BK357 HB BK363 GW363 GE363 NB357_363 NB363_357; clear hb hbox hg; have hnb88 := NB363_357.out; have hnc88 := NB357_363.out; obtain ⟨hcz89_0, hcz89_1, hcz89_2, hfz89_0, hfz89_1, hfz89_2⟩ := q_3 BK363.out; obtain ⟨Ao90, co90, eo90⟩ := Kd.R_slice HO362.out; subst eo90))
   have n0_ : Aside0 (Kd.R k89 89 (((w87.setCell ⟨gb363, 0, none⟩ (.int .i64 t358)).setCell ⟨gb363, 1, none⟩ (.int .i64 t359)).setCell ⟨gb363, 2, none⟩ (.slice Ao90 t360.length co90)) w.heap.size (fun k_ => some k_ ≠ (.slice Ao90 t360.length co90 : Value).ownBlock) (.slice Ao85 t353.length co85) t353) := ⟨by (with_reducible repeat (first | apply Kd.R_alloc | apply Kd.R_drewN | apply Kd.R_drew)); exact Kd.R_mono (Kd.R_far (p := ⟨gb363, 2, none⟩) (Kd.R_far (p := ⟨gb363, 1, none⟩) (Kd.R_far (p := ⟨gb363, 0, none⟩) (Kd.R_types HO355.out BK363.out (by decide)) (fun _ hk => hk.2) (.int .i64 t358)) (fun _ hk => hk.2) (.int .i64 t359)) (fun _ hk => hk.2) (.slice Ao90 t360.length co90)) (fun _ hk => hk.1.2)⟩
   have n1_ : Aside0 (Kd.R k89 89 (((w87.setCell ⟨gb363, 0, none⟩ (.int .i64 t358)).setCell ⟨gb363, 1, none⟩ (.int .i64 t359)).setCell ⟨gb363, 2, none⟩ (.slice Ao90 t360.length co90)) w.heap.size (fun k_ => some k_ ≠ (.slice Ao85 t353.length co85 : Value).ownBlock) (.slice Ao90 t360.length co90) t360) := ⟨by (with_reducible repeat (first | apply Kd.R_alloc | apply Kd.R_drewN | apply Kd.R_drew)); exact Kd.R_mono (Kd.R_far (p := ⟨gb363, 2, none⟩) (Kd.R_far (p := ⟨gb363, 1, none⟩) (Kd.R_far (p := ⟨gb363, 0, none⟩) (Kd.R_types HO362.out BK363.out (by decide)) (fun _ hk => hk.2) (.int .i64 t358)) (fun _ hk => hk.2) (.int .i64 t359)) (fun _ hk => hk.2) (.slice Ao90 t360.length co90)) (fun _ hk => hk.1.2)⟩
   have n2_ : Aside0 ((((w87.setCell ⟨gb363, 0, none⟩ (.int .i64 t358)).setCell ⟨gb363, 1, none⟩ (.int .i64 t359)).setCell ⟨gb363, 2, none⟩ (.slice Ao90 t360.length co90)).heap[gb357]? = some (.cells #[.int .i64 t352, .slice Ao85 t353.length co85] 36 (0, 0))) := ⟨by (with_reducible repeat (first | refine blk_drewN ?_ _ | refine blk_drew ?_ | refine blk_alloc ?_ _)); refine blk_far ?_ NB357_363.out _; (with_reducible repeat (first | refine blk_drewN ?_ _ | refine blk_drew ?_ | refine blk_alloc ?_ _)); refine blk_far ?_ NB357_363.out _; (with_reducible repeat (first | refine blk_drewN ?_ _ | refine blk_drew ?_ | refine blk_alloc ?_ _)); refine blk_far ?_ NB357_363.out _; (with_reducible repeat (first | refine blk_drewN ?_ _ | refine blk_drew ?_ | refine blk_alloc ?_ _)); exact BK357.out⟩
   have n3_ : Aside0 ((((w87.setCell ⟨gb363, 0, none⟩ (.int .i64 t358)).setCell ⟨gb363, 1, none⟩ (.int .i64 t359)).setCell ⟨gb363, 2, none⟩ (.slice Ao90 t360.length co90)).heap[gb363]? = some (.cells #[.int .i64 t358, .int .i64 t359, .slice Ao90 t360.length co90] 59 (0, 0))) := ⟨by (with_reducible repeat (first | refine blk_drewN ?_ _ | refine blk_drew ?_ | refine blk_alloc ?_ _)); refine blk_put (cs := #[.int .i64 t358, .int .i64 t359, .slice none 0 0]) ?_ 2 _ rfl; (with_reducible repeat (first | refine blk_drewN ?_ _ | refine blk_drew ?_ | refine blk_alloc ?_ _)); refine blk_put (cs := #[.int .i64 t358, .int .i64 0, .slice none 0 0]) ?_ 1 _ rfl; (with_reducible repeat (first | refine blk_drewN ?_ _ | refine blk_drew ?_ | refine blk_alloc ?_ _)); refine blk_put (cs := #[.int .i64 0, .int .i64 0, .slice none 0 0]) ?_ 0 _ rfl; (with_reducible repeat (first | refine blk_drewN ?_ _ | refine blk_drew ?_ | refine blk_alloc ?_ _)); exact BK363.out⟩
   have n4_ : Aside0 (Below w.heap.size w (((w87.setCell ⟨gb363, 0, none⟩ (.int .i64 t358)).setCell ⟨gb363, 1, none⟩ (.int .i64 t359)).setCell ⟨gb363, 2, none⟩ (.slice Ao90 t360.length co90))) := ⟨bq⟩
   (try clear HO355)
   (try clear HO362)
   (try clear BK357)
   (try clear BK363)
   (try clear HB)
   generalize (((w87.setCell ⟨gb363, 0, none⟩ (.int .i64 t358)).setCell ⟨gb363, 1, none⟩ (.int .i64 t359)).setCell ⟨gb363, 2, none⟩ (.slice Ao90 t360.length co90)) = w91 at n0_ n1_ n2_ n3_ n4_ ⊢
   have HO355 := n0_
   have HO362 := n1_
   have BK357 := n2_
   have BK363 := n3_
   have HB := n4_
   clear n0_ n1_ n2_ n3_ n4_
   have n0_ := Aside0.mk (Kd.R_drew HO355.out)
   have n1_ := Aside0.mk (Kd.R_drew HO362.out)
   have n2_ := Aside0.mk (blk_drew BK357.out)
   have n3_ := Aside0.mk (blk_drew BK363.out)
   have n4_ := Aside0.mk (below_drew1 HB.out)
   clear HO355
   clear HO362
   clear BK357
   clear BK363
   clear HB
   have HO355 := n0_
   have HO362 := n1_
   have BK357 := n2_
   have BK363 := n3_
   have HB := n4_
   clear n0_ n1_ n2_ n3_ n4_
   refine start_ (n := 8) (S := fun w' => w'.cell? ⟨gb357, 0, none⟩ = some (.int .i64 t352) ∧ w'.cell? ⟨gb357, 1, none⟩ = some (.slice Ao85 t353.length co85) ∧ w'.cell? ⟨gb363, 0, none⟩ = some (.int .i64 t358) ∧ w'.cell? ⟨gb363, 1, none⟩ = some (.int .i64 t359) ∧ w'.cell? ⟨gb363, 2, none⟩ = some (.slice Ao90 t360.length co90)) (ds := []) #[false, false, false, false, false, false, false, false] (by kernel_rfl) rfl rfl ⟨q_z BK357.out 0, q_z BK357.out 1, q_z BK363.out 0, q_z BK363.out 1, q_z BK363.out 2⟩ (fun hHeld => ?_); refine with_tabW laws_FnContracts.tab6 laws_FnContracts.bits6 (fun HT_ HW_ => ?_)
   generalize w91.drew = w92 at HO355 HO362 BK357 BK363 HB hHeld ⊢
   refine pure_ (i := 1) (N := some 26) (v := ?_) (a' := ?_) #[false, true, false, false, false, false, false, false] rfl rfl (any_of HT_.out (by kernel_rfl)) (fun _ _ _ h => h) (Or.inl ⟨by rfl, ?_⟩) ?_ ?_
   rotate_left
   ·intro w'
    go_simp
    (try (simp only [Instr.field, asAgg]; go_simp))
    with_reducible rfl
   rotate_left
   ·simp only [Act.put, List.setIfInBounds_toArray, List.set_cons_zero, List.set_cons_succ, i64_w, i32_w]
    rfl
   refine pure_ (i := 4) (N := some 29) (v := ?_) (a' := ?_) #[false, true, false, false, true, false, false, false] rfl rfl (any_of HT_.out (by kernel_rfl)) (fun _ _ _ h => h) (Or.inl ⟨by rfl, ?_⟩) ?_ ?_
   rotate_left
   ·intro w'
    go_simp
    (try (simp only [Instr.field, asAgg]; go_simp))
    with_reducible rfl
   rotate_left
   ·simp only [Act.put, List.setIfInBounds_toArray, List.set_cons_zero, List.set_cons_succ, i64_w, i32_w]
    rfl
   refine q_t 0 (some 25) #[true, true, false, false, true, false, false, false] HT_.out HW_.out hHeld ?_
   refine q_t 5 (some 30) #[true, true, false, false, true, true, false, false] HT_.out HW_.out hHeld ?_
   refine one_ (i := 2) (N := some 27) #[true, true, true, false, true, true, false, false] rfl rfl (one_of HT_.out (by kernel_rfl)) (by decide) (fun K hK => ?_)
   refine goes_ Try.func35 (by kernel_rfl) rfl #[.agg #[.int .i64 t352, .slice Ao85 t353.length co85], .int .i64 t356] (by rfl) rfl rfl (by (try simp only [List.map_toArray, List.map_cons, List.map_nil]); first | done | rfl | (simp only [List.length_drop, List.length_take]; rfl)) ?_
   with_reducible refine (spec_ReverseOf.calls k t352 _ _ t353 t356 t387 t388 t389 _ ?side1 ?side2 A81.out).mono ?_
   (case side1 => exact q_c ((Kd.R_reads' HO355.out).2.2))
   (case side2 => exact (Kd.R_reads' HO355.out).2.1)
   rintro e w93 ⟨v390, rfl, ho0, hb⟩
   refine ⟨_, rfl, ?_⟩
   have n0_ := Aside0.mk (Kd.R_elder' (q_r (HO355.out)) (Kd.R_base ho0) hb)
   have n1_ := Aside0.mk (Kd.R_elder' (q_r (HO362.out)) (Kd.R_base ho0) hb)
   have n2_ := Aside0.mk (Kd.R_lower (Kd.R_new' (Kd.R_new' ho0 (Kd.R_lt (q_r (HO355.out)))) (Kd.R_lt (q_r (HO362.out)))) (below_size bq))
   have n3_ := Aside0.mk (blk_below (q_b BK357.out) hb)
   have n4_ := Aside0.mk (blk_below (q_b BK363.out) hb)
   have n5_ := Aside0.mk (below_step bq hb)
   clear HO355
   clear HO362
   clear BK357
   clear BK363
   clear HB
   have HO355 := n0_
   have HO362 := n1_
   have HO391 := n2_
   have BK357 := n3_
   have BK363 := n4_
   have HB := n5_
   clear n0_ n1_ n2_ n3_ n4_ n5_
   (try clear hb)
   (try clear hb2)
   (try clear hk)
   (try clear hi)
   (try clear ho0)
   refine hK.out _ _ ⟨q_z BK357.out 0, q_z BK357.out 1, q_z BK363.out 0, q_z BK363.out 1, q_z BK363.out 2⟩ (fun hHeld => ?_)
   clear hK K
   refine norm_ (a' := ?_) ?_ ?_
   rotate_left
   ·show Act.put _ (some 27) _ = _
    simp only [Act.put, List.setIfInBounds_toArray, List.set_cons_zero, List.set_cons_succ, i64_w, i32_w]
    rfl
   refine pure_ (i := 3) (N := some 28) (v := ?_) (a' := ?_) #[true, true, true, true, true, true, false, false] rfl rfl (any_of HT_.out (by kernel_rfl)) (fun _ _ _ h => h) (Or.inl ⟨by rfl, ?_⟩) ?_ ?_
   rotate_left
   ·intro w'
    go_simp
    (try (simp only [Instr.field, asAgg]; go_simp))
    with_reducible rfl
   rotate_left
   ·simp only [Act.put, List.setIfInBounds_toArray, List.set_cons_zero, List.set_cons_succ, i64_w, i32_w]
    rfl
   refine pure_ (i := 6) (N := some 31) (v := ?_) (a' := ?_) #[true, true, true, true, true, true, true, false] rfl rfl (any_of HT_.out (by kernel_rfl)) (fun _ _ _ h => h) (Or.inl ⟨by rfl, ?_⟩) ?_ ?_
   rotate_left
   ·intro w'
    go_simp
    (try (simp only [Instr.field, asAgg]; go_simp))
    with_reducible rfl
   rotate_left
   ·simp only [Act.put, List.setIfInBounds_toArray, List.set_cons_zero, List.set_cons_succ, i64_w, i32_w]
    rfl
   refine pure_ (i := 7) (N := some 2) (v := ?_) (a' := ?_) #[true, true, true, true, true, true, true, true] rfl rfl (any_of HT_.out (by kernel_rfl)) (fun _ _ _ h => h) (Or.inl ⟨by rfl, ?_⟩) ?_ ?_
   rotate_left
   ·intro w'
    go_simp
    (try (simp only [Instr.field, asAgg]; go_simp))
    with_reducible rfl
   rotate_left
   ·simp only [Act.put, List.setIfInBounds_toArray, List.set_cons_zero, List.set_cons_succ, i64_w, i32_w]
    rfl
   refine done_ (done_of HT_.out (by kernel_rfl)) ?_
   try go_wp2
   go_ret
   exact ⟨q_e, bq⟩

end Go.Proofs.Ytooiamkaipdmpaa.PFnContracts
