/- The functions that a law reaches, each as a plain Lean function with the proof that the machine comes to its answer: written by program (the kit's print, turned by wip/gen). No conditions. -/
import Derived.Test.YtooiamkaipdmpaaPFnContractsx0
import Derived.Test.YtooiamkaipdmpaaPFnContractsx7
import Derived.Test.YtooiamkaipdmpaaPFnContractsx9
namespace Go.Proofs.Ytooiamkaipdmpaa.PFnContracts
open Go.RowKit Go.Proofs.YtooiamkaipdmpaaW.PrintWords Go.Proofs.YtooiamkaipdmpaaW.PrintLast Go.Proofs.YtooiamkaipdmpaaW.PrintMore
attribute [local go_sem] max2_int min2_int max_two min_two max_three min_three max_four min_four   -- for this text's walks alone
set_option linter.unusedVariables false
set_option linter.unusedSimpArgs false

/-! ### spec_DrawReverseOf: function 59 -/
def spec_DrawReverseOf.f (k : Nat) (l0 : List Int) : Option (Int × (List (S89)) × Int) := (spec_l1Source.f l0).bind fun bt288 => ((spec_l1Bent.f k bt288.1 bt288.2).bind fun bt291 => ((spec_l1Pick.f bt288.1 bt291.2.2 (([5, 9, 0, 1000000000, 1000000001] : List Int))).bind fun bt300 => (some (bt291.1, bt291.2.1, bt300.1))))
set_option maxHeartbeats 8000000 in
set_option maxRecDepth 100000 in
theorem spec_DrawReverseOf.calls (k : Nat) (A0 : Option Addr) (c0 : Nat) (l0 : List Int) (r1 : Int) (r2 : List (S89)) (r3 : Int) (w : World) (hr0 : Kd.C (Kd.int .u8) w A0 l0.length l0) (hc0 : l0.length ≤ c0) (h : spec_DrawReverseOf.f k l0 = some (r1, r2, r3)) :
  Calls Try.prog 59 #[.slice A0 l0.length c0] w fun e w' => ∃ v1_ : Value, e = .returned (.tuple #[.agg #[.int .i64 r1, v1_], .int .i64 r3]) ∧ Kd.R k89 89 w' w.heap.size (fun _ => True) v1_ r2 ∧ Below w.heap.size w w' := by
 have hu36 := Try.underlying36
 have HR0 := Aside0.mk hr0
 have HC0 := Aside0.mk hc0
 clear hr0 hc0
 have HB := Aside0.mk (Below.refl w.heap.size w)
 have H : ((spec_l1Source.f l0).bind fun bt288 => ((spec_l1Bent.f k bt288.1 bt288.2).bind fun bt291 => ((spec_l1Pick.f bt288.1 bt291.2.2 (([5, 9, 0, 1000000000, 1000000001] : List Int))).bind fun bt300 => (some (bt291.1, bt291.2.1, bt300.1))))) = some (r1, r2, r3) := h
 clear h
 replace H := Option.bind_eq_some_iff.mp H
 obtain ⟨⟨t288, t289⟩, A20, H⟩ := H
 replace H : ((spec_l1Bent.f k t288 t289).bind fun bt291 => ((spec_l1Pick.f t288 bt291.2.2 (([5, 9, 0, 1000000000, 1000000001] : List Int))).bind fun bt300 => (some (bt291.1, bt291.2.1, bt300.1)))) = some (r1, r2, r3) := H
 have A2 := Aside0.mk A20
 clear A20
 replace H := Option.bind_eq_some_iff.mp H
 obtain ⟨⟨t291, t292, t295⟩, A30, H⟩ := H
 replace H : ((spec_l1Pick.f t288 t295 (([5, 9, 0, 1000000000, 1000000001] : List Int))).bind fun bt300 => (some (t291, t292, bt300.1))) = some (r1, r2, r3) := H
 have A3 := Aside0.mk A30
 clear A30
 obtain ⟨y297, hy297⟩ : ∃ y_ : List Int, y_ = (([5, 9, 0, 1000000000, 1000000001] : List Int)) := ⟨_, rfl⟩
 replace H : ((spec_l1Pick.f t288 t295 y297).bind fun bt300 => (some (t291, t292, bt300.1))) = some (r1, r2, r3) := q_h hy297 H
 have Ny297 := Aside0.mk hy297
 clear hy297
 replace H := Option.bind_eq_some_iff.mp H
 obtain ⟨⟨t300, t301⟩, A40, H⟩ := H
 replace H : (some (t291, t292, t300)) = some (r1, r2, r3) := H
 have A4 := Aside0.mk A40
 clear A40
 simp only [Option.some.injEq, Prod.mk.injEq] at H
 obtain ⟨rfl, rfl, rfl⟩ := H
 go_enter Try.func59, Try.ntmps59
 try go_wp2_with (first | ((with_reducible refine gate_dst (N := 2) rfl ?_); refine q_box (N := 2) (cs := #[.int .i64 0, .slice none 0 0]) (t := 36) ?_; intro gb287 hg w5 hbox hb; have n0_ := Aside0.mk (below_step bq hb); have n1_ := Aside0.mk (hbox); have n2_ := Aside0.mk ((q_g hg bq : w.heap.size ≤ gb287)); have n3_ := Aside0.mk ((q_g hg bq : w.heap.size ≤ gb287)); revert n0_ n1_ n2_ n3_; clear HB; intro HB BK287 GW287 GE287; clear hb hbox hg) | ((with_reducible refine gate_callee (f := 96) rfl ?_); refine goesLq (some 7) rfl rfl Try.func96 (by kernel_rfl) rfl #[.slice A0 l0.length c0] rfl ?_; (with_reducible refine (spec_l1Source.calls _ _ l0 t288 t289 w _ ?side1 ?side2 ?side3 A2.out).mono ?_); (case side1 => repeat (first | (with_reducible first | exact HB.out | apply below_alloc | apply pw_below_drewN | apply below_drew1 | refine below_set ?_ GE287.out) | exact HB.out)); (case side2 => exact HR0.out); (case side3 => exact HC0.out); rintro e w6 ⟨g290, rfl, hi, hb, hb2⟩; refine ⟨_, rfl, ?_⟩; have n0_ := Aside0.mk (blk_below (q_b BK287.out) hb2); have n1_ := Aside0.mk (hb); have n2_ := Aside0.mk (hi); have n3_ := Aside0.mk (IsS130.ne_blk hi (blk_below (q_b BK287.out) hb2) (by decide)); have n4_ := Aside0.mk (Ne.symm (IsS130.ne_blk hi (blk_below (q_b BK287.out) hb2) (by decide))); revert n0_ n1_ n2_ n3_ n4_; clear BK287 HB; intro BK287 HB HI290 NB290_287 NB287_290; (try clear hb); (try clear hb2); (try clear hk); (try clear hi)) | ((with_reducible refine gate_callee (f := 97) rfl ?_); refine goesLq (some 9) rfl rfl Try.func97 (by kernel_rfl) rfl #[.pointer (some ⟨g290, 0, none⟩)] rfl ?_; (with_reducible refine (spec_l1Bent.calls k g290 t288 t289 t291 t292 t295 w _ ?side1 ?side2 A3.out).mono ?_); (case side1 => repeat (first | (with_reducible first | exact HI290.out | apply IsS130.alloc | apply IsS130.drewN | apply IsS130.drew | apply IsS130.set_1 | refine IsS130.far ?_ NB290_287.out _) | exact HI290.out)); (case side2 => repeat (first | (with_reducible first | exact HB.out | apply below_alloc | apply pw_below_drewN | apply below_drew1 | refine below_set ?_ (IsS130.ge HI290.out) | refine below_set ?_ GE287.out) | exact HB.out)); rintro e w7 ⟨v293, rfl, ho0, hi, hb, hk⟩; refine ⟨_, rfl, ?_⟩; have n0_ := Aside0.mk (KeepBut.blk hk (g' := gb287) (o := .cells #[.int .i64 0, .slice none 0 0] 36 (0, 0)) kq NB287_290.out (by simp)); have n1_ := Aside0.mk (Kd.R_lower ho0 (below_size q_B130_290)); have n2_ := Aside0.mk (hb); have n3_ := Aside0.mk (hi); revert n0_ n1_ n2_ n3_; clear BK287 HB HI290; intro BK287 HO294 HB HI290; (try clear hb); (try clear hb2); (try clear hk); (try clear hi); (try clear ho0)) | ((with_reducible refine gate_dst (N := 5) rfl ?_); refine q_box (N := 5) (cs := #[.int .i64 0, .slice none 0 0]) (t := 36) ?_; intro gb296 hg w8 hbox hb; have n0_ := Aside0.mk (Kd.R_below (q_r (HO294.out)) hb); have n1_ := Aside0.mk (blk_below (q_b BK287.out) hb); have n2_ := Aside0.mk (IsS130.below q_I130_290_1 hb); have n3_ := Aside0.mk (below_step q_B130_290 hb); have n4_ := Aside0.mk (hbox); have n5_ := Aside0.mk ((by rw [hg]; exact (below_size q_B130_290) : w.heap.size ≤ gb296)); have n6_ := Aside0.mk ((by rw [hg]; exact (below_size q_B130_290) : w.heap.size ≤ gb296)); have n7_ := Aside0.mk ((q_n hg (q_b BK287.out) : gb287 ≠ gb296)); have n8_ := Aside0.mk ((q_m hg (q_b BK287.out) : gb296 ≠ gb287)); have n9_ := Aside0.mk ((by rw [hg]; exact Nat.ne_of_lt (IsS130.lt (show IsS130 w _ g290 t288 t295 from q_I130_290_1)) : g290 ≠ gb296)); have n10_ := Aside0.mk ((by rw [hg]; exact Nat.ne_of_gt (IsS130.lt (show IsS130 w _ g290 t288 t295 from q_I130_290_1)) : gb296 ≠ g290)); revert n0_ n1_ n2_ n3_ n4_ n5_ n6_ n7_ n8_ n9_ n10_; clear HO294 BK287 HI290 HB; intro HO294 BK287 HI290 HB BK296 GW296 GE296 NB287_296 NB296_287 NB290_296 NB296_290; clear hb hbox hg; have hnb9 := NB296_287.out; have hnc9 := NB287_296.out; have hnb10 := NB296_290.out; have hnc10 := NB290_296.out; obtain ⟨hcz11_0, hcz11_1, hfz11_0, hfz11_1⟩ := q_2 BK296.out; obtain ⟨Ao12, co12, eo12⟩ := Kd.R_slice HO294.out; subst eo12))
 have n0_ : Aside0 (Kd.R k89 89 ((w8.setCell ⟨gb296, 0, none⟩ (.int .i64 t291)).setCell ⟨gb296, 1, none⟩ (.slice Ao12 t292.length co12)) w.heap.size (fun _ => True) (.slice Ao12 t292.length co12) t292) := ⟨by (with_reducible repeat (first | apply Kd.R_alloc | apply Kd.R_drewN | apply Kd.R_drew)); exact Kd.R_mono (Kd.R_far (p := ⟨gb296, 1, none⟩) (Kd.R_far (p := ⟨gb296, 0, none⟩) (Kd.R_types HO294.out BK296.out (by decide)) (fun _ hk => hk.2) (.int .i64 t291)) (fun _ hk => hk.2) (.slice Ao12 t292.length co12)) (fun _ hk => trivial)⟩
 have n1_ : Aside0 (((w8.setCell ⟨gb296, 0, none⟩ (.int .i64 t291)).setCell ⟨gb296, 1, none⟩ (.slice Ao12 t292.length co12)).heap[gb287]? = some (.cells #[.int .i64 0, .slice none 0 0] 36 (0, 0))) := ⟨by (with_reducible repeat (first | refine blk_drewN ?_ _ | refine blk_drew ?_ | refine blk_alloc ?_ _)); refine blk_far ?_ NB287_296.out _; (with_reducible repeat (first | refine blk_drewN ?_ _ | refine blk_drew ?_ | refine blk_alloc ?_ _)); refine blk_far ?_ NB287_296.out _; (with_reducible repeat (first | refine blk_drewN ?_ _ | refine blk_drew ?_ | refine blk_alloc ?_ _)); exact BK287.out⟩
 have n2_ : Aside0 (((w8.setCell ⟨gb296, 0, none⟩ (.int .i64 t291)).setCell ⟨gb296, 1, none⟩ (.slice Ao12 t292.length co12)).heap[gb296]? = some (.cells #[.int .i64 t291, .slice Ao12 t292.length co12] 36 (0, 0))) := ⟨by (with_reducible repeat (first | refine blk_drewN ?_ _ | refine blk_drew ?_ | refine blk_alloc ?_ _)); refine blk_put (cs := #[.int .i64 t291, .slice none 0 0]) ?_ 1 _ rfl; (with_reducible repeat (first | refine blk_drewN ?_ _ | refine blk_drew ?_ | refine blk_alloc ?_ _)); refine blk_put (cs := #[.int .i64 0, .slice none 0 0]) ?_ 0 _ rfl; (with_reducible repeat (first | refine blk_drewN ?_ _ | refine blk_drew ?_ | refine blk_alloc ?_ _)); exact BK296.out⟩
 have n3_ : Aside0 (IsS130 w ((w8.setCell ⟨gb296, 0, none⟩ (.int .i64 t291)).setCell ⟨gb296, 1, none⟩ (.slice Ao12 t292.length co12)) g290 t288 t295) := ⟨q_I130_290_1⟩
 have n4_ : Aside0 (Below w.heap.size w ((w8.setCell ⟨gb296, 0, none⟩ (.int .i64 t291)).setCell ⟨gb296, 1, none⟩ (.slice Ao12 t292.length co12))) := ⟨q_B130_290⟩
 (try clear HO294)
 (try clear BK287)
 (try clear BK296)
 (try clear HI290)
 (try clear HB)
 generalize ((w8.setCell ⟨gb296, 0, none⟩ (.int .i64 t291)).setCell ⟨gb296, 1, none⟩ (.slice Ao12 t292.length co12)) = w13 at n0_ n1_ n2_ n3_ n4_ ⊢
 have HO294 := n0_
 have BK287 := n1_
 have BK296 := n2_
 have HI290 := n3_
 have HB := n4_
 clear n0_ n1_ n2_ n3_ n4_
 have n0_ := Aside0.mk (Kd.R_drew HO294.out)
 have n1_ := Aside0.mk (blk_drew BK287.out)
 have n2_ := Aside0.mk (blk_drew BK296.out)
 have n3_ := Aside0.mk (IsS130.drew HI290.out)
 have n4_ := Aside0.mk (below_drew1 HB.out)
 clear HO294
 clear BK287
 clear BK296
 clear HI290
 clear HB
 have HO294 := n0_
 have BK287 := n1_
 have BK296 := n2_
 have HI290 := n3_
 have HB := n4_
 clear n0_ n1_ n2_ n3_ n4_
 refine start_ (n := 6) (S := fun w' => w'.cell? ⟨gb296, 0, none⟩ = some (.int .i64 t291) ∧ w'.cell? ⟨gb296, 1, none⟩ = some (.slice Ao12 t292.length co12)) (ds := []) #[false, false, false, false, false, false] (by kernel_rfl) rfl rfl ⟨q_z BK296.out 0, q_z BK296.out 1⟩ (fun hHeld => ?_)
 generalize w13.drew = w14 at HO294 BK287 BK296 HI290 HB hHeld ⊢
 refine pure_ (i := 1) (N := some 11) (v := ?_) (a' := ?_) #[false, true, false, false, false, false] rfl rfl (by kernel_rfl) (fun _ _ _ h => h) (Or.inl ⟨by rfl, ?_⟩) ?_ ?_
 rotate_left
 ·intro w'
  go_simp
  with_reducible rfl
 rotate_left
 ·simp only [Act.put, List.setIfInBounds_toArray, List.set_cons_zero, List.set_cons_succ, i64_w, i32_w]
  rfl
 refine take_ (i := 0) (N := some 10) (v := ?_) (a' := ?_) #[true, true, false, false, false, false] rfl rfl (by kernel_rfl) (fun _ _ _ h => h) (Or.inl ⟨by rfl, ?_⟩) hHeld ?_ ?_
 rotate_left
 ·rintro w' ⟨s0, s1⟩
  go_simp
  with_reducible rfl
 rotate_left
 ·simp only [Act.put, List.setIfInBounds_toArray, List.set_cons_zero, List.set_cons_succ, i64_w, i32_w]
  rfl
 refine one_ (i := 2) (N := some 12) #[true, true, true, false, false, false] rfl rfl (by kernel_rfl) (by decide) (fun K hK => ?_)
 refine Kd.R_lit_step (Kd.int .i64) _ 2 ?hg (N := 12) ?hd (xs := ([5, 9, 0, 1000000000, 1000000001] : List Int)) (inner := [.int .i64 5, .int .i64 9, .int .i64 0, .int .i64 1000000000, .int .i64 1000000001]) (ok := fun _ => True) (okp := fun _ => True) ?hr ?hp (fun _ hk => hk) trivial (Below.refl _ _) (Nat.le_refl _) (by simp) ?_; (case hd => rfl); (case hg => rfl); (case hr => first | (go_simp; done) | (go_simp; rfl)); (case hp => exact (Reps.one (show Kd.M (Kd.int .i64) _ _ _ 5 [.int .i64 5] from rfl) (Reps.one (show Kd.M (Kd.int .i64) _ _ _ 9 [.int .i64 9] from rfl) (Reps.one (show Kd.M (Kd.int .i64) _ _ _ 0 [.int .i64 0] from rfl) (Reps.one (show Kd.M (Kd.int .i64) _ _ _ 1000000000 [.int .i64 1000000000] from rfl) (Reps.one (show Kd.M (Kd.int .i64) _ _ _ 1000000001 [.int .i64 1000000001] from rfl) (Reps.none _ _)))))))
 intro v298 w15 ho16 hb hg_ hnew_
 clear hg_ hnew_
 (first | rw [← Ny297.out] at ho16 | (simp only [Int.reduceToNat] at ho16; rw [← Ny297.out] at ho16))
 have n0_ := Aside0.mk (Kd.R_below (q_r (HO294.out)) hb)
 have n1_ := Aside0.mk (Kd.R_lower ho16 (below_size q_B130_290))
 have n2_ := Aside0.mk (blk_below (q_b BK287.out) hb)
 have n3_ := Aside0.mk (IsS130.below q_I130_290_1 hb)
 have n4_ := Aside0.mk (blk_below (q_b BK296.out) hb)
 have n5_ := Aside0.mk (below_step q_B130_290 hb)
 clear HO294
 clear BK287
 clear HI290
 clear BK296
 clear HB
 have HO294 := n0_
 have HO299 := n1_
 have BK287 := n2_
 have HI290 := n3_
 have BK296 := n4_
 have HB := n5_
 clear n0_ n1_ n2_ n3_ n4_ n5_
 clear hb ho16
 obtain ⟨Ao17, co17, eo17⟩ := Kd.R_slice HO299.out
 (first | subst eo17 | (injection eo17 with f1_ f2_ f3_; have f4_ := f1_.symm; have f5_ := f3_.symm; clear f1_ f2_ f3_; subst f4_; subst f5_))
 refine hK.out _ _ ⟨q_z BK296.out 0, q_z BK296.out 1⟩ (fun hHeld => ?_)
 clear hK K
 refine norm_ (a' := ?_) ?_ ?_
 rotate_left
 ·show Act.put _ (some 12) _ = _
  simp only [Act.put, List.setIfInBounds_toArray, List.set_cons_zero, List.set_cons_succ, i64_w, i32_w]
  rfl
 refine one_ (i := 3) (N := some 13) #[true, true, true, true, false, false] rfl rfl (by kernel_rfl) (by decide) (fun K hK => ?_)
 refine goes_ Try.func100 (by kernel_rfl) rfl #[.pointer (some ⟨g290, 0, none⟩), .slice Ao17 y297.length co17] (by rfl) rfl rfl (by (try simp only [List.map_toArray, List.map_cons, List.map_nil]); first | done | rfl | (simp only [List.length_drop, List.length_take]; rfl)) ?_
 with_reducible refine (spec_l1Pick.calls g290 t288 t295 _ _ y297 t300 t301 w _ ?side1 ?side2 ?side3 ?side4 ?side5 A4.out).mono ?_
 (case side1 => repeat (first | (with_reducible first | exact HI290.out | apply IsS130.alloc | apply IsS130.drewN | apply IsS130.drew | apply IsS130.set_1 | refine IsS130.far ?_ NB290_287.out _ | refine IsS130.far ?_ NB290_296.out _) | exact HI290.out))
 (case side2 => repeat (first | (with_reducible first | exact HB.out | apply below_alloc | apply pw_below_drewN | apply below_drew1 | refine below_set ?_ (IsS130.ge HI290.out) | refine below_set ?_ GE287.out | refine below_set ?_ GE296.out) | exact HB.out))
 (case side3 => exact q_c ((Kd.R_reads' HO299.out).2.2))
 (case side4 => exact (Kd.R_reads' HO299.out).2.1)
 (case side5 => exact far_slice (IsS130.own_ne HI290.out HO299.out (by decide)))
 rintro e w18 ⟨rfl, hi, hb, hk⟩
 refine ⟨_, rfl, ?_⟩
 have n0_ := Aside0.mk (KeepBut.blk hk (g' := gb287) (o := .cells #[.int .i64 0, .slice none 0 0] 36 (0, 0)) kq NB287_290.out (by simp))
 have n1_ := Aside0.mk (Kd.R_mono (Kd.R_keep (IsS130.apart (show IsS130 w _ g290 t288 t295 from q_I130_290_1) (q_r (HO294.out)) (by decide)) hk (fun _ h => h.2)) (fun _ h => h.1))
 have n2_ := Aside0.mk (KeepBut.blk hk (g' := gb296) (o := .cells #[.int .i64 t291, .slice Ao12 t292.length co12] 36 (0, 0)) kq NB296_290.out (by simp))
 have n3_ := Aside0.mk (Kd.R_mono (Kd.R_keep (IsS130.apart (show IsS130 w _ g290 t288 t295 from q_I130_290_1) (q_r (HO299.out)) (by decide)) hk (fun _ h => h.2)) (fun _ h => h.1))
 have n4_ := Aside0.mk (hb)
 have n5_ := Aside0.mk (hi)
 clear BK287
 clear HO294
 clear BK296
 clear HO299
 clear HB
 clear HI290
 have BK287 := n0_
 have HO294 := n1_
 have BK296 := n2_
 have HO299 := n3_
 have HB := n4_
 have HI290 := n5_
 clear n0_ n1_ n2_ n3_ n4_ n5_
 (try clear hb)
 (try clear hb2)
 (try clear hk)
 (try clear hi)
 refine hK.out _ _ ⟨q_z BK296.out 0, q_z BK296.out 1⟩ (fun hHeld => ?_)
 clear hK K
 refine norm_ (a' := ?_) ?_ ?_
 rotate_left
 ·show Act.put _ (some 13) _ = _
  simp only [Act.put, List.setIfInBounds_toArray, List.set_cons_zero, List.set_cons_succ, i64_w, i32_w]
  rfl
 refine one_ (i := 4) (N := none) #[true, true, true, true, true, false] rfl rfl (by kernel_rfl) (by decide) (fun K hK => ?_)
 have hs19 : w18.cell? ⟨gb287, 0, none⟩ = some (.int .i64 0) := (blk_cell BK287.out 0).trans rfl
 have hfs19 := blk_frozen BK287.out 0
 have hns19_1 := NB296_287.out
 have hms19_1 := NB287_296.out
 have hs20 : w18.cell? ⟨gb287, 1, none⟩ = some (.slice none 0 0) := (blk_cell BK287.out 1).trans rfl
 have hfs20 := blk_frozen BK287.out 1
 have hns20_1 := NB296_287.out
 have hms20_1 := NB287_296.out
 refine skip_ (w1 := ?_) (by rfl) rfl ?_ ?_
 rotate_left
 ·go_simp
  rfl
 refine hK.out _ _ ⟨((cell_far (p := ⟨gb287, _, none⟩) NB296_287.out _).trans (((cell_far (p := ⟨gb287, _, none⟩) NB296_287.out _).trans (hHeld.1)))), ((cell_far (p := ⟨gb287, _, none⟩) NB296_287.out _).trans (((cell_far (p := ⟨gb287, _, none⟩) NB296_287.out _).trans (hHeld.2))))⟩ (fun hHeld => ?_)
 clear hK K
 refine pure_ (i := 5) (N := some 3) (v := ?_) (a' := ?_) #[true, true, true, true, true, true] rfl rfl (by kernel_rfl) (fun _ _ _ h => h) (Or.inl ⟨by rfl, ?_⟩) ?_ ?_
 rotate_left
 ·intro w'
  go_simp
  with_reducible rfl
 rotate_left
 ·simp only [Act.put, List.setIfInBounds_toArray, List.set_cons_zero, List.set_cons_succ, i64_w, i32_w]
  rfl
 refine done_ (by kernel_rfl) ?_
 try go_wp2
 refine bodyPost_ret (results_ct rfl _ _ gb287 36 #[.int .i64 t291, .slice Ao12 t292.length co12] (0, 0) _ rfl (by (with_reducible repeat (first | refine blk_drewN ?_ _ | refine blk_drew ?_ | refine blk_alloc ?_ _)); refine blk_put (cs := #[.int .i64 t291, .slice none 0 0]) ?_ 1 _ rfl; (with_reducible repeat (first | refine blk_drewN ?_ _ | refine blk_drew ?_ | refine blk_alloc ?_ _)); refine blk_put (cs := #[.int .i64 0, .slice none 0 0]) ?_ 0 _ rfl; (with_reducible repeat (first | refine blk_drewN ?_ _ | refine blk_drew ?_ | refine blk_alloc ?_ _)); exact BK287.out) Try.underlying36 rfl (by kernel_rfl)) rfl ?_
 exact ⟨_, q_e, by (with_reducible repeat (first | apply Kd.R_alloc | apply Kd.R_drewN | apply Kd.R_drew)); exact Kd.R_mono (Kd.R_far (p := ⟨gb287, 1, none⟩) (Kd.R_far (p := ⟨gb287, 0, none⟩) (Kd.R_types HO294.out BK287.out (by decide)) (fun _ hk => hk.2) (.int .i64 t291)) (fun _ hk => hk.2) (.slice Ao12 t292.length co12)) (fun _ hk => trivial), q_B130_290⟩

/-! ### cmp_isNaN_int64: function 146 -/
def cmp_isNaN_int64.f (a0 : Int) : Option (Bool) := some (a0 != a0)
set_option maxHeartbeats 8000000 in
set_option maxRecDepth 100000 in
theorem cmp_isNaN_int64.calls (a0 : Int) (r : Bool) (w : World) (h : cmp_isNaN_int64.f a0 = some r) :
  Calls Try.prog 146 #[.int .i64 a0] w fun e w' => e = .returned (.bool r) ∧ Drawn0 w w' := by
 have H : (some (a0 != a0)) = some r := h
 clear h
 obtain rfl := Option.some.inj H
 go_enter Try.func146, Try.ntmps146
 go_wp2
 go_ret
 exact ⟨by first | rfl | (simp; done) | (simp [*]; done), q_0⟩

/-! ### cmp_Less_int64: function 136 -/
def cmp_Less_int64.f (a0 : Int) (a1 : Int) : Option (Bool) := (cmp_isNaN_int64.f a0).bind fun t302 => (if t302 = true then ((cmp_isNaN_int64.f a1).bind fun t303 => (if t303 = true then (some (decide (a0 < a1))) else (some true))) else (some (decide (a0 < a1))))
set_option maxHeartbeats 8000000 in
set_option maxRecDepth 100000 in
theorem cmp_Less_int64.calls (a0 : Int) (a1 : Int) (r : Bool) (w : World) (h : cmp_Less_int64.f a0 a1 = some r) :
  Calls Try.prog 136 #[.int .i64 a0, .int .i64 a1] w fun e w' => e = .returned (.bool r) ∧ Drawn0 w w' := by
 have H : ((cmp_isNaN_int64.f a0).bind fun t302 => (if t302 = true then ((cmp_isNaN_int64.f a1).bind fun t303 => (if t303 = true then (some (decide (a0 < a1))) else (some true))) else (some (decide (a0 < a1))))) = some r := h
 clear h
 replace H := Option.bind_eq_some_iff.mp H
 obtain ⟨t302, A30, H⟩ := H
 replace H : (if t302 = true then ((cmp_isNaN_int64.f a1).bind fun t303 => (if t303 = true then (some (decide (a0 < a1))) else (some true))) else (some (decide (a0 < a1)))) = some r := H
 have A3 := Aside0.mk A30
 clear A30
 by_cases c4 : t302 = true
 ·subst c4
  have H1 : ((cmp_isNaN_int64.f a1).bind fun t303 => (if t303 = true then (some (decide (a0 < a1))) else (some true))) = some r := by rw [if_pos rfl] at H; exact H
  clear H
  have H := H1
  clear H1
  replace H := Option.bind_eq_some_iff.mp H
  obtain ⟨t303, A50, H⟩ := H
  replace H : (if t303 = true then (some (decide (a0 < a1))) else (some true)) = some r := H
  have A5 := Aside0.mk A50
  clear A50
  by_cases c6 : t303 = true
  ·subst c6
   have H1 : (some (decide (a0 < a1))) = some r := by rw [if_pos rfl] at H; exact H
   clear H
   have H := H1
   clear H1
   obtain rfl := Option.some.inj H
   go_enter Try.func136, Try.ntmps136
   go_wp2_with (first | ((with_reducible refine gate_callee (f := 146) rfl ?_); refine goesLq (some 6) rfl rfl Try.func146 (by kernel_rfl) rfl #[.int .i64 a0] rfl ?_; (with_reducible refine (cmp_isNaN_int64.calls a0 true _ A3.out).mono ?_); rintro e w' ⟨rfl, ⟨nd, rfl⟩⟩; refine ⟨_, rfl, ?_⟩) | (go_at_call 146; (with_reducible refine (cmp_isNaN_int64.calls a1 true _ A5.out).mono ?_); rintro e w' ⟨rfl, ⟨nd, rfl⟩⟩))
   go_ret
   exact ⟨by first | rfl | (simp; done) | (simp [*]; done), q_0⟩
  ·replace c6 := Bool.eq_false_iff.mpr c6
   subst c6
   have H1 : (some true) = some r := by rw [if_neg (show ¬ (false = true) by decide)] at H; exact H
   clear H
   have H := H1
   clear H1
   obtain rfl := Option.some.inj H
   go_enter Try.func136, Try.ntmps136
   go_wp2_with (first | ((with_reducible refine gate_callee (f := 146) rfl ?_); refine goesLq (some 6) rfl rfl Try.func146 (by kernel_rfl) rfl #[.int .i64 a0] rfl ?_; (with_reducible refine (cmp_isNaN_int64.calls a0 true _ A3.out).mono ?_); rintro e w' ⟨rfl, ⟨nd, rfl⟩⟩; refine ⟨_, rfl, ?_⟩) | (go_at_call 146; (with_reducible refine (cmp_isNaN_int64.calls a1 false _ A5.out).mono ?_); rintro e w' ⟨rfl, ⟨nd, rfl⟩⟩))
   go_ret
   exact ⟨by first | rfl | (simp; done) | (simp [*]; done), q_0⟩
 ·replace c4 := Bool.eq_false_iff.mpr c4
  subst c4
  have H1 : (some (decide (a0 < a1))) = some r := by rw [if_neg (show ¬ (false = true) by decide)] at H; exact H
  clear H
  have H := H1
  clear H1
  obtain rfl := Option.some.inj H
  go_enter Try.func136, Try.ntmps136
  go_wp2_with (first | ((with_reducible refine gate_callee (f := 146) rfl ?_); refine goesLq (some 6) rfl rfl Try.func146 (by kernel_rfl) rfl #[.int .i64 a0] rfl ?_; (with_reducible refine (cmp_isNaN_int64.calls a0 false _ A3.out).mono ?_); rintro e w' ⟨rfl, ⟨nd, rfl⟩⟩; refine ⟨_, rfl, ?_⟩))
  go_ret
  exact ⟨by first | rfl | (simp; done) | (simp [*]; done), q_0⟩

end Go.Proofs.Ytooiamkaipdmpaa.PFnContracts
