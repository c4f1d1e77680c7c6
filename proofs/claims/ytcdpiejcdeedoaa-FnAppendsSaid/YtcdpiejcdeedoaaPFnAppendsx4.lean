/- The functions that a law reaches, each as a plain Lean function with the proof that the machine comes to its answer: written by program (the kit's print, turned by wip/gen). No conditions. -/
import Derived.Test.YtcdpiejcdeedoaaPFnAppendsx0
import Derived.Test.YtcdpiejcdeedoaaPFnAppendsx1
import Derived.Test.YtcdpiejcdeedoaaPFnAppendsx3
namespace Go.Proofs.Ytcdpiejcdeedoaa.PFnAppends
open Go.RowKit Go.Proofs.YtcdpiejcdeedoaaW.PrintWords Go.Proofs.YtcdpiejcdeedoaaW.PrintLast Go.Proofs.YtcdpiejcdeedoaaW.PrintMore
attribute [local go_sem] max2_int min2_int max_two min_two max_three min_three max_four min_four   -- for this text's walks alone
set_option linter.unusedVariables false
set_option linter.unusedSimpArgs false

/-! ### impl_AppendLog: function 46 -/
def impl_AppendLog.f (k : Nat) (l0_0 : List Int) (l0_1 : List Int) (l1 : List Int) : Option (Int × List Int × List Int) := (impl_FrameRecord.f k l1).bind fun bt228 => ((impl_LogFault.f l0_0 l0_1).bind fun t233 => ((impl_firstOf.f k (([t233, bt228.1] : List Int))).bind fun t237 => (if t237 = 0 then ((impl_copyLog.f l0_0 l0_1).bind fun bt238 => (if bt238.2.length + bt228.2.length < 140737488355328 then ((some (bt238.2 ++ bt228.2 : List Int)).bind fun y245 => ((impl_LogFault.f bt238.1 y245).bind fun t248 => (if t248 = 0 then (some (0, bt238.1, y245)) else (some (2, ([] : List Int), ([] : List Int)))))) else (none))) else (some (t237, ([] : List Int), ([] : List Int))))))
set_option maxHeartbeats 8000000 in
set_option maxRecDepth 100000 in
theorem impl_AppendLog.calls (k : Nat) (A0_0 : Option Addr) (c0_0 : Nat) (l0_0 : List Int) (A0_1 : Option Addr) (c0_1 : Nat) (l0_1 : List Int) (A1 : Option Addr) (c1 : Nat) (l1 : List Int) (r1 : Int) (r2 : List Int) (r3 : List Int) (w : World) (hr0_0 : Kd.C (Kd.int .u8) w A0_0 l0_0.length l0_0) (hc0_0 : l0_0.length ≤ c0_0) (hr0_1 : Kd.C (Kd.int .u8) w A0_1 l0_1.length l0_1) (hc0_1 : l0_1.length ≤ c0_1) (hr1 : Kd.C (Kd.int .u8) w A1 l1.length l1) (hc1 : l1.length ≤ c1) (h : impl_AppendLog.f k l0_0 l0_1 l1 = some (r1, r2, r3)) :
  Calls Try.prog 46 #[.agg #[.slice A0_0 l0_0.length c0_0, .slice A0_1 l0_1.length c0_1], .slice A1 l1.length c1] w fun e w' => ∃ v1_ v2_ : Value, e = .returned (.agg #[.int .i64 r1, v1_, v2_]) ∧ Kd.R (Kd.int .u8) 5 w' w.heap.size (fun k_ => some k_ ≠ (v2_ : Value).ownBlock) v1_ r2 ∧ Kd.R (Kd.int .u8) 5 w' w.heap.size (fun k_ => some k_ ≠ (v1_ : Value).ownBlock) v2_ r3 ∧ Below w.heap.size w w' := by
 have hu27 := Try.underlying27
 have hu46 := Try.underlying46
 have hu32 := Try.underlying32
 have HR0_0 := Aside0.mk hr0_0
 have HC0_0 := Aside0.mk hc0_0
 clear hr0_0 hc0_0
 have HR0_1 := Aside0.mk hr0_1
 have HC0_1 := Aside0.mk hc0_1
 clear hr0_1 hc0_1
 have HR1 := Aside0.mk hr1
 have HC1 := Aside0.mk hc1
 clear hr1 hc1
 have HB := Aside0.mk (Below.refl w.heap.size w)
 have H : ((impl_FrameRecord.f k l1).bind fun bt228 => ((impl_LogFault.f l0_0 l0_1).bind fun t233 => ((impl_firstOf.f k (([t233, bt228.1] : List Int))).bind fun t237 => (if t237 = 0 then ((impl_copyLog.f l0_0 l0_1).bind fun bt238 => (if bt238.2.length + bt228.2.length < 140737488355328 then ((some (bt238.2 ++ bt228.2 : List Int)).bind fun y245 => ((impl_LogFault.f bt238.1 y245).bind fun t248 => (if t248 = 0 then (some (0, bt238.1, y245)) else (some (2, ([] : List Int), ([] : List Int)))))) else (none))) else (some (t237, ([] : List Int), ([] : List Int))))))) = some (r1, r2, r3) := h
 clear h
 replace H := Option.bind_eq_some_iff.mp H
 obtain ⟨⟨t228, t229⟩, A30, H⟩ := H
 replace H : ((impl_LogFault.f l0_0 l0_1).bind fun t233 => ((impl_firstOf.f k (([t233, t228] : List Int))).bind fun t237 => (if t237 = 0 then ((impl_copyLog.f l0_0 l0_1).bind fun bt238 => (if bt238.2.length + t229.length < 140737488355328 then ((some (bt238.2 ++ t229 : List Int)).bind fun y245 => ((impl_LogFault.f bt238.1 y245).bind fun t248 => (if t248 = 0 then (some (0, bt238.1, y245)) else (some (2, ([] : List Int), ([] : List Int)))))) else (none))) else (some (t237, ([] : List Int), ([] : List Int)))))) = some (r1, r2, r3) := H
 have A3 := Aside0.mk A30
 clear A30
 replace H := Option.bind_eq_some_iff.mp H
 obtain ⟨t233, A40, H⟩ := H
 replace H : ((impl_firstOf.f k (([t233, t228] : List Int))).bind fun t237 => (if t237 = 0 then ((impl_copyLog.f l0_0 l0_1).bind fun bt238 => (if bt238.2.length + t229.length < 140737488355328 then ((some (bt238.2 ++ t229 : List Int)).bind fun y245 => ((impl_LogFault.f bt238.1 y245).bind fun t248 => (if t248 = 0 then (some (0, bt238.1, y245)) else (some (2, ([] : List Int), ([] : List Int)))))) else (none))) else (some (t237, ([] : List Int), ([] : List Int))))) = some (r1, r2, r3) := H
 have A4 := Aside0.mk A40
 clear A40
 obtain ⟨y234, hy234⟩ : ∃ y_ : List Int, y_ = (([t233, t228] : List Int)) := ⟨_, rfl⟩
 replace H : ((impl_firstOf.f k y234).bind fun t237 => (if t237 = 0 then ((impl_copyLog.f l0_0 l0_1).bind fun bt238 => (if bt238.2.length + t229.length < 140737488355328 then ((some (bt238.2 ++ t229 : List Int)).bind fun y245 => ((impl_LogFault.f bt238.1 y245).bind fun t248 => (if t248 = 0 then (some (0, bt238.1, y245)) else (some (2, ([] : List Int), ([] : List Int)))))) else (none))) else (some (t237, ([] : List Int), ([] : List Int))))) = some (r1, r2, r3) := q_h hy234 H
 have Ny234 := Aside0.mk hy234
 clear hy234
 replace H := Option.bind_eq_some_iff.mp H
 obtain ⟨t237, A50, H⟩ := H
 replace H : (if t237 = 0 then ((impl_copyLog.f l0_0 l0_1).bind fun bt238 => (if bt238.2.length + t229.length < 140737488355328 then ((some (bt238.2 ++ t229 : List Int)).bind fun y245 => ((impl_LogFault.f bt238.1 y245).bind fun t248 => (if t248 = 0 then (some (0, bt238.1, y245)) else (some (2, ([] : List Int), ([] : List Int)))))) else (none))) else (some (t237, ([] : List Int), ([] : List Int)))) = some (r1, r2, r3) := H
 have A5 := Aside0.mk A50
 clear A50
 by_cases c6 : t237 = 0
 ·rw [if_pos c6] at H
  have c6b0 : (t237 == 0) = true := beq_iff_eq.mpr c6
  have c6b1 : (t237 != 0) = false := bne_eq_false_iff_eq.mpr c6
  clear c6
  replace H := Option.bind_eq_some_iff.mp H
  obtain ⟨⟨t238, t241⟩, A70, H⟩ := H
  replace H : (if t241.length + t229.length < 140737488355328 then ((some (t241 ++ t229 : List Int)).bind fun y245 => ((impl_LogFault.f t238 y245).bind fun t248 => (if t248 = 0 then (some (0, t238, y245)) else (some (2, ([] : List Int), ([] : List Int)))))) else (none)) = some (r1, r2, r3) := H
  have A7 := Aside0.mk A70
  clear A70
  by_cases c8 : t241.length + t229.length < 140737488355328
  ·rw [if_pos c8] at H
   have LMc8 := Aside0.mk c8
   clear c8
   obtain ⟨y245, hy245⟩ : ∃ y_ : List Int, y_ = (t241 ++ t229) := ⟨_, rfl⟩
   replace H : ((impl_LogFault.f t238 y245).bind fun t248 => (if t248 = 0 then (some (0, t238, y245)) else (some (2, ([] : List Int), ([] : List Int))))) = some (r1, r2, r3) := q_h hy245 H
   have Ny245 := Aside0.mk hy245
   clear hy245
   replace H := Option.bind_eq_some_iff.mp H
   obtain ⟨t248, A90, H⟩ := H
   replace H : (if t248 = 0 then (some (0, t238, y245)) else (some (2, ([] : List Int), ([] : List Int)))) = some (r1, r2, r3) := H
   have A9 := Aside0.mk A90
   clear A90
   by_cases c10 : t248 = 0
   ·rw [if_pos c10] at H
    have c10b0 : (t248 == 0) = true := beq_iff_eq.mpr c10
    have c10b1 : (t248 != 0) = false := bne_eq_false_iff_eq.mpr c10
    clear c10
    simp only [Option.some.injEq, Prod.mk.injEq] at H
    obtain ⟨rfl, rfl, rfl⟩ := H
    go_enter Try.func46, Try.ntmps46
    try go_wp2_with (first | ((with_reducible refine gate_dst (N := 2) rfl ?_); refine q_box (N := 2) (cs := #[.slice A0_0 l0_0.length c0_0, .slice A0_1 l0_1.length c0_1]) (t := 27) ?_; intro gb226 hg w11 hbox hb; have n0_ := Aside0.mk (below_step bq hb); have n1_ := Aside0.mk (hbox); have n2_ := Aside0.mk ((q_g hg bq : w.heap.size ≤ gb226)); have n3_ := Aside0.mk ((q_g hg bq : w.heap.size ≤ gb226)); revert n0_ n1_ n2_ n3_; clear HB; intro HB BK226 GW226 GE226; clear hb hbox hg) | ((with_reducible refine gate_dst (N := 4) rfl ?_); refine q_box (N := 4) (cs := #[.int .i64 0, .slice none 0 0, .slice none 0 0]) (t := 46) ?_; intro gb227 hg w12 hbox hb; have n0_ := Aside0.mk (blk_below (q_b BK226.out) hb); have n1_ := Aside0.mk (below_step bq hb); have n2_ := Aside0.mk (hbox); have n3_ := Aside0.mk ((q_g hg bq : w.heap.size ≤ gb227)); have n4_ := Aside0.mk ((q_g hg bq : w.heap.size ≤ gb227)); have n5_ := Aside0.mk ((q_n hg (q_b BK226.out) : gb226 ≠ gb227)); have n6_ := Aside0.mk ((q_m hg (q_b BK226.out) : gb227 ≠ gb226)); revert n0_ n1_ n2_ n3_ n4_ n5_ n6_; clear BK226 HB; intro BK226 HB BK227 GW227 GE227 NB226_227 NB227_226; clear hb hbox hg) | ((with_reducible refine gate_callee (f := 21) rfl ?_); refine goesLq (some 9) rfl rfl Try.func21 (by kernel_rfl) rfl #[.slice A1 l1.length c1] rfl ?_; (with_reducible refine (impl_FrameRecord.calls k _ _ l1 t228 t229 _ ?side1 ?side2 A3.out).mono ?_); (case side1 => exact q_c ((Kd.C_below HR1.out HB.out))); (case side2 => exact HC1.out); rintro e w13 ⟨v230, rfl, ho0, hb⟩; refine ⟨_, rfl, ?_⟩; have n0_ := Aside0.mk (Kd.R_lower ho0 (below_size bq)); have n1_ := Aside0.mk (blk_below (q_b BK226.out) hb); have n2_ := Aside0.mk (blk_below (q_b BK227.out) hb); have n3_ := Aside0.mk (below_step bq hb); revert n0_ n1_ n2_ n3_; clear BK226 BK227 HB; intro HO231 BK226 BK227 HB; (try clear hb); (try clear hb2); (try clear hk); (try clear hi); (try clear ho0)) | ((with_reducible refine gate_dst (N := 5) rfl ?_); refine q_box (N := 5) (cs := #[.int .i64 0, .slice none 0 0]) (t := 32) ?_; intro gb232 hg w14 hbox hb; have n0_ := Aside0.mk (Kd.R_below (q_r (HO231.out)) hb); have n1_ := Aside0.mk (blk_below (q_b BK226.out) hb); have n2_ := Aside0.mk (blk_below (q_b BK227.out) hb); have n3_ := Aside0.mk (below_step bq hb); have n4_ := Aside0.mk (hbox); have n5_ := Aside0.mk ((q_g hg bq : w.heap.size ≤ gb232)); have n6_ := Aside0.mk ((q_g hg bq : w.heap.size ≤ gb232)); have n7_ := Aside0.mk ((q_n hg (q_b BK226.out) : gb226 ≠ gb232)); have n8_ := Aside0.mk ((q_m hg (q_b BK226.out) : gb232 ≠ gb226)); have n9_ := Aside0.mk ((q_n hg (q_b BK227.out) : gb227 ≠ gb232)); have n10_ := Aside0.mk ((q_m hg (q_b BK227.out) : gb232 ≠ gb227)); revert n0_ n1_ n2_ n3_ n4_ n5_ n6_ n7_ n8_ n9_ n10_; clear HO231 BK226 BK227 HB; intro HO231 BK226 BK227 HB BK232 GW232 GE232 NB226_232 NB232_226 NB227_232 NB232_227; clear hb hbox hg; have hnb15 := NB232_226.out; have hnc15 := NB226_232.out; have hnb16 := NB232_227.out; have hnc16 := NB227_232.out; obtain ⟨hcz17_0, hcz17_1, hfz17_0, hfz17_1⟩ := q_2 BK232.out; obtain ⟨Ao18, co18, eo18⟩ := Kd.R_slice HO231.out; subst eo18))
    have n0_ : Aside0 (Kd.R (Kd.int .u8) 5 ((w14.setCell ⟨gb232, 0, none⟩ (.int .i64 t228)).setCell ⟨gb232, 1, none⟩ (.slice Ao18 t229.length co18)) w.heap.size (fun _ => True) (.slice Ao18 t229.length co18) t229) := ⟨by (with_reducible repeat (first | apply Kd.R_alloc | apply Kd.R_drewN | apply Kd.R_drew)); exact Kd.R_mono (Kd.R_far (p := ⟨gb232, 1, none⟩) (Kd.R_far (p := ⟨gb232, 0, none⟩) (Kd.R_types HO231.out BK232.out (by decide)) (fun _ hk => hk.2) (.int .i64 t228)) (fun _ hk => hk.2) (.slice Ao18 t229.length co18)) (fun _ hk => trivial)⟩
    have n1_ : Aside0 (((w14.setCell ⟨gb232, 0, none⟩ (.int .i64 t228)).setCell ⟨gb232, 1, none⟩ (.slice Ao18 t229.length co18)).heap[gb226]? = some (.cells #[.slice A0_0 l0_0.length c0_0, .slice A0_1 l0_1.length c0_1] 27 (0, 0))) := ⟨by (with_reducible repeat (first | refine blk_drewN ?_ _ | refine blk_drew ?_ | refine blk_alloc ?_ _)); refine blk_far ?_ NB226_232.out _; (with_reducible repeat (first | refine blk_drewN ?_ _ | refine blk_drew ?_ | refine blk_alloc ?_ _)); refine blk_far ?_ NB226_232.out _; (with_reducible repeat (first | refine blk_drewN ?_ _ | refine blk_drew ?_ | refine blk_alloc ?_ _)); exact BK226.out⟩
    have n2_ : Aside0 (((w14.setCell ⟨gb232, 0, none⟩ (.int .i64 t228)).setCell ⟨gb232, 1, none⟩ (.slice Ao18 t229.length co18)).heap[gb227]? = some (.cells #[.int .i64 0, .slice none 0 0, .slice none 0 0] 46 (0, 0))) := ⟨by (with_reducible repeat (first | refine blk_drewN ?_ _ | refine blk_drew ?_ | refine blk_alloc ?_ _)); refine blk_far ?_ NB227_232.out _; (with_reducible repeat (first | refine blk_drewN ?_ _ | refine blk_drew ?_ | refine blk_alloc ?_ _)); refine blk_far ?_ NB227_232.out _; (with_reducible repeat (first | refine blk_drewN ?_ _ | refine blk_drew ?_ | refine blk_alloc ?_ _)); exact BK227.out⟩
    have n3_ : Aside0 (((w14.setCell ⟨gb232, 0, none⟩ (.int .i64 t228)).setCell ⟨gb232, 1, none⟩ (.slice Ao18 t229.length co18)).heap[gb232]? = some (.cells #[.int .i64 t228, .slice Ao18 t229.length co18] 32 (0, 0))) := ⟨by (with_reducible repeat (first | refine blk_drewN ?_ _ | refine blk_drew ?_ | refine blk_alloc ?_ _)); refine blk_put (cs := #[.int .i64 t228, .slice none 0 0]) ?_ 1 _ rfl; (with_reducible repeat (first | refine blk_drewN ?_ _ | refine blk_drew ?_ | refine blk_alloc ?_ _)); refine blk_put (cs := #[.int .i64 0, .slice none 0 0]) ?_ 0 _ rfl; (with_reducible repeat (first | refine blk_drewN ?_ _ | refine blk_drew ?_ | refine blk_alloc ?_ _)); exact BK232.out⟩
    have n4_ : Aside0 (Below w.heap.size w ((w14.setCell ⟨gb232, 0, none⟩ (.int .i64 t228)).setCell ⟨gb232, 1, none⟩ (.slice Ao18 t229.length co18))) := ⟨bq⟩
    (try clear HO231)
    (try clear BK226)
    (try clear BK227)
    (try clear BK232)
    (try clear HB)
    generalize ((w14.setCell ⟨gb232, 0, none⟩ (.int .i64 t228)).setCell ⟨gb232, 1, none⟩ (.slice Ao18 t229.length co18)) = w19 at n0_ n1_ n2_ n3_ n4_ ⊢
    have HO231 := n0_
    have BK226 := n1_
    have BK227 := n2_
    have BK232 := n3_
    have HB := n4_
    clear n0_ n1_ n2_ n3_ n4_
    have n0_ := Aside0.mk (Kd.R_drew HO231.out)
    have n1_ := Aside0.mk (blk_drew BK226.out)
    have n2_ := Aside0.mk (blk_drew BK227.out)
    have n3_ := Aside0.mk (blk_drew BK232.out)
    have n4_ := Aside0.mk (below_drew1 HB.out)
    clear HO231
    clear BK226
    clear BK227
    clear BK232
    clear HB
    have HO231 := n0_
    have BK226 := n1_
    have BK227 := n2_
    have BK232 := n3_
    have HB := n4_
    clear n0_ n1_ n2_ n3_ n4_
    refine start_ (n := 7) (S := fun w' => w'.cell? ⟨gb226, 0, none⟩ = some (.slice A0_0 l0_0.length c0_0) ∧ w'.cell? ⟨gb226, 1, none⟩ = some (.slice A0_1 l0_1.length c0_1) ∧ w'.cell? ⟨gb232, 0, none⟩ = some (.int .i64 t228) ∧ w'.cell? ⟨gb232, 1, none⟩ = some (.slice Ao18 t229.length co18)) (ds := []) #[false, false, false, false, false, false, false] (by kernel_rfl) rfl rfl ⟨q_z BK226.out 0, q_z BK226.out 1, q_z BK232.out 0, q_z BK232.out 1⟩ (fun hHeld => ?_)
    generalize w19.drew = w20 at HO231 BK226 BK227 BK232 HB hHeld ⊢
    refine pure_ (i := 2) (N := some 12) (v := ?_) (a' := ?_) #[false, false, true, false, false, false, false] rfl rfl (by kernel_rfl) (fun _ _ _ h => h) (Or.inl ⟨by rfl, ?_⟩) ?_ ?_
    rotate_left
    ·intro w'
     go_simp
     with_reducible rfl
    rotate_left
    ·simp only [Act.put, List.setIfInBounds_toArray, List.set_cons_zero, List.set_cons_succ, i64_w, i32_w]
     rfl
    refine take_ (i := 0) (N := some 10) (v := ?_) (a' := ?_) #[true, false, true, false, false, false, false] rfl rfl (by kernel_rfl) (fun _ _ _ h => h) (Or.inl ⟨by rfl, ?_⟩) hHeld ?_ ?_
    rotate_left
    ·rintro w' ⟨s0, s1, s2, s3⟩
     go_simp
     with_reducible rfl
    rotate_left
    ·simp only [Act.put, List.setIfInBounds_toArray, List.set_cons_zero, List.set_cons_succ, i64_w, i32_w]
     rfl
    refine take_ (i := 3) (N := some 13) (v := ?_) (a' := ?_) #[true, false, true, true, false, false, false] rfl rfl (by kernel_rfl) (fun _ _ _ h => h) (Or.inl ⟨by rfl, ?_⟩) hHeld ?_ ?_
    rotate_left
    ·rintro w' ⟨s0, s1, s2, s3⟩
     go_simp
     with_reducible rfl
    rotate_left
    ·simp only [Act.put, List.setIfInBounds_toArray, List.set_cons_zero, List.set_cons_succ, i64_w, i32_w]
     rfl
    refine one_ (i := 1) (N := some 11) #[true, true, true, true, false, false, false] rfl rfl (by kernel_rfl) (by decide) (fun K hK => ?_)
    refine goes_ Try.func17 (by kernel_rfl) rfl #[.agg #[.slice A0_0 l0_0.length c0_0, .slice A0_1 l0_1.length c0_1]] (by rfl) rfl rfl (by (try simp only [List.map_toArray, List.map_cons, List.map_nil]); first | done | rfl | (simp only [List.length_drop, List.length_take]; rfl)) ?_
    with_reducible refine (impl_LogFault.calls _ _ l0_0 _ _ l0_1 t233 _ ?side1 ?side2 ?side3 ?side4 A4.out).mono ?_
    (case side1 => exact q_c ((Kd.C_below HR0_0.out HB.out)))
    (case side2 => exact HC0_0.out)
    (case side3 => exact q_c ((Kd.C_below HR0_1.out HB.out)))
    (case side4 => exact HC0_1.out)
    rintro e w21 ⟨rfl, hb⟩
    refine ⟨_, rfl, ?_⟩
    have n0_ := Aside0.mk (Kd.R_below (q_r (HO231.out)) hb)
    have n1_ := Aside0.mk (blk_below (q_b BK226.out) hb)
    have n2_ := Aside0.mk (blk_below (q_b BK227.out) hb)
    have n3_ := Aside0.mk (blk_below (q_b BK232.out) hb)
    have n4_ := Aside0.mk (below_step bq hb)
    clear HO231
    clear BK226
    clear BK227
    clear BK232
    clear HB
    have HO231 := n0_
    have BK226 := n1_
    have BK227 := n2_
    have BK232 := n3_
    have HB := n4_
    clear n0_ n1_ n2_ n3_ n4_
    (try clear hb)
    (try clear hb2)
    (try clear hk)
    (try clear hi)
    refine hK.out _ _ ⟨q_z BK226.out 0, q_z BK226.out 1, q_z BK232.out 0, q_z BK232.out 1⟩ (fun hHeld => ?_)
    clear hK K
    refine norm_ (a' := ?_) ?_ ?_
    rotate_left
    ·show Act.put _ (some 11) _ = _
     simp only [Act.put, List.setIfInBounds_toArray, List.set_cons_zero, List.set_cons_succ, i64_w, i32_w]
     rfl
    refine one_ (i := 4) (N := some 14) #[true, true, true, true, true, false, false] rfl rfl (by kernel_rfl) (by decide) (fun K hK => ?_)
    refine Kd.R_lit_step (Kd.int .i64) _ 2 ?hg (N := 14) ?hd (xs := ([t233, t228] : List Int)) (inner := [.int .i64 t233, .int .i64 t228]) (ok := fun _ => True) (okp := fun _ => True) ?hr ?hp (fun _ hk => hk) trivial (Below.refl _ _) (Nat.le_refl _) (by simp) ?_; (case hd => rfl); (case hg => rfl); (case hr => first | (go_simp; done) | (go_simp; rfl)); (case hp => exact (Reps.one (show Kd.M (Kd.int .i64) _ _ _ t233 [.int .i64 t233] from rfl) (Reps.one (show Kd.M (Kd.int .i64) _ _ _ t228 [.int .i64 t228] from rfl) (Reps.none _ _))))
    intro v235 w22 ho23 hb hg_ hnew_
    clear hg_ hnew_
    (first | rw [← Ny234.out] at ho23 | (simp only [Int.reduceToNat] at ho23; rw [← Ny234.out] at ho23))
    have n0_ := Aside0.mk (Kd.R_below (q_r (HO231.out)) hb)
    have n1_ := Aside0.mk (Kd.R_lower ho23 (below_size bq))
    have n2_ := Aside0.mk (blk_below (q_b BK226.out) hb)
    have n3_ := Aside0.mk (blk_below (q_b BK227.out) hb)
    have n4_ := Aside0.mk (blk_below (q_b BK232.out) hb)
    have n5_ := Aside0.mk (below_step bq hb)
    clear HO231
    clear BK226
    clear BK227
    clear BK232
    clear HB
    have HO231 := n0_
    have HO236 := n1_
    have BK226 := n2_
    have BK227 := n3_
    have BK232 := n4_
    have HB := n5_
    clear n0_ n1_ n2_ n3_ n4_ n5_
    clear hb ho23
    obtain ⟨Ao24, co24, eo24⟩ := Kd.R_slice HO236.out
    (first | subst eo24 | (injection eo24 with f1_ f2_ f3_; have f4_ := f1_.symm; have f5_ := f3_.symm; clear f1_ f2_ f3_; subst f4_; subst f5_))
    refine hK.out _ _ ⟨q_z BK226.out 0, q_z BK226.out 1, q_z BK232.out 0, q_z BK232.out 1⟩ (fun hHeld => ?_)
    clear hK K
    refine norm_ (a' := ?_) ?_ ?_
    rotate_left
    ·show Act.put _ (some 14) _ = _
     simp only [Act.put, List.setIfInBounds_toArray, List.set_cons_zero, List.set_cons_succ, i64_w, i32_w]
     rfl
    refine one_ (i := 5) (N := some 15) #[true, true, true, true, true, true, false] rfl rfl (by kernel_rfl) (by decide) (fun K hK => ?_)
    refine goes_ Try.func72 (by kernel_rfl) rfl #[.slice Ao24 y234.length co24] (by rfl) rfl rfl (by (try simp only [List.map_toArray, List.map_cons, List.map_nil]); first | done | rfl | (simp only [List.length_drop, List.length_take]; rfl)) ?_
    with_reducible refine (impl_firstOf.calls k _ _ y234 t237 _ ?side1 ?side2 A5.out).mono ?_
    (case side1 => exact q_c ((Kd.R_reads' HO236.out).2.2))
    (case side2 => exact (Kd.R_reads' HO236.out).2.1)
    rintro e w' ⟨rfl, ⟨nd, rfl⟩⟩
    refine ⟨_, rfl, ?_⟩
    refine hK.out _ _ ⟨q_z BK226.out 0, q_z BK226.out 1, q_z BK232.out 0, q_z BK232.out 1⟩ (fun hHeld => ?_)
    clear hK K
    refine norm_ (a' := ?_) ?_ ?_
    rotate_left
    ·show Act.put _ (some 15) _ = _
     simp only [Act.put, List.setIfInBounds_toArray, List.set_cons_zero, List.set_cons_succ, i64_w, i32_w]
     rfl
    refine pure_ (i := 6) (N := some 6) (v := ?_) (a' := ?_) #[true, true, true, true, true, true, true] rfl rfl (by kernel_rfl) (fun _ _ _ h => h) (Or.inl ⟨by rfl, ?_⟩) ?_ ?_
    rotate_left
    ·intro w'
     go_simp
     with_reducible rfl
    rotate_left
    ·simp only [Act.put, List.setIfInBounds_toArray, List.set_cons_zero, List.set_cons_succ, i64_w, i32_w]
     rfl
    refine done_ (by kernel_rfl) ?_
    have hnb25 := NB226_227.out
    have hnc25 := NB227_226.out
    obtain ⟨hcz26_0, hcz26_1, hfz26_0, hfz26_1⟩ := q_2 BK226.out
    try go_wp2_with (first | ((with_reducible refine gate_callee (f := 73) rfl ?_); refine goesLq (some 21) rfl rfl Try.func73 (by kernel_rfl) rfl #[.agg #[.slice A0_0 l0_0.length c0_0, .slice A0_1 l0_1.length c0_1]] rfl ?_; (with_reducible refine (impl_copyLog.calls _ _ l0_0 _ _ l0_1 t238 t241 _ ?side1 ?side2 ?side3 ?side4 A7.out).mono ?_); (case side1 => exact q_c ((Kd.C_below HR0_0.out bq))); (case side2 => exact HC0_0.out); (case side3 => exact q_c ((Kd.C_below HR0_1.out bq))); (case side4 => exact HC0_1.out); rintro e w27 ⟨v239, v242, rfl, ho0, ho1, hb⟩; refine ⟨_, rfl, ?_⟩; have n0_ := Aside0.mk (Kd.R_mono (Kd.R_told (Kd.R_told (Kd.R_old (q_r (HO231.out)) hb) (Kd.R_base ho0)) (Kd.R_base ho1)) (fun _ h_ => h_.1)); have n1_ := Aside0.mk (Kd.R_below (q_r (HO236.out)) hb); have n2_ := Aside0.mk (Kd.R_lower (Kd.R_new' ho0 (Kd.R_lt (q_r (HO231.out)))) (below_size bq)); have n3_ := Aside0.mk (Kd.R_lower (Kd.R_new' ho1 (Kd.R_lt (q_r (HO231.out)))) (below_size bq)); have n4_ := Aside0.mk (blk_below (q_b BK226.out) hb); have n5_ := Aside0.mk (blk_below (q_b BK227.out) hb); have n6_ := Aside0.mk (blk_below (q_b BK232.out) hb); have n7_ := Aside0.mk (below_step bq hb); revert n0_ n1_ n2_ n3_ n4_ n5_ n6_ n7_; clear HO231 HO236 BK226 BK227 BK232 HB; intro HO231 HO236 HO240 HO243 BK226 BK227 BK232 HB; (try clear hb); (try clear hb2); (try clear hk); (try clear hi); (try clear ho0); (try clear ho1)) | ((with_reducible refine gate_dst (N := 7) rfl ?_); refine q_box (N := 7) (cs := #[.slice none 0 0, .slice none 0 0]) (t := 27) ?_; intro gb244 hg w28 hbox hb; have n0_ := Aside0.mk (Kd.R_below (q_r (HO231.out)) hb); have n1_ := Aside0.mk (Kd.R_below (q_r (HO236.out)) hb); have n2_ := Aside0.mk (Kd.R_below (q_r (HO240.out)) hb); have n3_ := Aside0.mk (Kd.R_below (q_r (HO243.out)) hb); have n4_ := Aside0.mk (blk_below (q_b BK226.out) hb); have n5_ := Aside0.mk (blk_below (q_b BK227.out) hb); have n6_ := Aside0.mk (blk_below (q_b BK232.out) hb); have n7_ := Aside0.mk (below_step bq hb); have n8_ := Aside0.mk (hbox); have n9_ := Aside0.mk ((q_g hg bq : w.heap.size ≤ gb244)); have n10_ := Aside0.mk ((q_g hg bq : w.heap.size ≤ gb244)); have n11_ := Aside0.mk ((q_n hg (q_b BK226.out) : gb226 ≠ gb244)); have n12_ := Aside0.mk ((q_m hg (q_b BK226.out) : gb244 ≠ gb226)); have n13_ := Aside0.mk ((q_n hg (q_b BK227.out) : gb227 ≠ gb244)); have n14_ := Aside0.mk ((q_m hg (q_b BK227.out) : gb244 ≠ gb227)); have n15_ := Aside0.mk ((q_n hg (q_b BK232.out) : gb232 ≠ gb244)); have n16_ := Aside0.mk ((q_m hg (q_b BK232.out) : gb244 ≠ gb232)); revert n0_ n1_ n2_ n3_ n4_ n5_ n6_ n7_ n8_ n9_ n10_ n11_ n12_ n13_ n14_ n15_ n16_; clear HO231 HO236 HO240 HO243 BK226 BK227 BK232 HB; intro HO231 HO236 HO240 HO243 BK226 BK227 BK232 HB BK244 GW244 GE244 NB226_244 NB244_226 NB227_244 NB244_227 NB232_244 NB244_232; clear hb hbox hg; obtain ⟨Ao29, co29, eo29⟩ := Kd.R_slice HO240.out; subst eo29; have hnb30 := NB244_226.out; have hnc30 := NB226_244.out; have hnb31 := NB244_227.out; have hnc31 := NB227_244.out; have hnb32 := NB244_232.out; have hnc32 := NB232_244.out; obtain ⟨hcz33_0, hcz33_1, hfz33_0, hfz33_1⟩ := q_2 BK244.out; obtain ⟨Ao34, co34, eo34⟩ := Kd.R_slice HO243.out; subst eo34; obtain ⟨hcz35_0, hcz35_1, hfz35_0, hfz35_1⟩ := q_2 BK232.out) | ((with_reducible refine gate_builtin (b := .append) (xs := #[.tmp 23, .tmp 25]) rfl ?_); at_builtin; refine Kd.R_append_rows (Kd.int .u8) (w0 := w) w.heap.size rfl (.tmp 23) (.tmp 25) 22 5 (.int .u8 0) 1 rfl Try.underlying22 info5 rfl (by decide) (by omega) (.slice Ao34 t241.length co34) t241 t229 _ _ _ (fun k_ => some k_ ≠ (.slice Ao18 t229.length co18 : Value).ownBlock ∧ some k_ ≠ (.slice Ao29 t238.length co29 : Value).ownBlock) (fun _ => False) rfl rfl ?aO ?aR (fun _ _ h => h) (fun _ h => h.elim) ?aF ?aB ?aS ?aL ?_; (case aR => refine (Kd.R_reads' (e := 5) (base := w.heap.size) (ok := fun k_ => ((True ∧ some k_ ≠ (.slice Ao29 t238.length co29 : Value).ownBlock) ∧ some k_ ≠ (.slice Ao34 t241.length co34 : Value).ownBlock)) (n := t229.length) (c := co18) ?_).2.2; exact (by (with_reducible repeat (first | apply Kd.R_alloc | apply Kd.R_drewN | apply Kd.R_drew)); exact (Kd.R_mono (Kd.R_far (p := ⟨gb244, 1, none⟩) (Kd.R_far (p := ⟨gb244, 0, none⟩) (Kd.R_types HO231.out BK244.out (by decide)) (fun _ hk => hk.2) (.slice Ao29 t238.length co29)) (fun _ hk => hk.2) (.slice Ao34 t241.length co34)) (fun _ h_ => h_.1)))); (case aB => exact bq); (case aF => exact (fun k_ hk => ⟨Kd.fresh' (Kd.R_lt (by (with_reducible repeat (first | apply Kd.R_alloc | apply Kd.R_drewN | apply Kd.R_drew)); exact (Kd.R_mono (Kd.R_far (p := ⟨gb244, 1, none⟩) (Kd.R_far (p := ⟨gb244, 0, none⟩) (Kd.R_types HO231.out BK244.out (by decide)) (fun _ hk => hk.2) (.slice Ao29 t238.length co29)) (fun _ hk => hk.2) (.slice Ao34 t241.length co34)) (fun _ h_ => h_.1)))) k_ hk, Kd.fresh' (Kd.R_lt (by (with_reducible repeat (first | apply Kd.R_alloc | apply Kd.R_drewN | apply Kd.R_drew)); exact (Kd.R_mono (Kd.R_far (p := ⟨gb244, 1, none⟩) (Kd.R_far (p := ⟨gb244, 0, none⟩) (Kd.R_types HO240.out BK244.out (by decide)) (fun _ hk => hk.2) (.slice Ao29 t238.length co29)) (fun _ hk => hk.2) (.slice Ao34 t241.length co34)) (fun _ h_ => h_.1)))) k_ hk⟩)); (case aO => exact (by (with_reducible repeat (first | apply Kd.R_alloc | apply Kd.R_drewN | apply Kd.R_drew)); exact Kd.R_mono (Kd.R_far (p := ⟨gb244, 1, none⟩) (Kd.R_far (p := ⟨gb244, 0, none⟩) (Kd.R_types HO243.out BK244.out (by decide)) (fun _ hk => hk.2) (.slice Ao29 t238.length co29)) (fun _ hk => hk.2) (.slice Ao34 t241.length co34)) (fun _ hk => ⟨hk.1.2, hk.1.1⟩))); (case aS => exact (below_size bq)); (case aL => have := LMc8.out; omega); intro v246 w36 ho hb hg hat; rw [← Ny245.out] at ho; have n0_ := Aside0.mk (blk_grown (g := gb226) (o := .cells #[.slice A0_0 l0_0.length c0_0, .slice A0_1 l0_1.length c0_1] 27 (0, 0)) (by (with_reducible repeat (first | refine blk_drewN ?_ _ | refine blk_drew ?_ | refine blk_alloc ?_ _)); refine blk_far ?_ NB226_244.out _; (with_reducible repeat (first | refine blk_drewN ?_ _ | refine blk_drew ?_ | refine blk_alloc ?_ _)); refine blk_far ?_ NB226_244.out _; (with_reducible repeat (first | refine blk_drewN ?_ _ | refine blk_drew ?_ | refine blk_alloc ?_ _)); exact BK226.out) hg (Kd.R_ne HO243.out BK226.out (by decide))); have n1_ := Aside0.mk (blk_grown (g := gb227) (o := .cells #[.int .i64 0, .slice none 0 0, .slice none 0 0] 46 (0, 0)) (by (with_reducible repeat (first | refine blk_drewN ?_ _ | refine blk_drew ?_ | refine blk_alloc ?_ _)); refine blk_far ?_ NB227_244.out _; (with_reducible repeat (first | refine blk_drewN ?_ _ | refine blk_drew ?_ | refine blk_alloc ?_ _)); refine blk_far ?_ NB227_244.out _; (with_reducible repeat (first | refine blk_drewN ?_ _ | refine blk_drew ?_ | refine blk_alloc ?_ _)); exact BK227.out) hg (Kd.R_ne HO243.out BK227.out (by decide))); have n2_ := Aside0.mk (Kd.R_after (ok := (fun k_ => some k_ ≠ (.slice Ao29 t238.length co29 : Value).ownBlock)) (by (with_reducible repeat (first | apply Kd.R_alloc | apply Kd.R_drewN | apply Kd.R_drew)); exact Kd.R_mono (Kd.R_far (p := ⟨gb244, 1, none⟩) (Kd.R_far (p := ⟨gb244, 0, none⟩) (Kd.R_types HO231.out BK244.out (by decide)) (fun _ hk => hk.2) (.slice Ao29 t238.length co29)) (fun _ hk => hk.2) (.slice Ao34 t241.length co34)) (fun _ hk => ⟨hk.1.1.2, hk.1.2⟩)) hg hat); have n3_ := Aside0.mk (blk_grown (g := gb232) (o := .cells #[.int .i64 t228, .slice Ao18 t229.length co18] 32 (0, 0)) (by (with_reducible repeat (first | refine blk_drewN ?_ _ | refine blk_drew ?_ | refine blk_alloc ?_ _)); refine blk_far ?_ NB232_244.out _; (with_reducible repeat (first | refine blk_drewN ?_ _ | refine blk_drew ?_ | refine blk_alloc ?_ _)); refine blk_far ?_ NB232_244.out _; (with_reducible repeat (first | refine blk_drewN ?_ _ | refine blk_drew ?_ | refine blk_alloc ?_ _)); exact BK232.out) hg (Kd.R_ne HO243.out BK232.out (by decide))); have n4_ := Aside0.mk (Kd.R_over' (by (with_reducible repeat (first | apply Kd.R_alloc | apply Kd.R_drewN | apply Kd.R_drew)); exact (Kd.R_mono (Kd.R_far (p := ⟨gb244, 1, none⟩) (Kd.R_far (p := ⟨gb244, 0, none⟩) (Kd.R_types HO236.out BK244.out (by decide)) (fun _ hk => hk.2) (.slice Ao29 t238.length co29)) (fun _ hk => hk.2) (.slice Ao34 t241.length co34)) (fun _ h_ => h_.1))) (Kd.R_typed (by (with_reducible repeat (first | apply Kd.R_alloc | apply Kd.R_drewN | apply Kd.R_drew)); exact (Kd.R_mono (Kd.R_far (p := ⟨gb244, 1, none⟩) (Kd.R_far (p := ⟨gb244, 0, none⟩) (Kd.R_types HO243.out BK244.out (by decide)) (fun _ hk => hk.2) (.slice Ao29 t238.length co29)) (fun _ hk => hk.2) (.slice Ao34 t241.length co34)) (fun _ h_ => h_.1)))) (by decide) hg); have n5_ := Aside0.mk (Kd.R_after (ok := (fun k_ => some k_ ≠ (.slice Ao18 t229.length co18 : Value).ownBlock)) (by (with_reducible repeat (first | apply Kd.R_alloc | apply Kd.R_drewN | apply Kd.R_drew)); exact Kd.R_mono (Kd.R_far (p := ⟨gb244, 1, none⟩) (Kd.R_far (p := ⟨gb244, 0, none⟩) (Kd.R_types HO240.out BK244.out (by decide)) (fun _ hk => hk.2) (.slice Ao29 t238.length co29)) (fun _ hk => hk.2) (.slice Ao34 t241.length co34)) (fun _ hk => ⟨hk.1.2, hk.1.1⟩)) hg hat); have n6_ := Aside0.mk (blk_grown (g := gb244) (o := .cells #[.slice Ao29 t238.length co29, .slice Ao34 t241.length co34] 27 (0, 0)) (by (with_reducible repeat (first | refine blk_drewN ?_ _ | refine blk_drew ?_ | refine blk_alloc ?_ _)); refine blk_put (cs := #[.slice Ao29 t238.length co29, .slice none 0 0]) ?_ 1 _ rfl; (with_reducible repeat (first | refine blk_drewN ?_ _ | refine blk_drew ?_ | refine blk_alloc ?_ _)); refine blk_put (cs := #[.slice none 0 0, .slice none 0 0]) ?_ 0 _ rfl; (with_reducible repeat (first | refine blk_drewN ?_ _ | refine blk_drew ?_ | refine blk_alloc ?_ _)); exact BK244.out) hg (Kd.R_ne HO243.out BK244.out (by decide))); have n7_ := Aside0.mk (hb); have n8_ := Aside0.mk (ho); revert n0_ n1_ n2_ n3_ n4_ n5_ n6_ n7_ n8_; clear BK226 BK227 HO231 BK232 HO236 HO240 BK244 HB HO243; intro BK226 BK227 HO231 BK232 HO236 HO240 BK244 HB HO247; clear ho hb hg hat; obtain ⟨Ao37, co37, eo37⟩ := Kd.R_slice HO247.out; subst eo37; obtain ⟨hcz38_0, hcz38_1, hfz38_0, hfz38_1⟩ := q_2 BK244.out) | ((with_reducible refine gate_callee (f := 17) rfl ?_); refine goesLq (some 29) rfl rfl Try.func17 (by kernel_rfl) rfl #[.agg #[.slice Ao29 t238.length co29, .slice Ao37 y245.length co37]] rfl ?_; (with_reducible refine (impl_LogFault.calls _ _ t238 _ _ y245 t248 _ ?side1 ?side2 ?side3 ?side4 A9.out).mono ?_); (case side1 => refine (Kd.R_reads' (e := 5) (base := w.heap.size) (ok := fun k_ => (some k_ ≠ (.slice Ao18 t229.length co18 : Value).ownBlock ∧ some k_ ≠ (.slice Ao37 y245.length co37 : Value).ownBlock)) (n := t238.length) (c := co29) ?_).2.2; exact (by (with_reducible repeat (first | apply Kd.R_alloc | apply Kd.R_drewN | apply Kd.R_drew)); exact (Kd.R_mono (Kd.R_far (p := ⟨gb244, 1, none⟩) (Kd.R_types HO240.out BK244.out (by decide)) (fun _ hk => hk.2) (.slice Ao37 y245.length co37)) (fun _ h_ => h_.1)))); (case side2 => exact (Kd.R_reads' HO240.out).2.1); (case side3 => refine (Kd.R_reads' (e := 5) (base := w.heap.size) (ok := fun k_ => (some k_ ≠ (.slice Ao18 t229.length co18 : Value).ownBlock ∧ some k_ ≠ (.slice Ao29 t238.length co29 : Value).ownBlock)) (n := y245.length) (c := co37) ?_).2.2; exact (by (with_reducible repeat (first | apply Kd.R_alloc | apply Kd.R_drewN | apply Kd.R_drew)); exact (Kd.R_mono (Kd.R_far (p := ⟨gb244, 1, none⟩) (Kd.R_types HO247.out BK244.out (by decide)) (fun _ hk => hk.2) (.slice Ao37 y245.length co37)) (fun _ h_ => h_.1)))); (case side4 => exact (Kd.R_reads' HO247.out).2.1); rintro e w39 ⟨rfl, hb⟩; refine ⟨_, rfl, ?_⟩; have n0_ := Aside0.mk (Kd.R_below (by (with_reducible repeat (first | apply Kd.R_alloc | apply Kd.R_drewN | apply Kd.R_drew)); exact (Kd.R_mono (Kd.R_far (p := ⟨gb244, 1, none⟩) (Kd.R_types HO231.out BK244.out (by decide)) (fun _ hk => hk.2) (.slice Ao37 y245.length co37)) (fun _ h_ => h_.1))) hb); have n1_ := Aside0.mk (Kd.R_below (by (with_reducible repeat (first | apply Kd.R_alloc | apply Kd.R_drewN | apply Kd.R_drew)); exact (Kd.R_mono (Kd.R_far (p := ⟨gb244, 1, none⟩) (Kd.R_types HO236.out BK244.out (by decide)) (fun _ hk => hk.2) (.slice Ao37 y245.length co37)) (fun _ h_ => h_.1))) hb); have n2_ := Aside0.mk (Kd.R_below (by (with_reducible repeat (first | apply Kd.R_alloc | apply Kd.R_drewN | apply Kd.R_drew)); exact (Kd.R_mono (Kd.R_far (p := ⟨gb244, 1, none⟩) (Kd.R_types HO240.out BK244.out (by decide)) (fun _ hk => hk.2) (.slice Ao37 y245.length co37)) (fun _ h_ => h_.1))) hb); have n3_ := Aside0.mk (Kd.R_below (by (with_reducible repeat (first | apply Kd.R_alloc | apply Kd.R_drewN | apply Kd.R_drew)); exact (Kd.R_mono (Kd.R_far (p := ⟨gb244, 1, none⟩) (Kd.R_types HO247.out BK244.out (by decide)) (fun _ hk => hk.2) (.slice Ao37 y245.length co37)) (fun _ h_ => h_.1))) hb); have n4_ := Aside0.mk (blk_below (g := gb226) (o := .cells #[.slice A0_0 l0_0.length c0_0, .slice A0_1 l0_1.length c0_1] 27 (0, 0)) (by (with_reducible repeat (first | refine blk_drewN ?_ _ | refine blk_drew ?_ | refine blk_alloc ?_ _)); refine blk_far ?_ NB226_244.out _; (with_reducible repeat (first | refine blk_drewN ?_ _ | refine blk_drew ?_ | refine blk_alloc ?_ _)); exact BK226.out) hb); have n5_ := Aside0.mk (blk_below (g := gb227) (o := .cells #[.int .i64 0, .slice none 0 0, .slice none 0 0] 46 (0, 0)) (by (with_reducible repeat (first | refine blk_drewN ?_ _ | refine blk_drew ?_ | refine blk_alloc ?_ _)); refine blk_far ?_ NB227_244.out _; (with_reducible repeat (first | refine blk_drewN ?_ _ | refine blk_drew ?_ | refine blk_alloc ?_ _)); exact BK227.out) hb); have n6_ := Aside0.mk (blk_below (g := gb232) (o := .cells #[.int .i64 t228, .slice Ao18 t229.length co18] 32 (0, 0)) (by (with_reducible repeat (first | refine blk_drewN ?_ _ | refine blk_drew ?_ | refine blk_alloc ?_ _)); refine blk_far ?_ NB232_244.out _; (with_reducible repeat (first | refine blk_drewN ?_ _ | refine blk_drew ?_ | refine blk_alloc ?_ _)); exact BK232.out) hb); have n7_ := Aside0.mk (blk_below (g := gb244) (o := .cells #[.slice Ao29 t238.length co29, .slice Ao37 y245.length co37] 27 (0, 0)) (by (with_reducible repeat (first | refine blk_drewN ?_ _ | refine blk_drew ?_ | refine blk_alloc ?_ _)); refine blk_put (cs := #[.slice Ao29 t238.length co29, .slice Ao34 t241.length co34]) ?_ 1 _ rfl; (with_reducible repeat (first | refine blk_drewN ?_ _ | refine blk_drew ?_ | refine blk_alloc ?_ _)); exact BK244.out) hb); have n8_ := Aside0.mk (below_step bq hb); revert n0_ n1_ n2_ n3_ n4_ n5_ n6_ n7_ n8_; clear HO231 HO236 HO240 HO247 BK226 BK227 BK232 BK244 HB; intro HO231 HO236 HO240 HO247 BK226 BK227 BK232 BK244 HB; (try clear hb); (try clear hb2); (try clear hk); (try clear hi); obtain ⟨hcz40_0, hcz40_1, hfz40_0, hfz40_1⟩ := q_2 BK244.out; obtain ⟨hcz41_0, hcz41_1, hcz41_2, hfz41_0, hfz41_1, hfz41_2⟩ := q_3 BK227.out))
    refine bodyPost_ret (results_cell_row rfl _ _ gb227 46 #[.int .i64 0, .slice Ao29 t238.length co29, .slice Ao37 y245.length co37] (0, 0) _ rfl (by (with_reducible repeat (first | refine blk_drewN ?_ _ | refine blk_drew ?_ | refine blk_alloc ?_ _)); refine blk_put (cs := #[.int .i64 0, .slice Ao29 t238.length co29, .slice none 0 0]) ?_ 2 _ rfl; (with_reducible repeat (first | refine blk_drewN ?_ _ | refine blk_drew ?_ | refine blk_alloc ?_ _)); refine blk_put (cs := #[.int .i64 0, .slice none 0 0, .slice none 0 0]) ?_ 1 _ rfl; (with_reducible repeat (first | refine blk_drewN ?_ _ | refine blk_drew ?_ | refine blk_alloc ?_ _)); refine blk_put (cs := #[.int .i64 0, .slice none 0 0, .slice none 0 0]) ?_ 0 _ rfl; (with_reducible repeat (first | refine blk_drewN ?_ _ | refine blk_drew ?_ | refine blk_alloc ?_ _)); exact BK227.out) Try.underlying46 rfl (by kernel_rfl)) rfl ?_
    exact ⟨_, _, q_e, by (with_reducible repeat (first | apply Kd.R_alloc | apply Kd.R_drewN | apply Kd.R_drew)); exact Kd.R_mono (Kd.R_far (p := ⟨gb227, 2, none⟩) (Kd.R_far (p := ⟨gb227, 1, none⟩) (Kd.R_far (p := ⟨gb227, 0, none⟩) (Kd.R_types HO240.out BK227.out (by decide)) (fun _ hk => hk.2) (.int .i64 0)) (fun _ hk => hk.2) (.slice Ao29 t238.length co29)) (fun _ hk => hk.2) (.slice Ao37 y245.length co37)) (fun _ hk => hk.1.2), by (with_reducible repeat (first | apply Kd.R_alloc | apply Kd.R_drewN | apply Kd.R_drew)); exact Kd.R_mono (Kd.R_far (p := ⟨gb227, 2, none⟩) (Kd.R_far (p := ⟨gb227, 1, none⟩) (Kd.R_far (p := ⟨gb227, 0, none⟩) (Kd.R_types HO247.out BK227.out (by decide)) (fun _ hk => hk.2) (.int .i64 0)) (fun _ hk => hk.2) (.slice Ao29 t238.length co29)) (fun _ hk => hk.2) (.slice Ao37 y245.length co37)) (fun _ hk => hk.1.2), bq⟩
   ·rw [if_neg c10] at H
    have c10b0 : (t248 == 0) = false := beq_eq_false_iff_ne.mpr c10
    have c10b1 : (t248 != 0) = true := bne_iff_ne.mpr c10
    simp only [Option.some.injEq, Prod.mk.injEq] at H
    obtain ⟨rfl, rfl, rfl⟩ := H
    go_enter Try.func46, Try.ntmps46
    try go_wp2_with (first | ((with_reducible refine gate_dst (N := 2) rfl ?_); refine q_box (N := 2) (cs := #[.slice A0_0 l0_0.length c0_0, .slice A0_1 l0_1.length c0_1]) (t := 27) ?_; intro gb226 hg w42 hbox hb; have n0_ := Aside0.mk (below_step bq hb); have n1_ := Aside0.mk (hbox); have n2_ := Aside0.mk ((q_g hg bq : w.heap.size ≤ gb226)); have n3_ := Aside0.mk ((q_g hg bq : w.heap.size ≤ gb226)); revert n0_ n1_ n2_ n3_; clear HB; intro HB BK226 GW226 GE226; clear hb hbox hg) | ((with_reducible refine gate_dst (N := 4) rfl ?_); refine q_box (N := 4) (cs := #[.int .i64 0, .slice none 0 0, .slice none 0 0]) (t := 46) ?_; intro gb227 hg w43 hbox hb; have n0_ := Aside0.mk (blk_below (q_b BK226.out) hb); have n1_ := Aside0.mk (below_step bq hb); have n2_ := Aside0.mk (hbox); have n3_ := Aside0.mk ((q_g hg bq : w.heap.size ≤ gb227)); have n4_ := Aside0.mk ((q_g hg bq : w.heap.size ≤ gb227)); have n5_ := Aside0.mk ((q_n hg (q_b BK226.out) : gb226 ≠ gb227)); have n6_ := Aside0.mk ((q_m hg (q_b BK226.out) : gb227 ≠ gb226)); revert n0_ n1_ n2_ n3_ n4_ n5_ n6_; clear BK226 HB; intro BK226 HB BK227 GW227 GE227 NB226_227 NB227_226; clear hb hbox hg) | ((with_reducible refine gate_callee (f := 21) rfl ?_); refine goesLq (some 9) rfl rfl Try.func21 (by kernel_rfl) rfl #[.slice A1 l1.length c1] rfl ?_; (with_reducible refine (impl_FrameRecord.calls k _ _ l1 t228 t229 _ ?side1 ?side2 A3.out).mono ?_); (case side1 => exact q_c ((Kd.C_below HR1.out HB.out))); (case side2 => exact HC1.out); rintro e w44 ⟨v230, rfl, ho0, hb⟩; refine ⟨_, rfl, ?_⟩; have n0_ := Aside0.mk (Kd.R_lower ho0 (below_size bq)); have n1_ := Aside0.mk (blk_below (q_b BK226.out) hb); have n2_ := Aside0.mk (blk_below (q_b BK227.out) hb); have n3_ := Aside0.mk (below_step bq hb); revert n0_ n1_ n2_ n3_; clear BK226 BK227 HB; intro HO231 BK226 BK227 HB; (try clear hb); (try clear hb2); (try clear hk); (try clear hi); (try clear ho0)) | ((with_reducible refine gate_dst (N := 5) rfl ?_); refine q_box (N := 5) (cs := #[.int .i64 0, .slice none 0 0]) (t := 32) ?_; intro gb232 hg w45 hbox hb; have n0_ := Aside0.mk (Kd.R_below (q_r (HO231.out)) hb); have n1_ := Aside0.mk (blk_below (q_b BK226.out) hb); have n2_ := Aside0.mk (blk_below (q_b BK227.out) hb); have n3_ := Aside0.mk (below_step bq hb); have n4_ := Aside0.mk (hbox); have n5_ := Aside0.mk ((q_g hg bq : w.heap.size ≤ gb232)); have n6_ := Aside0.mk ((q_g hg bq : w.heap.size ≤ gb232)); have n7_ := Aside0.mk ((q_n hg (q_b BK226.out) : gb226 ≠ gb232)); have n8_ := Aside0.mk ((q_m hg (q_b BK226.out) : gb232 ≠ gb226)); have n9_ := Aside0.mk ((q_n hg (q_b BK227.out) : gb227 ≠ gb232)); have n10_ := Aside0.mk ((q_m hg (q_b BK227.out) : gb232 ≠ gb227)); revert n0_ n1_ n2_ n3_ n4_ n5_ n6_ n7_ n8_ n9_ n10_; clear HO231 BK226 BK227 HB; intro HO231 BK226 BK227 HB BK232 GW232 GE232 NB226_232 NB232_226 NB227_232 NB232_227; clear hb hbox hg; have hnb46 := NB232_226.out; have hnc46 := NB226_232.out; have hnb47 := NB232_227.out; have hnc47 := NB227_232.out; obtain ⟨hcz48_0, hcz48_1, hfz48_0, hfz48_1⟩ := q_2 BK232.out; obtain ⟨Ao49, co49, eo49⟩ := Kd.R_slice HO231.out; subst eo49))
    have n0_ : Aside0 (Kd.R (Kd.int .u8) 5 ((w45.setCell ⟨gb232, 0, none⟩ (.int .i64 t228)).setCell ⟨gb232, 1, none⟩ (.slice Ao49 t229.length co49)) w.heap.size (fun _ => True) (.slice Ao49 t229.length co49) t229) := ⟨by (with_reducible repeat (first | apply Kd.R_alloc | apply Kd.R_drewN | apply Kd.R_drew)); exact Kd.R_mono (Kd.R_far (p := ⟨gb232, 1, none⟩) (Kd.R_far (p := ⟨gb232, 0, none⟩) (Kd.R_types HO231.out BK232.out (by decide)) (fun _ hk => hk.2) (.int .i64 t228)) (fun _ hk => hk.2) (.slice Ao49 t229.length co49)) (fun _ hk => trivial)⟩
    have n1_ : Aside0 (((w45.setCell ⟨gb232, 0, none⟩ (.int .i64 t228)).setCell ⟨gb232, 1, none⟩ (.slice Ao49 t229.length co49)).heap[gb226]? = some (.cells #[.slice A0_0 l0_0.length c0_0, .slice A0_1 l0_1.length c0_1] 27 (0, 0))) := ⟨by (with_reducible repeat (first | refine blk_drewN ?_ _ | refine blk_drew ?_ | refine blk_alloc ?_ _)); refine blk_far ?_ NB226_232.out _; (with_reducible repeat (first | refine blk_drewN ?_ _ | refine blk_drew ?_ | refine blk_alloc ?_ _)); refine blk_far ?_ NB226_232.out _; (with_reducible repeat (first | refine blk_drewN ?_ _ | refine blk_drew ?_ | refine blk_alloc ?_ _)); exact BK226.out⟩
    have n2_ : Aside0 (((w45.setCell ⟨gb232, 0, none⟩ (.int .i64 t228)).setCell ⟨gb232, 1, none⟩ (.slice Ao49 t229.length co49)).heap[gb227]? = some (.cells #[.int .i64 0, .slice none 0 0, .slice none 0 0] 46 (0, 0))) := ⟨by (with_reducible repeat (first | refine blk_drewN ?_ _ | refine blk_drew ?_ | refine blk_alloc ?_ _)); refine blk_far ?_ NB227_232.out _; (with_reducible repeat (first | refine blk_drewN ?_ _ | refine blk_drew ?_ | refine blk_alloc ?_ _)); refine blk_far ?_ NB227_232.out _; (with_reducible repeat (first | refine blk_drewN ?_ _ | refine blk_drew ?_ | refine blk_alloc ?_ _)); exact BK227.out⟩
    have n3_ : Aside0 (((w45.setCell ⟨gb232, 0, none⟩ (.int .i64 t228)).setCell ⟨gb232, 1, none⟩ (.slice Ao49 t229.length co49)).heap[gb232]? = some (.cells #[.int .i64 t228, .slice Ao49 t229.length co49] 32 (0, 0))) := ⟨by (with_reducible repeat (first | refine blk_drewN ?_ _ | refine blk_drew ?_ | refine blk_alloc ?_ _)); refine blk_put (cs := #[.int .i64 t228, .slice none 0 0]) ?_ 1 _ rfl; (with_reducible repeat (first | refine blk_drewN ?_ _ | refine blk_drew ?_ | refine blk_alloc ?_ _)); refine blk_put (cs := #[.int .i64 0, .slice none 0 0]) ?_ 0 _ rfl; (with_reducible repeat (first | refine blk_drewN ?_ _ | refine blk_drew ?_ | refine blk_alloc ?_ _)); exact BK232.out⟩
    have n4_ : Aside0 (Below w.heap.size w ((w45.setCell ⟨gb232, 0, none⟩ (.int .i64 t228)).setCell ⟨gb232, 1, none⟩ (.slice Ao49 t229.length co49))) := ⟨bq⟩
    (try clear HO231)
    (try clear BK226)
    (try clear BK227)
    (try clear BK232)
    (try clear HB)
    generalize ((w45.setCell ⟨gb232, 0, none⟩ (.int .i64 t228)).setCell ⟨gb232, 1, none⟩ (.slice Ao49 t229.length co49)) = w50 at n0_ n1_ n2_ n3_ n4_ ⊢
    have HO231 := n0_
    have BK226 := n1_
    have BK227 := n2_
    have BK232 := n3_
    have HB := n4_
    clear n0_ n1_ n2_ n3_ n4_
    have n0_ := Aside0.mk (Kd.R_drew HO231.out)
    have n1_ := Aside0.mk (blk_drew BK226.out)
    have n2_ := Aside0.mk (blk_drew BK227.out)
    have n3_ := Aside0.mk (blk_drew BK232.out)
    have n4_ := Aside0.mk (below_drew1 HB.out)
    clear HO231
    clear BK226
    clear BK227
    clear BK232
    clear HB
    have HO231 := n0_
    have BK226 := n1_
    have BK227 := n2_
    have BK232 := n3_
    have HB := n4_
    clear n0_ n1_ n2_ n3_ n4_
    refine start_ (n := 7) (S := fun w' => w'.cell? ⟨gb226, 0, none⟩ = some (.slice A0_0 l0_0.length c0_0) ∧ w'.cell? ⟨gb226, 1, none⟩ = some (.slice A0_1 l0_1.length c0_1) ∧ w'.cell? ⟨gb232, 0, none⟩ = some (.int .i64 t228) ∧ w'.cell? ⟨gb232, 1, none⟩ = some (.slice Ao49 t229.length co49)) (ds := []) #[false, false, false, false, false, false, false] (by kernel_rfl) rfl rfl ⟨q_z BK226.out 0, q_z BK226.out 1, q_z BK232.out 0, q_z BK232.out 1⟩ (fun hHeld => ?_)
    generalize w50.drew = w51 at HO231 BK226 BK227 BK232 HB hHeld ⊢
    refine pure_ (i := 2) (N := some 12) (v := ?_) (a' := ?_) #[false, false, true, false, false, false, false] rfl rfl (by kernel_rfl) (fun _ _ _ h => h) (Or.inl ⟨by rfl, ?_⟩) ?_ ?_
    rotate_left
    ·intro w'
     go_simp
     with_reducible rfl
    rotate_left
    ·simp only [Act.put, List.setIfInBounds_toArray, List.set_cons_zero, List.set_cons_succ, i64_w, i32_w]
     rfl
    refine take_ (i := 0) (N := some 10) (v := ?_) (a' := ?_) #[true, false, true, false, false, false, false] rfl rfl (by kernel_rfl) (fun _ _ _ h => h) (Or.inl ⟨by rfl, ?_⟩) hHeld ?_ ?_
    rotate_left
    ·rintro w' ⟨s0, s1, s2, s3⟩
     go_simp
     with_reducible rfl
    rotate_left
    ·simp only [Act.put, List.setIfInBounds_toArray, List.set_cons_zero, List.set_cons_succ, i64_w, i32_w]
     rfl
    refine take_ (i := 3) (N := some 13) (v := ?_) (a' := ?_) #[true, false, true, true, false, false, false] rfl rfl (by kernel_rfl) (fun _ _ _ h => h) (Or.inl ⟨by rfl, ?_⟩) hHeld ?_ ?_
    rotate_left
    ·rintro w' ⟨s0, s1, s2, s3⟩
     go_simp
     with_reducible rfl
    rotate_left
    ·simp only [Act.put, List.setIfInBounds_toArray, List.set_cons_zero, List.set_cons_succ, i64_w, i32_w]
     rfl
    refine one_ (i := 1) (N := some 11) #[true, true, true, true, false, false, false] rfl rfl (by kernel_rfl) (by decide) (fun K hK => ?_)
    refine goes_ Try.func17 (by kernel_rfl) rfl #[.agg #[.slice A0_0 l0_0.length c0_0, .slice A0_1 l0_1.length c0_1]] (by rfl) rfl rfl (by (try simp only [List.map_toArray, List.map_cons, List.map_nil]); first | done | rfl | (simp only [List.length_drop, List.length_take]; rfl)) ?_
    with_reducible refine (impl_LogFault.calls _ _ l0_0 _ _ l0_1 t233 _ ?side1 ?side2 ?side3 ?side4 A4.out).mono ?_
    (case side1 => exact q_c ((Kd.C_below HR0_0.out HB.out)))
    (case side2 => exact HC0_0.out)
    (case side3 => exact q_c ((Kd.C_below HR0_1.out HB.out)))
    (case side4 => exact HC0_1.out)
    rintro e w52 ⟨rfl, hb⟩
    refine ⟨_, rfl, ?_⟩
    have n0_ := Aside0.mk (Kd.R_below (q_r (HO231.out)) hb)
    have n1_ := Aside0.mk (blk_below (q_b BK226.out) hb)
    have n2_ := Aside0.mk (blk_below (q_b BK227.out) hb)
    have n3_ := Aside0.mk (blk_below (q_b BK232.out) hb)
    have n4_ := Aside0.mk (below_step bq hb)
    clear HO231
    clear BK226
    clear BK227
    clear BK232
    clear HB
    have HO231 := n0_
    have BK226 := n1_
    have BK227 := n2_
    have BK232 := n3_
    have HB := n4_
    clear n0_ n1_ n2_ n3_ n4_
    (try clear hb)
    (try clear hb2)
    (try clear hk)
    (try clear hi)
    refine hK.out _ _ ⟨q_z BK226.out 0, q_z BK226.out 1, q_z BK232.out 0, q_z BK232.out 1⟩ (fun hHeld => ?_)
    clear hK K
    refine norm_ (a' := ?_) ?_ ?_
    rotate_left
    ·show Act.put _ (some 11) _ = _
     simp only [Act.put, List.setIfInBounds_toArray, List.set_cons_zero, List.set_cons_succ, i64_w, i32_w]
     rfl
    refine one_ (i := 4) (N := some 14) #[true, true, true, true, true, false, false] rfl rfl (by kernel_rfl) (by decide) (fun K hK => ?_)
    refine Kd.R_lit_step (Kd.int .i64) _ 2 ?hg (N := 14) ?hd (xs := ([t233, t228] : List Int)) (inner := [.int .i64 t233, .int .i64 t228]) (ok := fun _ => True) (okp := fun _ => True) ?hr ?hp (fun _ hk => hk) trivial (Below.refl _ _) (Nat.le_refl _) (by simp) ?_; (case hd => rfl); (case hg => rfl); (case hr => first | (go_simp; done) | (go_simp; rfl)); (case hp => exact (Reps.one (show Kd.M (Kd.int .i64) _ _ _ t233 [.int .i64 t233] from rfl) (Reps.one (show Kd.M (Kd.int .i64) _ _ _ t228 [.int .i64 t228] from rfl) (Reps.none _ _))))
    intro v235 w53 ho54 hb hg_ hnew_
    clear hg_ hnew_
    (first | rw [← Ny234.out] at ho54 | (simp only [Int.reduceToNat] at ho54; rw [← Ny234.out] at ho54))
    have n0_ := Aside0.mk (Kd.R_below (q_r (HO231.out)) hb)
    have n1_ := Aside0.mk (Kd.R_lower ho54 (below_size bq))
    have n2_ := Aside0.mk (blk_below (q_b BK226.out) hb)
    have n3_ := Aside0.mk (blk_below (q_b BK227.out) hb)
    have n4_ := Aside0.mk (blk_below (q_b BK232.out) hb)
    have n5_ := Aside0.mk (below_step bq hb)
    clear HO231
    clear BK226
    clear BK227
    clear BK232
    clear HB
    have HO231 := n0_
    have HO236 := n1_
    have BK226 := n2_
    have BK227 := n3_
    have BK232 := n4_
    have HB := n5_
    clear n0_ n1_ n2_ n3_ n4_ n5_
    clear hb ho54
    obtain ⟨Ao55, co55, eo55⟩ := Kd.R_slice HO236.out
    (first | subst eo55 | (injection eo55 with f1_ f2_ f3_; have f4_ := f1_.symm; have f5_ := f3_.symm; clear f1_ f2_ f3_; subst f4_; subst f5_))
    refine hK.out _ _ ⟨q_z BK226.out 0, q_z BK226.out 1, q_z BK232.out 0, q_z BK232.out 1⟩ (fun hHeld => ?_)
    clear hK K
    refine norm_ (a' := ?_) ?_ ?_
    rotate_left
    ·show Act.put _ (some 14) _ = _
     simp only [Act.put, List.setIfInBounds_toArray, List.set_cons_zero, List.set_cons_succ, i64_w, i32_w]
     rfl
    refine one_ (i := 5) (N := some 15) #[true, true, true, true, true, true, false] rfl rfl (by kernel_rfl) (by decide) (fun K hK => ?_)
    refine goes_ Try.func72 (by kernel_rfl) rfl #[.slice Ao55 y234.length co55] (by rfl) rfl rfl (by (try simp only [List.map_toArray, List.map_cons, List.map_nil]); first | done | rfl | (simp only [List.length_drop, List.length_take]; rfl)) ?_
    with_reducible refine (impl_firstOf.calls k _ _ y234 t237 _ ?side1 ?side2 A5.out).mono ?_
    (case side1 => exact q_c ((Kd.R_reads' HO236.out).2.2))
    (case side2 => exact (Kd.R_reads' HO236.out).2.1)
    rintro e w' ⟨rfl, ⟨nd, rfl⟩⟩
    refine ⟨_, rfl, ?_⟩
    refine hK.out _ _ ⟨q_z BK226.out 0, q_z BK226.out 1, q_z BK232.out 0, q_z BK232.out 1⟩ (fun hHeld => ?_)
    clear hK K
    refine norm_ (a' := ?_) ?_ ?_
    rotate_left
    ·show Act.put _ (some 15) _ = _
     simp only [Act.put, List.setIfInBounds_toArray, List.set_cons_zero, List.set_cons_succ, i64_w, i32_w]
     rfl
    refine pure_ (i := 6) (N := some 6) (v := ?_) (a' := ?_) #[true, true, true, true, true, true, true] rfl rfl (by kernel_rfl) (fun _ _ _ h => h) (Or.inl ⟨by rfl, ?_⟩) ?_ ?_
    rotate_left
    ·intro w'
     go_simp
     with_reducible rfl
    rotate_left
    ·simp only [Act.put, List.setIfInBounds_toArray, List.set_cons_zero, List.set_cons_succ, i64_w, i32_w]
     rfl
    refine done_ (by kernel_rfl) ?_
    have hnb56 := NB226_227.out
    have hnc56 := NB227_226.out
    obtain ⟨hcz57_0, hcz57_1, hfz57_0, hfz57_1⟩ := q_2 BK226.out
    try go_wp2_with (first | ((with_reducible refine gate_callee (f := 73) rfl ?_); refine goesLq (some 21) rfl rfl Try.func73 (by kernel_rfl) rfl #[.agg #[.slice A0_0 l0_0.length c0_0, .slice A0_1 l0_1.length c0_1]] rfl ?_; (with_reducible refine (impl_copyLog.calls _ _ l0_0 _ _ l0_1 t238 t241 _ ?side1 ?side2 ?side3 ?side4 A7.out).mono ?_); (case side1 => exact q_c ((Kd.C_below HR0_0.out bq))); (case side2 => exact HC0_0.out); (case side3 => exact q_c ((Kd.C_below HR0_1.out bq))); (case side4 => exact HC0_1.out); rintro e w58 ⟨v239, v242, rfl, ho0, ho1, hb⟩; refine ⟨_, rfl, ?_⟩; have n0_ := Aside0.mk (Kd.R_mono (Kd.R_told (Kd.R_told (Kd.R_old (q_r (HO231.out)) hb) (Kd.R_base ho0)) (Kd.R_base ho1)) (fun _ h_ => h_.1)); have n1_ := Aside0.mk (Kd.R_below (q_r (HO236.out)) hb); have n2_ := Aside0.mk (Kd.R_lower (Kd.R_new' ho0 (Kd.R_lt (q_r (HO231.out)))) (below_size bq)); have n3_ := Aside0.mk (Kd.R_lower (Kd.R_new' ho1 (Kd.R_lt (q_r (HO231.out)))) (below_size bq)); have n4_ := Aside0.mk (blk_below (q_b BK226.out) hb); have n5_ := Aside0.mk (blk_below (q_b BK227.out) hb); have n6_ := Aside0.mk (blk_below (q_b BK232.out) hb); have n7_ := Aside0.mk (below_step bq hb); revert n0_ n1_ n2_ n3_ n4_ n5_ n6_ n7_; clear HO231 HO236 BK226 BK227 BK232 HB; intro HO231 HO236 HO240 HO243 BK226 BK227 BK232 HB; (try clear hb); (try clear hb2); (try clear hk); (try clear hi); (try clear ho0); (try clear ho1)) | ((with_reducible refine gate_dst (N := 7) rfl ?_); refine q_box (N := 7) (cs := #[.slice none 0 0, .slice none 0 0]) (t := 27) ?_; intro gb244 hg w59 hbox hb; have n0_ := Aside0.mk (Kd.R_below (q_r (HO231.out)) hb); have n1_ := Aside0.mk (Kd.R_below (q_r (HO236.out)) hb); have n2_ := Aside0.mk (Kd.R_below (q_r (HO240.out)) hb); have n3_ := Aside0.mk (Kd.R_below (q_r (HO243.out)) hb); have n4_ := Aside0.mk (blk_below (q_b BK226.out) hb); have n5_ := Aside0.mk (blk_below (q_b BK227.out) hb); have n6_ := Aside0.mk (blk_below (q_b BK232.out) hb); have n7_ := Aside0.mk (below_step bq hb); have n8_ := Aside0.mk (hbox); have n9_ := Aside0.mk ((q_g hg bq : w.heap.size ≤ gb244)); have n10_ := Aside0.mk ((q_g hg bq : w.heap.size ≤ gb244)); have n11_ := Aside0.mk ((q_n hg (q_b BK226.out) : gb226 ≠ gb244)); have n12_ := Aside0.mk ((q_m hg (q_b BK226.out) : gb244 ≠ gb226)); have n13_ := Aside0.mk ((q_n hg (q_b BK227.out) : gb227 ≠ gb244)); have n14_ := Aside0.mk ((q_m hg (q_b BK227.out) : gb244 ≠ gb227)); have n15_ := Aside0.mk ((q_n hg (q_b BK232.out) : gb232 ≠ gb244)); have n16_ := Aside0.mk ((q_m hg (q_b BK232.out) : gb244 ≠ gb232)); revert n0_ n1_ n2_ n3_ n4_ n5_ n6_ n7_ n8_ n9_ n10_ n11_ n12_ n13_ n14_ n15_ n16_; clear HO231 HO236 HO240 HO243 BK226 BK227 BK232 HB; intro HO231 HO236 HO240 HO243 BK226 BK227 BK232 HB BK244 GW244 GE244 NB226_244 NB244_226 NB227_244 NB244_227 NB232_244 NB244_232; clear hb hbox hg; obtain ⟨Ao60, co60, eo60⟩ := Kd.R_slice HO240.out; subst eo60; have hnb61 := NB244_226.out; have hnc61 := NB226_244.out; have hnb62 := NB244_227.out; have hnc62 := NB227_244.out; have hnb63 := NB244_232.out; have hnc63 := NB232_244.out; obtain ⟨hcz64_0, hcz64_1, hfz64_0, hfz64_1⟩ := q_2 BK244.out; obtain ⟨Ao65, co65, eo65⟩ := Kd.R_slice HO243.out; subst eo65; obtain ⟨hcz66_0, hcz66_1, hfz66_0, hfz66_1⟩ := q_2 BK232.out) | ((with_reducible refine gate_builtin (b := .append) (xs := #[.tmp 23, .tmp 25]) rfl ?_); at_builtin; refine Kd.R_append_rows (Kd.int .u8) (w0 := w) w.heap.size rfl (.tmp 23) (.tmp 25) 22 5 (.int .u8 0) 1 rfl Try.underlying22 info5 rfl (by decide) (by omega) (.slice Ao65 t241.length co65) t241 t229 _ _ _ (fun k_ => some k_ ≠ (.slice Ao49 t229.length co49 : Value).ownBlock ∧ some k_ ≠ (.slice Ao60 t238.length co60 : Value).ownBlock) (fun _ => False) rfl rfl ?aO ?aR (fun _ _ h => h) (fun _ h => h.elim) ?aF ?aB ?aS ?aL ?_; (case aR => refine (Kd.R_reads' (e := 5) (base := w.heap.size) (ok := fun k_ => ((True ∧ some k_ ≠ (.slice Ao60 t238.length co60 : Value).ownBlock) ∧ some k_ ≠ (.slice Ao65 t241.length co65 : Value).ownBlock)) (n := t229.length) (c := co49) ?_).2.2; exact (by (with_reducible repeat (first | apply Kd.R_alloc | apply Kd.R_drewN | apply Kd.R_drew)); exact (Kd.R_mono (Kd.R_far (p := ⟨gb244, 1, none⟩) (Kd.R_far (p := ⟨gb244, 0, none⟩) (Kd.R_types HO231.out BK244.out (by decide)) (fun _ hk => hk.2) (.slice Ao60 t238.length co60)) (fun _ hk => hk.2) (.slice Ao65 t241.length co65)) (fun _ h_ => h_.1)))); (case aB => exact bq); (case aF => exact (fun k_ hk => ⟨Kd.fresh' (Kd.R_lt (by (with_reducible repeat (first | apply Kd.R_alloc | apply Kd.R_drewN | apply Kd.R_drew)); exact (Kd.R_mono (Kd.R_far (p := ⟨gb244, 1, none⟩) (Kd.R_far (p := ⟨gb244, 0, none⟩) (Kd.R_types HO231.out BK244.out (by decide)) (fun _ hk => hk.2) (.slice Ao60 t238.length co60)) (fun _ hk => hk.2) (.slice Ao65 t241.length co65)) (fun _ h_ => h_.1)))) k_ hk, Kd.fresh' (Kd.R_lt (by (with_reducible repeat (first | apply Kd.R_alloc | apply Kd.R_drewN | apply Kd.R_drew)); exact (Kd.R_mono (Kd.R_far (p := ⟨gb244, 1, none⟩) (Kd.R_far (p := ⟨gb244, 0, none⟩) (Kd.R_types HO240.out BK244.out (by decide)) (fun _ hk => hk.2) (.slice Ao60 t238.length co60)) (fun _ hk => hk.2) (.slice Ao65 t241.length co65)) (fun _ h_ => h_.1)))) k_ hk⟩)); (case aO => exact (by (with_reducible repeat (first | apply Kd.R_alloc | apply Kd.R_drewN | apply Kd.R_drew)); exact Kd.R_mono (Kd.R_far (p := ⟨gb244, 1, none⟩) (Kd.R_far (p := ⟨gb244, 0, none⟩) (Kd.R_types HO243.out BK244.out (by decide)) (fun _ hk => hk.2) (.slice Ao60 t238.length co60)) (fun _ hk => hk.2) (.slice Ao65 t241.length co65)) (fun _ hk => ⟨hk.1.2, hk.1.1⟩))); (case aS => exact (below_size bq)); (case aL => have := LMc8.out; omega); intro v246 w67 ho hb hg hat; rw [← Ny245.out] at ho; have n0_ := Aside0.mk (blk_grown (g := gb226) (o := .cells #[.slice A0_0 l0_0.length c0_0, .slice A0_1 l0_1.length c0_1] 27 (0, 0)) (by (with_reducible repeat (first | refine blk_drewN ?_ _ | refine blk_drew ?_ | refine blk_alloc ?_ _)); refine blk_far ?_ NB226_244.out _; (with_reducible repeat (first | refine blk_drewN ?_ _ | refine blk_drew ?_ | refine blk_alloc ?_ _)); refine blk_far ?_ NB226_244.out _; (with_reducible repeat (first | refine blk_drewN ?_ _ | refine blk_drew ?_ | refine blk_alloc ?_ _)); exact BK226.out) hg (Kd.R_ne HO243.out BK226.out (by decide))); have n1_ := Aside0.mk (blk_grown (g := gb227) (o := .cells #[.int .i64 0, .slice none 0 0, .slice none 0 0] 46 (0, 0)) (by (with_reducible repeat (first | refine blk_drewN ?_ _ | refine blk_drew ?_ | refine blk_alloc ?_ _)); refine blk_far ?_ NB227_244.out _; (with_reducible repeat (first | refine blk_drewN ?_ _ | refine blk_drew ?_ | refine blk_alloc ?_ _)); refine blk_far ?_ NB227_244.out _; (with_reducible repeat (first | refine blk_drewN ?_ _ | refine blk_drew ?_ | refine blk_alloc ?_ _)); exact BK227.out) hg (Kd.R_ne HO243.out BK227.out (by decide))); have n2_ := Aside0.mk (Kd.R_after (ok := (fun k_ => some k_ ≠ (.slice Ao60 t238.length co60 : Value).ownBlock)) (by (with_reducible repeat (first | apply Kd.R_alloc | apply Kd.R_drewN | apply Kd.R_drew)); exact Kd.R_mono (Kd.R_far (p := ⟨gb244, 1, none⟩) (Kd.R_far (p := ⟨gb244, 0, none⟩) (Kd.R_types HO231.out BK244.out (by decide)) (fun _ hk => hk.2) (.slice Ao60 t238.length co60)) (fun _ hk => hk.2) (.slice Ao65 t241.length co65)) (fun _ hk => ⟨hk.1.1.2, hk.1.2⟩)) hg hat); have n3_ := Aside0.mk (blk_grown (g := gb232) (o := .cells #[.int .i64 t228, .slice Ao49 t229.length co49] 32 (0, 0)) (by (with_reducible repeat (first | refine blk_drewN ?_ _ | refine blk_drew ?_ | refine blk_alloc ?_ _)); refine blk_far ?_ NB232_244.out _; (with_reducible repeat (first | refine blk_drewN ?_ _ | refine blk_drew ?_ | refine blk_alloc ?_ _)); refine blk_far ?_ NB232_244.out _; (with_reducible repeat (first | refine blk_drewN ?_ _ | refine blk_drew ?_ | refine blk_alloc ?_ _)); exact BK232.out) hg (Kd.R_ne HO243.out BK232.out (by decide))); have n4_ := Aside0.mk (Kd.R_over' (by (with_reducible repeat (first | apply Kd.R_alloc | apply Kd.R_drewN | apply Kd.R_drew)); exact (Kd.R_mono (Kd.R_far (p := ⟨gb244, 1, none⟩) (Kd.R_far (p := ⟨gb244, 0, none⟩) (Kd.R_types HO236.out BK244.out (by decide)) (fun _ hk => hk.2) (.slice Ao60 t238.length co60)) (fun _ hk => hk.2) (.slice Ao65 t241.length co65)) (fun _ h_ => h_.1))) (Kd.R_typed (by (with_reducible repeat (first | apply Kd.R_alloc | apply Kd.R_drewN | apply Kd.R_drew)); exact (Kd.R_mono (Kd.R_far (p := ⟨gb244, 1, none⟩) (Kd.R_far (p := ⟨gb244, 0, none⟩) (Kd.R_types HO243.out BK244.out (by decide)) (fun _ hk => hk.2) (.slice Ao60 t238.length co60)) (fun _ hk => hk.2) (.slice Ao65 t241.length co65)) (fun _ h_ => h_.1)))) (by decide) hg); have n5_ := Aside0.mk (Kd.R_after (ok := (fun k_ => some k_ ≠ (.slice Ao49 t229.length co49 : Value).ownBlock)) (by (with_reducible repeat (first | apply Kd.R_alloc | apply Kd.R_drewN | apply Kd.R_drew)); exact Kd.R_mono (Kd.R_far (p := ⟨gb244, 1, none⟩) (Kd.R_far (p := ⟨gb244, 0, none⟩) (Kd.R_types HO240.out BK244.out (by decide)) (fun _ hk => hk.2) (.slice Ao60 t238.length co60)) (fun _ hk => hk.2) (.slice Ao65 t241.length co65)) (fun _ hk => ⟨hk.1.2, hk.1.1⟩)) hg hat); have n6_ := Aside0.mk (blk_grown (g := gb244) (o := .cells #[.slice Ao60 t238.length co60, .slice Ao65 t241.length co65] 27 (0, 0)) (by (with_reducible repeat (first | refine blk_drewN ?_ _ | refine blk_drew ?_ | refine blk_alloc ?_ _)); refine blk_put (cs := #[.slice Ao60 t238.length co60, .slice none 0 0]) ?_ 1 _ rfl; (with_reducible repeat (first | refine blk_drewN ?_ _ | refine blk_drew ?_ | refine blk_alloc ?_ _)); refine blk_put (cs := #[.slice none 0 0, .slice none 0 0]) ?_ 0 _ rfl; (with_reducible repeat (first | refine blk_drewN ?_ _ | refine blk_drew ?_ | refine blk_alloc ?_ _)); exact BK244.out) hg (Kd.R_ne HO243.out BK244.out (by decide))); have n7_ := Aside0.mk (hb); have n8_ := Aside0.mk (ho); revert n0_ n1_ n2_ n3_ n4_ n5_ n6_ n7_ n8_; clear BK226 BK227 HO231 BK232 HO236 HO240 BK244 HB HO243; intro BK226 BK227 HO231 BK232 HO236 HO240 BK244 HB HO247; clear ho hb hg hat; obtain ⟨Ao68, co68, eo68⟩ := Kd.R_slice HO247.out; subst eo68; obtain ⟨hcz69_0, hcz69_1, hfz69_0, hfz69_1⟩ := q_2 BK244.out) | ((with_reducible refine gate_callee (f := 17) rfl ?_); refine goesLq (some 29) rfl rfl Try.func17 (by kernel_rfl) rfl #[.agg #[.slice Ao60 t238.length co60, .slice Ao68 y245.length co68]] rfl ?_; (with_reducible refine (impl_LogFault.calls _ _ t238 _ _ y245 t248 _ ?side1 ?side2 ?side3 ?side4 A9.out).mono ?_); (case side1 => refine (Kd.R_reads' (e := 5) (base := w.heap.size) (ok := fun k_ => (some k_ ≠ (.slice Ao49 t229.length co49 : Value).ownBlock ∧ some k_ ≠ (.slice Ao68 y245.length co68 : Value).ownBlock)) (n := t238.length) (c := co60) ?_).2.2; exact (by (with_reducible repeat (first | apply Kd.R_alloc | apply Kd.R_drewN | apply Kd.R_drew)); exact (Kd.R_mono (Kd.R_far (p := ⟨gb244, 1, none⟩) (Kd.R_types HO240.out BK244.out (by decide)) (fun _ hk => hk.2) (.slice Ao68 y245.length co68)) (fun _ h_ => h_.1)))); (case side2 => exact (Kd.R_reads' HO240.out).2.1); (case side3 => refine (Kd.R_reads' (e := 5) (base := w.heap.size) (ok := fun k_ => (some k_ ≠ (.slice Ao49 t229.length co49 : Value).ownBlock ∧ some k_ ≠ (.slice Ao60 t238.length co60 : Value).ownBlock)) (n := y245.length) (c := co68) ?_).2.2; exact (by (with_reducible repeat (first | apply Kd.R_alloc | apply Kd.R_drewN | apply Kd.R_drew)); exact (Kd.R_mono (Kd.R_far (p := ⟨gb244, 1, none⟩) (Kd.R_types HO247.out BK244.out (by decide)) (fun _ hk => hk.2) (.slice Ao68 y245.length co68)) (fun _ h_ => h_.1)))); (case side4 => exact (Kd.R_reads' HO247.out).2.1); rintro e w70 ⟨rfl, hb⟩; refine ⟨_, rfl, ?_⟩; have n0_ := Aside0.mk (Kd.R_below (by (with_reducible repeat (first | apply Kd.R_alloc | apply Kd.R_drewN | apply Kd.R_drew)); exact (Kd.R_mono (Kd.R_far (p := ⟨gb244, 1, none⟩) (Kd.R_types HO231.out BK244.out (by decide)) (fun _ hk => hk.2) (.slice Ao68 y245.length co68)) (fun _ h_ => h_.1))) hb); have n1_ := Aside0.mk (Kd.R_below (by (with_reducible repeat (first | apply Kd.R_alloc | apply Kd.R_drewN | apply Kd.R_drew)); exact (Kd.R_mono (Kd.R_far (p := ⟨gb244, 1, none⟩) (Kd.R_types HO236.out BK244.out (by decide)) (fun _ hk => hk.2) (.slice Ao68 y245.length co68)) (fun _ h_ => h_.1))) hb); have n2_ := Aside0.mk (Kd.R_below (by (with_reducible repeat (first | apply Kd.R_alloc | apply Kd.R_drewN | apply Kd.R_drew)); exact (Kd.R_mono (Kd.R_far (p := ⟨gb244, 1, none⟩) (Kd.R_types HO240.out BK244.out (by decide)) (fun _ hk => hk.2) (.slice Ao68 y245.length co68)) (fun _ h_ => h_.1))) hb); have n3_ := Aside0.mk (Kd.R_below (by (with_reducible repeat (first | apply Kd.R_alloc | apply Kd.R_drewN | apply Kd.R_drew)); exact (Kd.R_mono (Kd.R_far (p := ⟨gb244, 1, none⟩) (Kd.R_types HO247.out BK244.out (by decide)) (fun _ hk => hk.2) (.slice Ao68 y245.length co68)) (fun _ h_ => h_.1))) hb); have n4_ := Aside0.mk (blk_below (g := gb226) (o := .cells #[.slice A0_0 l0_0.length c0_0, .slice A0_1 l0_1.length c0_1] 27 (0, 0)) (by (with_reducible repeat (first | refine blk_drewN ?_ _ | refine blk_drew ?_ | refine blk_alloc ?_ _)); refine blk_far ?_ NB226_244.out _; (with_reducible repeat (first | refine blk_drewN ?_ _ | refine blk_drew ?_ | refine blk_alloc ?_ _)); exact BK226.out) hb); have n5_ := Aside0.mk (blk_below (g := gb227) (o := .cells #[.int .i64 0, .slice none 0 0, .slice none 0 0] 46 (0, 0)) (by (with_reducible repeat (first | refine blk_drewN ?_ _ | refine blk_drew ?_ | refine blk_alloc ?_ _)); refine blk_far ?_ NB227_244.out _; (with_reducible repeat (first | refine blk_drewN ?_ _ | refine blk_drew ?_ | refine blk_alloc ?_ _)); exact BK227.out) hb); have n6_ := Aside0.mk (blk_below (g := gb232) (o := .cells #[.int .i64 t228, .slice Ao49 t229.length co49] 32 (0, 0)) (by (with_reducible repeat (first | refine blk_drewN ?_ _ | refine blk_drew ?_ | refine blk_alloc ?_ _)); refine blk_far ?_ NB232_244.out _; (with_reducible repeat (first | refine blk_drewN ?_ _ | refine blk_drew ?_ | refine blk_alloc ?_ _)); exact BK232.out) hb); have n7_ := Aside0.mk (blk_below (g := gb244) (o := .cells #[.slice Ao60 t238.length co60, .slice Ao68 y245.length co68] 27 (0, 0)) (by (with_reducible repeat (first | refine blk_drewN ?_ _ | refine blk_drew ?_ | refine blk_alloc ?_ _)); refine blk_put (cs := #[.slice Ao60 t238.length co60, .slice Ao65 t241.length co65]) ?_ 1 _ rfl; (with_reducible repeat (first | refine blk_drewN ?_ _ | refine blk_drew ?_ | refine blk_alloc ?_ _)); exact BK244.out) hb); have n8_ := Aside0.mk (below_step bq hb); revert n0_ n1_ n2_ n3_ n4_ n5_ n6_ n7_ n8_; clear HO231 HO236 HO240 HO247 BK226 BK227 BK232 BK244 HB; intro HO231 HO236 HO240 HO247 BK226 BK227 BK232 BK244 HB; (try clear hb); (try clear hb2); (try clear hk); (try clear hi); obtain ⟨hcz71_0, hcz71_1, hcz71_2, hfz71_0, hfz71_1, hfz71_2⟩ := q_3 BK227.out))
    refine bodyPost_ret (results_cell_row rfl _ _ gb227 46 #[.int .i64 2, .slice none 0 0, .slice none 0 0] (0, 0) _ rfl (by (with_reducible repeat (first | refine blk_drewN ?_ _ | refine blk_drew ?_ | refine blk_alloc ?_ _)); refine blk_put (cs := #[.int .i64 2, .slice none 0 0, .slice none 0 0]) ?_ 2 _ rfl; (with_reducible repeat (first | refine blk_drewN ?_ _ | refine blk_drew ?_ | refine blk_alloc ?_ _)); refine blk_put (cs := #[.int .i64 2, .slice none 0 0, .slice none 0 0]) ?_ 1 _ rfl; (with_reducible repeat (first | refine blk_drewN ?_ _ | refine blk_drew ?_ | refine blk_alloc ?_ _)); refine blk_put (cs := #[.int .i64 0, .slice none 0 0, .slice none 0 0]) ?_ 0 _ rfl; (with_reducible repeat (first | refine blk_drewN ?_ _ | refine blk_drew ?_ | refine blk_alloc ?_ _)); exact BK227.out) Try.underlying46 rfl (by kernel_rfl)) rfl ?_
    exact ⟨_, _, q_e, by first | exact Kd.R_nil _ _ _ _ _ | exact Kd.N_nil _ _ _ _ _ | exact Kd.V_nil _ _ _ _ _ | exact Kd.Q_nil _ _ _ _ _ | exact Kd.S_nil _ _ _ _ _, by first | exact Kd.R_nil _ _ _ _ _ | exact Kd.N_nil _ _ _ _ _ | exact Kd.V_nil _ _ _ _ _ | exact Kd.Q_nil _ _ _ _ _ | exact Kd.S_nil _ _ _ _ _, bq⟩
  ·rw [if_neg c8] at H
   exact absurd H (by simp)
 ·rw [if_neg c6] at H
  have c6b0 : (t237 == 0) = false := beq_eq_false_iff_ne.mpr c6
  have c6b1 : (t237 != 0) = true := bne_iff_ne.mpr c6
  simp only [Option.some.injEq, Prod.mk.injEq] at H
  obtain ⟨rfl, rfl, rfl⟩ := H
  go_enter Try.func46, Try.ntmps46
  try go_wp2_with (first | ((with_reducible refine gate_dst (N := 2) rfl ?_); refine q_box (N := 2) (cs := #[.slice A0_0 l0_0.length c0_0, .slice A0_1 l0_1.length c0_1]) (t := 27) ?_; intro gb226 hg w72 hbox hb; have n0_ := Aside0.mk (below_step bq hb); have n1_ := Aside0.mk (hbox); have n2_ := Aside0.mk ((q_g hg bq : w.heap.size ≤ gb226)); have n3_ := Aside0.mk ((q_g hg bq : w.heap.size ≤ gb226)); revert n0_ n1_ n2_ n3_; clear HB; intro HB BK226 GW226 GE226; clear hb hbox hg) | ((with_reducible refine gate_dst (N := 4) rfl ?_); refine q_box (N := 4) (cs := #[.int .i64 0, .slice none 0 0, .slice none 0 0]) (t := 46) ?_; intro gb227 hg w73 hbox hb; have n0_ := Aside0.mk (blk_below (q_b BK226.out) hb); have n1_ := Aside0.mk (below_step bq hb); have n2_ := Aside0.mk (hbox); have n3_ := Aside0.mk ((q_g hg bq : w.heap.size ≤ gb227)); have n4_ := Aside0.mk ((q_g hg bq : w.heap.size ≤ gb227)); have n5_ := Aside0.mk ((q_n hg (q_b BK226.out) : gb226 ≠ gb227)); have n6_ := Aside0.mk ((q_m hg (q_b BK226.out) : gb227 ≠ gb226)); revert n0_ n1_ n2_ n3_ n4_ n5_ n6_; clear BK226 HB; intro BK226 HB BK227 GW227 GE227 NB226_227 NB227_226; clear hb hbox hg) | ((with_reducible refine gate_callee (f := 21) rfl ?_); refine goesLq (some 9) rfl rfl Try.func21 (by kernel_rfl) rfl #[.slice A1 l1.length c1] rfl ?_; (with_reducible refine (impl_FrameRecord.calls k _ _ l1 t228 t229 _ ?side1 ?side2 A3.out).mono ?_); (case side1 => exact q_c ((Kd.C_below HR1.out HB.out))); (case side2 => exact HC1.out); rintro e w74 ⟨v230, rfl, ho0, hb⟩; refine ⟨_, rfl, ?_⟩; have n0_ := Aside0.mk (Kd.R_lower ho0 (below_size bq)); have n1_ := Aside0.mk (blk_below (q_b BK226.out) hb); have n2_ := Aside0.mk (blk_below (q_b BK227.out) hb); have n3_ := Aside0.mk (below_step bq hb); revert n0_ n1_ n2_ n3_; clear BK226 BK227 HB; intro HO231 BK226 BK227 HB; (try clear hb); (try clear hb2); (try clear hk); (try clear hi); (try clear ho0)) | ((with_reducible refine gate_dst (N := 5) rfl ?_); refine q_box (N := 5) (cs := #[.int .i64 0, .slice none 0 0]) (t := 32) ?_; intro gb232 hg w75 hbox hb; have n0_ := Aside0.mk (Kd.R_below (q_r (HO231.out)) hb); have n1_ := Aside0.mk (blk_below (q_b BK226.out) hb); have n2_ := Aside0.mk (blk_below (q_b BK227.out) hb); have n3_ := Aside0.mk (below_step bq hb); have n4_ := Aside0.mk (hbox); have n5_ := Aside0.mk ((q_g hg bq : w.heap.size ≤ gb232)); have n6_ := Aside0.mk ((q_g hg bq : w.heap.size ≤ gb232)); have n7_ := Aside0.mk ((q_n hg (q_b BK226.out) : gb226 ≠ gb232)); have n8_ := Aside0.mk ((q_m hg (q_b BK226.out) : gb232 ≠ gb226)); have n9_ := Aside0.mk ((q_n hg (q_b BK227.out) : gb227 ≠ gb232)); have n10_ := Aside0.mk ((q_m hg (q_b BK227.out) : gb232 ≠ gb227)); revert n0_ n1_ n2_ n3_ n4_ n5_ n6_ n7_ n8_ n9_ n10_; clear HO231 BK226 BK227 HB; intro HO231 BK226 BK227 HB BK232 GW232 GE232 NB226_232 NB232_226 NB227_232 NB232_227; clear hb hbox hg; have hnb76 := NB232_226.out; have hnc76 := NB226_232.out; have hnb77 := NB232_227.out; have hnc77 := NB227_232.out; obtain ⟨hcz78_0, hcz78_1, hfz78_0, hfz78_1⟩ := q_2 BK232.out; obtain ⟨Ao79, co79, eo79⟩ := Kd.R_slice HO231.out; subst eo79))
  have n0_ : Aside0 (Kd.R (Kd.int .u8) 5 ((w75.setCell ⟨gb232, 0, none⟩ (.int .i64 t228)).setCell ⟨gb232, 1, none⟩ (.slice Ao79 t229.length co79)) w.heap.size (fun _ => True) (.slice Ao79 t229.length co79) t229) := ⟨by (with_reducible repeat (first | apply Kd.R_alloc | apply Kd.R_drewN | apply Kd.R_drew)); exact Kd.R_mono (Kd.R_far (p := ⟨gb232, 1, none⟩) (Kd.R_far (p := ⟨gb232, 0, none⟩) (Kd.R_types HO231.out BK232.out (by decide)) (fun _ hk => hk.2) (.int .i64 t228)) (fun _ hk => hk.2) (.slice Ao79 t229.length co79)) (fun _ hk => trivial)⟩
  have n1_ : Aside0 (((w75.setCell ⟨gb232, 0, none⟩ (.int .i64 t228)).setCell ⟨gb232, 1, none⟩ (.slice Ao79 t229.length co79)).heap[gb226]? = some (.cells #[.slice A0_0 l0_0.length c0_0, .slice A0_1 l0_1.length c0_1] 27 (0, 0))) := ⟨by (with_reducible repeat (first | refine blk_drewN ?_ _ | refine blk_drew ?_ | refine blk_alloc ?_ _)); refine blk_far ?_ NB226_232.out _; (with_reducible repeat (first | refine blk_drewN ?_ _ | refine blk_drew ?_ | refine blk_alloc ?_ _)); refine blk_far ?_ NB226_232.out _; (with_reducible repeat (first | refine blk_drewN ?_ _ | refine blk_drew ?_ | refine blk_alloc ?_ _)); exact BK226.out⟩
  have n2_ : Aside0 (((w75.setCell ⟨gb232, 0, none⟩ (.int .i64 t228)).setCell ⟨gb232, 1, none⟩ (.slice Ao79 t229.length co79)).heap[gb227]? = some (.cells #[.int .i64 0, .slice none 0 0, .slice none 0 0] 46 (0, 0))) := ⟨by (with_reducible repeat (first | refine blk_drewN ?_ _ | refine blk_drew ?_ | refine blk_alloc ?_ _)); refine blk_far ?_ NB227_232.out _; (with_reducible repeat (first | refine blk_drewN ?_ _ | refine blk_drew ?_ | refine blk_alloc ?_ _)); refine blk_far ?_ NB227_232.out _; (with_reducible repeat (first | refine blk_drewN ?_ _ | refine blk_drew ?_ | refine blk_alloc ?_ _)); exact BK227.out⟩
  have n3_ : Aside0 (((w75.setCell ⟨gb232, 0, none⟩ (.int .i64 t228)).setCell ⟨gb232, 1, none⟩ (.slice Ao79 t229.length co79)).heap[gb232]? = some (.cells #[.int .i64 t228, .slice Ao79 t229.length co79] 32 (0, 0))) := ⟨by (with_reducible repeat (first | refine blk_drewN ?_ _ | refine blk_drew ?_ | refine blk_alloc ?_ _)); refine blk_put (cs := #[.int .i64 t228, .slice none 0 0]) ?_ 1 _ rfl; (with_reducible repeat (first | refine blk_drewN ?_ _ | refine blk_drew ?_ | refine blk_alloc ?_ _)); refine blk_put (cs := #[.int .i64 0, .slice none 0 0]) ?_ 0 _ rfl; (with_reducible repeat (first | refine blk_drewN ?_ _ | refine blk_drew ?_ | refine blk_alloc ?_ _)); exact BK232.out⟩
  have n4_ : Aside0 (Below w.heap.size w ((w75.setCell ⟨gb232, 0, none⟩ (.int .i64 t228)).setCell ⟨gb232, 1, none⟩ (.slice Ao79 t229.length co79))) := ⟨bq⟩
  (try clear HO231)
  (try clear BK226)
  (try clear BK227)
  (try clear BK232)
  (try clear HB)
  generalize ((w75.setCell ⟨gb232, 0, none⟩ (.int .i64 t228)).setCell ⟨gb232, 1, none⟩ (.slice Ao79 t229.length co79)) = w80 at n0_ n1_ n2_ n3_ n4_ ⊢
  have HO231 := n0_
  have BK226 := n1_
  have BK227 := n2_
  have BK232 := n3_
  have HB := n4_
  clear n0_ n1_ n2_ n3_ n4_
  have n0_ := Aside0.mk (Kd.R_drew HO231.out)
  have n1_ := Aside0.mk (blk_drew BK226.out)
  have n2_ := Aside0.mk (blk_drew BK227.out)
  have n3_ := Aside0.mk (blk_drew BK232.out)
  have n4_ := Aside0.mk (below_drew1 HB.out)
  clear HO231
  clear BK226
  clear BK227
  clear BK232
  clear HB
  have HO231 := n0_
  have BK226 := n1_
  have BK227 := n2_
  have BK232 := n3_
  have HB := n4_
  clear n0_ n1_ n2_ n3_ n4_
  refine start_ (n := 7) (S := fun w' => w'.cell? ⟨gb226, 0, none⟩ = some (.slice A0_0 l0_0.length c0_0) ∧ w'.cell? ⟨gb226, 1, none⟩ = some (.slice A0_1 l0_1.length c0_1) ∧ w'.cell? ⟨gb232, 0, none⟩ = some (.int .i64 t228) ∧ w'.cell? ⟨gb232, 1, none⟩ = some (.slice Ao79 t229.length co79)) (ds := []) #[false, false, false, false, false, false, false] (by kernel_rfl) rfl rfl ⟨q_z BK226.out 0, q_z BK226.out 1, q_z BK232.out 0, q_z BK232.out 1⟩ (fun hHeld => ?_)
  generalize w80.drew = w81 at HO231 BK226 BK227 BK232 HB hHeld ⊢
  refine pure_ (i := 2) (N := some 12) (v := ?_) (a' := ?_) #[false, false, true, false, false, false, false] rfl rfl (by kernel_rfl) (fun _ _ _ h => h) (Or.inl ⟨by rfl, ?_⟩) ?_ ?_
  rotate_left
  ·intro w'
   go_simp
   with_reducible rfl
  rotate_left
  ·simp only [Act.put, List.setIfInBounds_toArray, List.set_cons_zero, List.set_cons_succ, i64_w, i32_w]
   rfl
  refine take_ (i := 0) (N := some 10) (v := ?_) (a' := ?_) #[true, false, true, false, false, false, false] rfl rfl (by kernel_rfl) (fun _ _ _ h => h) (Or.inl ⟨by rfl, ?_⟩) hHeld ?_ ?_
  rotate_left
  ·rintro w' ⟨s0, s1, s2, s3⟩
   go_simp
   with_reducible rfl
  rotate_left
  ·simp only [Act.put, List.setIfInBounds_toArray, List.set_cons_zero, List.set_cons_succ, i64_w, i32_w]
   rfl
  refine take_ (i := 3) (N := some 13) (v := ?_) (a' := ?_) #[true, false, true, true, false, false, false] rfl rfl (by kernel_rfl) (fun _ _ _ h => h) (Or.inl ⟨by rfl, ?_⟩) hHeld ?_ ?_
  rotate_left
  ·rintro w' ⟨s0, s1, s2, s3⟩
   go_simp
   with_reducible rfl
  rotate_left
  ·simp only [Act.put, List.setIfInBounds_toArray, List.set_cons_zero, List.set_cons_succ, i64_w, i32_w]
   rfl
  refine one_ (i := 1) (N := some 11) #[true, true, true, true, false, false, false] rfl rfl (by kernel_rfl) (by decide) (fun K hK => ?_)
  refine goes_ Try.func17 (by kernel_rfl) rfl #[.agg #[.slice A0_0 l0_0.length c0_0, .slice A0_1 l0_1.length c0_1]] (by rfl) rfl rfl (by (try simp only [List.map_toArray, List.map_cons, List.map_nil]); first | done | rfl | (simp only [List.length_drop, List.length_take]; rfl)) ?_
  with_reducible refine (impl_LogFault.calls _ _ l0_0 _ _ l0_1 t233 _ ?side1 ?side2 ?side3 ?side4 A4.out).mono ?_
  (case side1 => exact q_c ((Kd.C_below HR0_0.out HB.out)))
  (case side2 => exact HC0_0.out)
  (case side3 => exact q_c ((Kd.C_below HR0_1.out HB.out)))
  (case side4 => exact HC0_1.out)
  rintro e w82 ⟨rfl, hb⟩
  refine ⟨_, rfl, ?_⟩
  have n0_ := Aside0.mk (Kd.R_below (q_r (HO231.out)) hb)
  have n1_ := Aside0.mk (blk_below (q_b BK226.out) hb)
  have n2_ := Aside0.mk (blk_below (q_b BK227.out) hb)
  have n3_ := Aside0.mk (blk_below (q_b BK232.out) hb)
  have n4_ := Aside0.mk (below_step bq hb)
  clear HO231
  clear BK226
  clear BK227
  clear BK232
  clear HB
  have HO231 := n0_
  have BK226 := n1_
  have BK227 := n2_
  have BK232 := n3_
  have HB := n4_
  clear n0_ n1_ n2_ n3_ n4_
  (try clear hb)
  (try clear hb2)
  (try clear hk)
  (try clear hi)
  refine hK.out _ _ ⟨q_z BK226.out 0, q_z BK226.out 1, q_z BK232.out 0, q_z BK232.out 1⟩ (fun hHeld => ?_)
  clear hK K
  refine norm_ (a' := ?_) ?_ ?_
  rotate_left
  ·show Act.put _ (some 11) _ = _
   simp only [Act.put, List.setIfInBounds_toArray, List.set_cons_zero, List.set_cons_succ, i64_w, i32_w]
   rfl
  refine one_ (i := 4) (N := some 14) #[true, true, true, true, true, false, false] rfl rfl (by kernel_rfl) (by decide) (fun K hK => ?_)
  refine Kd.R_lit_step (Kd.int .i64) _ 2 ?hg (N := 14) ?hd (xs := ([t233, t228] : List Int)) (inner := [.int .i64 t233, .int .i64 t228]) (ok := fun _ => True) (okp := fun _ => True) ?hr ?hp (fun _ hk => hk) trivial (Below.refl _ _) (Nat.le_refl _) (by simp) ?_; (case hd => rfl); (case hg => rfl); (case hr => first | (go_simp; done) | (go_simp; rfl)); (case hp => exact (Reps.one (show Kd.M (Kd.int .i64) _ _ _ t233 [.int .i64 t233] from rfl) (Reps.one (show Kd.M (Kd.int .i64) _ _ _ t228 [.int .i64 t228] from rfl) (Reps.none _ _))))
  intro v235 w83 ho84 hb hg_ hnew_
  clear hg_ hnew_
  (first | rw [← Ny234.out] at ho84 | (simp only [Int.reduceToNat] at ho84; rw [← Ny234.out] at ho84))
  have n0_ := Aside0.mk (Kd.R_below (q_r (HO231.out)) hb)
  have n1_ := Aside0.mk (Kd.R_lower ho84 (below_size bq))
  have n2_ := Aside0.mk (blk_below (q_b BK226.out) hb)
  have n3_ := Aside0.mk (blk_below (q_b BK227.out) hb)
  have n4_ := Aside0.mk (blk_below (q_b BK232.out) hb)
  have n5_ := Aside0.mk (below_step bq hb)
  clear HO231
  clear BK226
  clear BK227
  clear BK232
  clear HB
  have HO231 := n0_
  have HO236 := n1_
  have BK226 := n2_
  have BK227 := n3_
  have BK232 := n4_
  have HB := n5_
  clear n0_ n1_ n2_ n3_ n4_ n5_
  clear hb ho84
  obtain ⟨Ao85, co85, eo85⟩ := Kd.R_slice HO236.out
  (first | subst eo85 | (injection eo85 with f1_ f2_ f3_; have f4_ := f1_.symm; have f5_ := f3_.symm; clear f1_ f2_ f3_; subst f4_; subst f5_))
  refine hK.out _ _ ⟨q_z BK226.out 0, q_z BK226.out 1, q_z BK232.out 0, q_z BK232.out 1⟩ (fun hHeld => ?_)
  clear hK K
  refine norm_ (a' := ?_) ?_ ?_
  rotate_left
  ·show Act.put _ (some 14) _ = _
   simp only [Act.put, List.setIfInBounds_toArray, List.set_cons_zero, List.set_cons_succ, i64_w, i32_w]
   rfl
  refine one_ (i := 5) (N := some 15) #[true, true, true, true, true, true, false] rfl rfl (by kernel_rfl) (by decide) (fun K hK => ?_)
  refine goes_ Try.func72 (by kernel_rfl) rfl #[.slice Ao85 y234.length co85] (by rfl) rfl rfl (by (try simp only [List.map_toArray, List.map_cons, List.map_nil]); first | done | rfl | (simp only [List.length_drop, List.length_take]; rfl)) ?_
  with_reducible refine (impl_firstOf.calls k _ _ y234 t237 _ ?side1 ?side2 A5.out).mono ?_
  (case side1 => exact q_c ((Kd.R_reads' HO236.out).2.2))
  (case side2 => exact (Kd.R_reads' HO236.out).2.1)
  rintro e w' ⟨rfl, ⟨nd, rfl⟩⟩
  refine ⟨_, rfl, ?_⟩
  refine hK.out _ _ ⟨q_z BK226.out 0, q_z BK226.out 1, q_z BK232.out 0, q_z BK232.out 1⟩ (fun hHeld => ?_)
  clear hK K
  refine norm_ (a' := ?_) ?_ ?_
  rotate_left
  ·show Act.put _ (some 15) _ = _
   simp only [Act.put, List.setIfInBounds_toArray, List.set_cons_zero, List.set_cons_succ, i64_w, i32_w]
   rfl
  refine pure_ (i := 6) (N := some 6) (v := ?_) (a' := ?_) #[true, true, true, true, true, true, true] rfl rfl (by kernel_rfl) (fun _ _ _ h => h) (Or.inl ⟨by rfl, ?_⟩) ?_ ?_
  rotate_left
  ·intro w'
   go_simp
   with_reducible rfl
  rotate_left
  ·simp only [Act.put, List.setIfInBounds_toArray, List.set_cons_zero, List.set_cons_succ, i64_w, i32_w]
   rfl
  refine done_ (by kernel_rfl) ?_
  have hnb86 := NB227_226.out
  have hnc86 := NB226_227.out
  obtain ⟨hcz87_0, hcz87_1, hcz87_2, hfz87_0, hfz87_1, hfz87_2⟩ := q_3 BK227.out
  try go_wp2
  refine bodyPost_ret (results_cell_row rfl _ _ gb227 46 #[.int .i64 t237, .slice none 0 0, .slice none 0 0] (0, 0) _ rfl (by (with_reducible repeat (first | refine blk_drewN ?_ _ | refine blk_drew ?_ | refine blk_alloc ?_ _)); refine blk_put (cs := #[.int .i64 t237, .slice none 0 0, .slice none 0 0]) ?_ 2 _ rfl; (with_reducible repeat (first | refine blk_drewN ?_ _ | refine blk_drew ?_ | refine blk_alloc ?_ _)); refine blk_put (cs := #[.int .i64 t237, .slice none 0 0, .slice none 0 0]) ?_ 1 _ rfl; (with_reducible repeat (first | refine blk_drewN ?_ _ | refine blk_drew ?_ | refine blk_alloc ?_ _)); refine blk_put (cs := #[.int .i64 0, .slice none 0 0, .slice none 0 0]) ?_ 0 _ rfl; (with_reducible repeat (first | refine blk_drewN ?_ _ | refine blk_drew ?_ | refine blk_alloc ?_ _)); exact BK227.out) Try.underlying46 rfl (by kernel_rfl)) rfl ?_
  exact ⟨_, _, q_e, by first | exact Kd.R_nil _ _ _ _ _ | exact Kd.N_nil _ _ _ _ _ | exact Kd.V_nil _ _ _ _ _ | exact Kd.Q_nil _ _ _ _ _ | exact Kd.S_nil _ _ _ _ _, by first | exact Kd.R_nil _ _ _ _ _ | exact Kd.N_nil _ _ _ _ _ | exact Kd.V_nil _ _ _ _ _ | exact Kd.Q_nil _ _ _ _ _ | exact Kd.S_nil _ _ _ _ _, bq⟩

/-! ### bytes_Equal: function 81 -/
def bytes_Equal.f (l0 : List Int) (l1 : List Int) : Option (Bool) := some ((strOfNums l0).toList == (strOfNums l1).toList)
set_option maxHeartbeats 8000000 in
set_option maxRecDepth 100000 in
theorem bytes_Equal.calls (A0 : Option Addr) (c0 : Nat) (l0 : List Int) (A1 : Option Addr) (c1 : Nat) (l1 : List Int) (r : Bool) (w : World) (hr0 : Kd.C (Kd.int .u8) w A0 l0.length l0) (hc0 : l0.length ≤ c0) (hr1 : Kd.C (Kd.int .u8) w A1 l1.length l1) (hc1 : l1.length ≤ c1) (h : bytes_Equal.f l0 l1 = some r) :
  Calls Try.prog 81 #[.slice A0 l0.length c0, .slice A1 l1.length c1] w fun e w' => e = .returned (.bool r) ∧ Drawn0 w w' := by
 have HR0 := Aside0.mk hr0
 have HC0 := Aside0.mk hc0
 clear hr0 hc0
 have HR1 := Aside0.mk hr1
 have HC1 := Aside0.mk hc1
 clear hr1 hc1
 have H : (some ((strOfNums l0).toList == (strOfNums l1).toList)) = some r := h
 clear h
 obtain rfl := Option.some.inj H
 have hcv3 := Kd.C_string (P := Try.prog) (A := A0) (c := c0) Try.underlying22 Try.underlying5 Try.underlying9 HR0.out
 have hcv4 := Kd.C_string (P := Try.prog) (A := A1) (c := c1) Try.underlying22 Try.underlying5 Try.underlying9 HR1.out
 go_enter Try.func81, Try.ntmps81
 go_wp2
 go_ret
 exact ⟨by first | rfl | (simp; done) | (simp [*]; done), q_0⟩

end Go.Proofs.Ytcdpiejcdeedoaa.PFnAppends
