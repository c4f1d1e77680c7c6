/- The functions that a law reaches, each as a plain Lean function with the proof that the machine comes to its answer: written by program (the kit's print, turned by wip/gen). No conditions. -/
import Derived.Test.YtooiamkaipdmpaaPFnBytesx0
import Derived.Test.YtooiamkaipdmpaaPFnBytesx3
import Derived.Test.YtooiamkaipdmpaaPFnBytesx8
namespace Go.Proofs.Ytooiamkaipdmpaa.PFnBytes
open Go.RowKit Go.Proofs.YtooiamkaipdmpaaW.PrintWords Go.Proofs.YtooiamkaipdmpaaW.PrintLast Go.Proofs.YtooiamkaipdmpaaW.PrintMore
attribute [local go_sem] max2_int min2_int max_two min_two max_three min_three max_four min_four   -- for this text's walks alone
set_option linter.unusedVariables false
set_option linter.unusedSimpArgs false

/-! ### spec_l1Draw: function 122 -/
def spec_l1Draw.l0 : Nat → Int → Int → List Int → Int → Int → List (S89) → Option (Int × (List (S89)) × Int)
  | 0, _, _, _, _, _, _ => none
  | k + 1, x1, x6, x1000, x1001, x273000, x273001 => if x6 > 0 then ((spec_l1Next.f x1000 x1001 3).bind fun bt278 => ((spec_l1Next.f x1000 bt278.2 40).bind fun bt280 => ((spec_l1Next.f x1000 bt280.2 3).bind fun bt282 => ((spec_l1Next.f x1000 bt282.2 4).bind fun bt284 => ((spec_l1Next.f x1000 bt284.2 3).bind fun bt287 => ((spec_l1Next.f x1000 bt287.2 4).bind fun bt289 => ((some (([] : List (S89)) : List (S89))).bind fun y292 => (if y292.length + x273001.length < 4398046511104 then ((some (y292 ++ x273001 : List (S89))).bind fun y295 => ((some (([(⟨bt282.1, bt284.1, bt278.1, wrap64 (-(wrap64 (1 + bt280.1)))⟩ : S89), (⟨bt287.1, bt289.1, bt278.1, wrap64 (1 + bt280.1)⟩ : S89)] : List (S89)) : List (S89))).bind fun y298 => (if y295.length + y298.length < 4398046511104 then ((some (y295 ++ y298 : List (S89))).bind fun y301 => ((spec_ContractFault.f k x1 y301).bind fun t305 => (if t305 = 0 then (spec_l1Draw.l0 k x1 (wrap64 (x6 - 1)) x1000 bt289.2 x1 y301) else (spec_l1Draw.l0 k x1 (wrap64 (x6 - 1)) x1000 bt289.2 x273000 x273001)))) else (none)))) else (none))))))))) else (if (x273001.length : Int) = 0 then (some (x273000, (([(⟨0, 0, 0, (-5)⟩ : S89), (⟨1, 0, 0, 5⟩ : S89)] : List (S89))), x1001)) else (some (x273000, x273001, x1001)))
def spec_l1Draw.f (k : Nat) (s0_0 : List Int) (s0_1 : Int) (a1 : Int) : Option (Int × (List (S89)) × Int) := (spec_l1Next.f s0_0 s0_1 2).bind fun bt273 => (spec_l1Draw.l0 k a1 (wrap64 (1 + bt273.1)) s0_0 bt273.2 a1 ([] : List (S89)))
def spec_l1Draw.T9 : Bool × List (List Nat × List Nat) := (true, [([], []), ([], []), ([], []), ([2], [2]), ([1, 3], [1, 3]), ([], []), ([], []), ([5, 6], [5, 6]), ([4, 7, 4], [4, 7]), ([0, 8], [0, 8]), ([], []), ([10, 9, 8, 0, 1, 2, 3, 4, 5, 6, 7, 8, 9, 10], [9, 10])])
def spec_l1Draw.B9 : List Nat := [0, 0, 0, 4, 14, 0, 0, 96, 254, 511, 0, 2047]
theorem spec_l1Draw.tab9 : rtab .any (opsOf Try.f122 9) = spec_l1Draw.T9 := by kernel_rfl
theorem spec_l1Draw.bits9 : waitsOk spec_l1Draw.T9.2 spec_l1Draw.B9 = true := by kernel_rfl
set_option maxHeartbeats 8000000 in
set_option maxRecDepth 100000 in
theorem spec_l1Draw.calls (k : Nat) (g : Nat) (s0_0 : List Int) (s0_1 : Int) (a1 : Int) (r1 : Int) (r2 : List (S89)) (r3 : Int) (w0 w : World) (hI : IsS130 w0 w g s0_0 s0_1) (hB : Below w0.heap.size w0 w) (h : spec_l1Draw.f k s0_0 s0_1 a1 = some (r1, r2, r3)) :
  Calls Try.prog 122 #[.pointer (some ⟨g, 0, none⟩), .int .i64 a1] w fun e w' => ∃ v1_ : Value, e = .returned (.agg #[.int .i64 r1, v1_]) ∧ Kd.R k89 89 w' w.heap.size (fun _ => True) v1_ r2 ∧ IsS130 w0 w' g s0_0 r3 ∧ Below w0.heap.size w0 w' ∧ KeepBut w w' g none := by
 have hu36 := Try.underlying36
 have hu89 := Try.underlying89
 have HI0 := Aside0.mk hI
 have HK := Aside0.mk (KeepBut.refl w g none)
 have HL := Aside0.mk hB.size
 clear hI
 have HW0 := Aside0.mk hB.size
 have HB := Aside0.mk hB
 clear hB
 have H : ((spec_l1Next.f s0_0 s0_1 2).bind fun bt273 => (spec_l1Draw.l0 k a1 (wrap64 (1 + bt273.1)) s0_0 bt273.2 a1 ([] : List (S89)))) = some (r1, r2, r3) := h
 clear h
 replace H := Option.bind_eq_some_iff.mp H
 obtain ⟨⟨t273, t274⟩, A30, H⟩ := H
 replace H : (spec_l1Draw.l0 k a1 (wrap64 (1 + t273)) s0_0 t274 a1 ([] : List (S89))) = some (r1, r2, r3) := H
 have A3 := Aside0.mk A30
 clear A30
 have H' := Aside0.mk H
 clear H
 go_enter Try.func122, Try.ntmps122
 go_wp2_with (first | ((with_reducible refine gate_dst (N := 4) rfl ?_); refine q_box (N := 4) (cs := #[.int .i64 0, .slice none 0 0]) (t := 36) ?_; intro gb271 hg w4 hbox hb; have n0_ := Aside0.mk (IsS130.below q_I130_0_1 hb); have n1_ := Aside0.mk (KeepBut.trans q_K (KeepBut.of_below hb g none) (.inl rfl)); have n2_ := Aside0.mk (below_step q_B130_0 hb); have n3_ := Aside0.mk (hbox); have n4_ := Aside0.mk ((by rw [hg]; exact (keep_size (w := w) (g := g) (row := none) q_K) : w.heap.size ≤ gb271)); have n5_ := Aside0.mk ((Nat.le_trans HW0.out (by rw [hg]; exact (keep_size (w := w) (g := g) (row := none) q_K) : w.heap.size ≤ gb271) : w0.heap.size ≤ gb271)); have n6_ := Aside0.mk ((by rw [hg]; exact Nat.ne_of_lt (IsS130.lt (show IsS130 w0 _ g s0_0 s0_1 from q_I130_0_1)) : g ≠ gb271)); have n7_ := Aside0.mk ((by rw [hg]; exact Nat.ne_of_gt (IsS130.lt (show IsS130 w0 _ g s0_0 s0_1 from q_I130_0_1)) : gb271 ≠ g)); revert n0_ n1_ n2_ n3_ n4_ n5_ n6_ n7_; clear HI0 HK HB; intro HI0 HK HB BK271 GW271 GE271 NB0_271 NB271_0; clear hb hbox hg) | ((with_reducible refine gate_dst (N := 5) rfl ?_); refine q_box (N := 5) (cs := #[.int .i64 0, .slice none 0 0]) (t := 36) ?_; intro gb272 hg w5 hbox hb; have n0_ := Aside0.mk (IsS130.below q_I130_0_1 hb); have n1_ := Aside0.mk (blk_below (q_b BK271.out) hb); have n2_ := Aside0.mk (KeepBut.trans q_K (KeepBut.of_below hb g none) (.inl rfl)); have n3_ := Aside0.mk (below_step q_B130_0 hb); have n4_ := Aside0.mk (hbox); have n5_ := Aside0.mk ((by rw [hg]; exact (keep_size (w := w) (g := g) (row := none) q_K) : w.heap.size ≤ gb272)); have n6_ := Aside0.mk ((Nat.le_trans HW0.out (by rw [hg]; exact (keep_size (w := w) (g := g) (row := none) q_K) : w.heap.size ≤ gb272) : w0.heap.size ≤ gb272)); have n7_ := Aside0.mk ((q_n hg (q_b BK271.out) : gb271 ≠ gb272)); have n8_ := Aside0.mk ((q_m hg (q_b BK271.out) : gb272 ≠ gb271)); have n9_ := Aside0.mk ((by rw [hg]; exact Nat.ne_of_lt (IsS130.lt (show IsS130 w0 _ g s0_0 s0_1 from q_I130_0_1)) : g ≠ gb272)); have n10_ := Aside0.mk ((by rw [hg]; exact Nat.ne_of_gt (IsS130.lt (show IsS130 w0 _ g s0_0 s0_1 from q_I130_0_1)) : gb272 ≠ g)); revert n0_ n1_ n2_ n3_ n4_ n5_ n6_ n7_ n8_ n9_ n10_; clear HI0 BK271 HK HB; intro HI0 BK271 HK HB BK272 GW272 GE272 NB271_272 NB272_271 NB0_272 NB272_0; clear hb hbox hg; have hnb6 := NB272_271.out; have hnc6 := NB271_272.out; have hnb7 := NB272_0.out; have hnc7 := NB0_272.out; obtain ⟨hcz8_0, hcz8_1, hfz8_0, hfz8_1⟩ := q_2 BK272.out) | ((with_reducible refine gate_callee (f := 121) rfl ?_); refine goesLq (some 15) rfl rfl Try.func121 (by kernel_rfl) rfl #[.pointer (some ⟨g, 0, none⟩), .int .i64 2] rfl ?_; (with_reducible refine (spec_l1Next.calls g s0_0 s0_1 2 t273 t274 w0 _ ?side1 ?side2 A3.out).mono ?_); (case side1 => repeat (first | (with_reducible first | exact HI0.out | apply IsS130.alloc | apply IsS130.drewN | apply IsS130.drew | apply IsS130.set_1 | refine IsS130.far ?_ NB0_271.out _ | refine IsS130.far ?_ NB0_272.out _) | exact HI0.out)); (case side2 => repeat (first | (with_reducible first | exact HB.out | apply below_alloc | apply pw_below_drewN | apply below_drew1 | refine below_set ?_ (IsS130.ge HI0.out) | refine below_set ?_ GE271.out | refine below_set ?_ GE272.out) | exact HB.out)); rintro e w9 ⟨rfl, hi, hb, hk⟩; refine ⟨_, rfl, ?_⟩; have n0_ := Aside0.mk (KeepBut.blk hk (g' := gb271) (o := .cells #[.int .i64 0, .slice none 0 0] 36 (0, 0)) (by (with_reducible repeat (first | refine blk_drewN ?_ _ | refine blk_drew ?_ | refine blk_alloc ?_ _)); refine blk_far ?_ NB271_272.out _; (with_reducible repeat (first | refine blk_drewN ?_ _ | refine blk_drew ?_ | refine blk_alloc ?_ _)); refine blk_far ?_ NB271_272.out _; (with_reducible repeat (first | refine blk_drewN ?_ _ | refine blk_drew ?_ | refine blk_alloc ?_ _)); exact BK271.out) NB271_0.out (by simp)); have n1_ := Aside0.mk (KeepBut.blk hk (g' := gb272) (o := .cells #[.int .i64 a1, .slice none 0 0] 36 (0, 0)) (by (with_reducible repeat (first | refine blk_drewN ?_ _ | refine blk_drew ?_ | refine blk_alloc ?_ _)); refine blk_put (cs := #[.int .i64 a1, .slice none 0 0]) ?_ 1 _ rfl; (with_reducible repeat (first | refine blk_drewN ?_ _ | refine blk_drew ?_ | refine blk_alloc ?_ _)); refine blk_put (cs := #[.int .i64 0, .slice none 0 0]) ?_ 0 _ rfl; (with_reducible repeat (first | refine blk_drewN ?_ _ | refine blk_drew ?_ | refine blk_alloc ?_ _)); exact BK272.out) NB272_0.out (by simp)); have n2_ := Aside0.mk (KeepBut.trans q_K hk (.inl rfl)); have n3_ := Aside0.mk (hb); have n4_ := Aside0.mk (hi); revert n0_ n1_ n2_ n3_ n4_; clear BK271 BK272 HK HB HI0; intro BK271 BK272 HK HB HI0; (try clear hb); (try clear hb2); (try clear hk); (try clear hi)))
 go_loopg [6] k (fun kq v6 w' => ∃ (x6_1 : Int) (x1001_1 : Int) (x273000_1 : Int) (x273001_1 : List (S89)) (u273001 : Value), v6 = .int .i64 x6_1 ∧ Aside0 (spec_l1Draw.l0 kq a1 x6_1 s0_0 x1001_1 x273000_1 x273001_1 = some (r1, r2, r3)) ∧ Aside0 (kq ≤ k) ∧ Aside0 (Kd.R k89 89 w' w.heap.size (fun _ => True) u273001 x273001_1) ∧ Aside0 (w'.heap[gb271]? = some (.cells #[.int .i64 0, (.slice none 0 0)] 36 (0, 0))) ∧ Aside0 (w'.heap[gb272]? = some (.cells #[.int .i64 x273000_1, u273001] 36 (0, 0))) ∧ Aside0 (IsS130 w0 w' g s0_0 x1001_1) ∧ Aside0 (KeepBut w w' g none) ∧ Aside0 (Below w0.heap.size w0 w'))
 case atStart => exact ⟨(wrap64 (1 + t273)), (t274), (a1), (([] : List (S89))), (.slice none 0 0), q_i, H', ⟨Nat.le_refl _⟩, ⟨by first | exact Kd.R_nil _ _ _ _ _ | exact Kd.N_nil _ _ _ _ _ | exact Kd.V_nil _ _ _ _ _ | exact Kd.Q_nil _ _ _ _ _ | exact Kd.S_nil _ _ _ _ _⟩, ⟨q_b BK271.out⟩, ⟨q_b BK272.out⟩, ⟨q_I130_0_1⟩, ⟨q_K⟩, ⟨q_B130_0⟩⟩
 case round =>
  clear H'
  (try clear c1); (try clear p2); (try clear c6); (try clear p6); (try clear c7); (try clear hcz8_0); (try clear hcz8_1); (try clear hfz8_0); (try clear hfz8_1)
  obtain ⟨x6_1, x1001_1, x273000_1, x273001_1, u273001, rfl, HA, HK1, HO_273001, BK271, BK272, HI0, HK, HB⟩ := hrel
  cases gk with
  | zero => exact absurd HA.out (by simp [spec_l1Draw.l0])
  | succ k1 =>
   have H := HA.out
   clear HA
   simp only [spec_l1Draw.l0] at H
   by_cases c10 : x6_1 > 0
   ·rw [if_pos c10] at H
    have c10b0 := decide_eq_true c10
    clear c10
    replace H := Option.bind_eq_some_iff.mp H
    obtain ⟨⟨t278, t279⟩, A110, H⟩ := H
    replace H : ((spec_l1Next.f s0_0 t279 40).bind fun bt280 => ((spec_l1Next.f s0_0 bt280.2 3).bind fun bt282 => ((spec_l1Next.f s0_0 bt282.2 4).bind fun bt284 => ((spec_l1Next.f s0_0 bt284.2 3).bind fun bt287 => ((spec_l1Next.f s0_0 bt287.2 4).bind fun bt289 => ((some (([] : List (S89)) : List (S89))).bind fun y292 => (if y292.length + x273001_1.length < 4398046511104 then ((some (y292 ++ x273001_1 : List (S89))).bind fun y295 => ((some (([(⟨bt282.1, bt284.1, t278, wrap64 (-(wrap64 (1 + bt280.1)))⟩ : S89), (⟨bt287.1, bt289.1, t278, wrap64 (1 + bt280.1)⟩ : S89)] : List (S89)) : List (S89))).bind fun y298 => (if y295.length + y298.length < 4398046511104 then ((some (y295 ++ y298 : List (S89))).bind fun y301 => ((spec_ContractFault.f k1 a1 y301).bind fun t305 => (if t305 = 0 then (spec_l1Draw.l0 k1 a1 (wrap64 (x6_1 - 1)) s0_0 bt289.2 a1 y301) else (spec_l1Draw.l0 k1 a1 (wrap64 (x6_1 - 1)) s0_0 bt289.2 x273000_1 x273001_1)))) else (none)))) else (none)))))))) = some (r1, r2, r3) := H
    have A11 := Aside0.mk A110
    clear A110
    replace H := Option.bind_eq_some_iff.mp H
    obtain ⟨⟨t280, t281⟩, A120, H⟩ := H
    replace H : ((spec_l1Next.f s0_0 t281 3).bind fun bt282 => ((spec_l1Next.f s0_0 bt282.2 4).bind fun bt284 => ((spec_l1Next.f s0_0 bt284.2 3).bind fun bt287 => ((spec_l1Next.f s0_0 bt287.2 4).bind fun bt289 => ((some (([] : List (S89)) : List (S89))).bind fun y292 => (if y292.length + x273001_1.length < 4398046511104 then ((some (y292 ++ x273001_1 : List (S89))).bind fun y295 => ((some (([(⟨bt282.1, bt284.1, t278, wrap64 (-(wrap64 (1 + t280)))⟩ : S89), (⟨bt287.1, bt289.1, t278, wrap64 (1 + t280)⟩ : S89)] : List (S89)) : List (S89))).bind fun y298 => (if y295.length + y298.length < 4398046511104 then ((some (y295 ++ y298 : List (S89))).bind fun y301 => ((spec_ContractFault.f k1 a1 y301).bind fun t305 => (if t305 = 0 then (spec_l1Draw.l0 k1 a1 (wrap64 (x6_1 - 1)) s0_0 bt289.2 a1 y301) else (spec_l1Draw.l0 k1 a1 (wrap64 (x6_1 - 1)) s0_0 bt289.2 x273000_1 x273001_1)))) else (none)))) else (none))))))) = some (r1, r2, r3) := H
    have A12 := Aside0.mk A120
    clear A120
    replace H := Option.bind_eq_some_iff.mp H
    obtain ⟨⟨t282, t283⟩, A130, H⟩ := H
    replace H : ((spec_l1Next.f s0_0 t283 4).bind fun bt284 => ((spec_l1Next.f s0_0 bt284.2 3).bind fun bt287 => ((spec_l1Next.f s0_0 bt287.2 4).bind fun bt289 => ((some (([] : List (S89)) : List (S89))).bind fun y292 => (if y292.length + x273001_1.length < 4398046511104 then ((some (y292 ++ x273001_1 : List (S89))).bind fun y295 => ((some (([(⟨t282, bt284.1, t278, wrap64 (-(wrap64 (1 + t280)))⟩ : S89), (⟨bt287.1, bt289.1, t278, wrap64 (1 + t280)⟩ : S89)] : List (S89)) : List (S89))).bind fun y298 => (if y295.length + y298.length < 4398046511104 then ((some (y295 ++ y298 : List (S89))).bind fun y301 => ((spec_ContractFault.f k1 a1 y301).bind fun t305 => (if t305 = 0 then (spec_l1Draw.l0 k1 a1 (wrap64 (x6_1 - 1)) s0_0 bt289.2 a1 y301) else (spec_l1Draw.l0 k1 a1 (wrap64 (x6_1 - 1)) s0_0 bt289.2 x273000_1 x273001_1)))) else (none)))) else (none)))))) = some (r1, r2, r3) := H
    have A13 := Aside0.mk A130
    clear A130
    replace H := Option.bind_eq_some_iff.mp H
    obtain ⟨⟨t284, t285⟩, A140, H⟩ := H
    replace H : ((spec_l1Next.f s0_0 t285 3).bind fun bt287 => ((spec_l1Next.f s0_0 bt287.2 4).bind fun bt289 => ((some (([] : List (S89)) : List (S89))).bind fun y292 => (if y292.length + x273001_1.length < 4398046511104 then ((some (y292 ++ x273001_1 : List (S89))).bind fun y295 => ((some (([(⟨t282, t284, t278, wrap64 (-(wrap64 (1 + t280)))⟩ : S89), (⟨bt287.1, bt289.1, t278, wrap64 (1 + t280)⟩ : S89)] : List (S89)) : List (S89))).bind fun y298 => (if y295.length + y298.length < 4398046511104 then ((some (y295 ++ y298 : List (S89))).bind fun y301 => ((spec_ContractFault.f k1 a1 y301).bind fun t305 => (if t305 = 0 then (spec_l1Draw.l0 k1 a1 (wrap64 (x6_1 - 1)) s0_0 bt289.2 a1 y301) else (spec_l1Draw.l0 k1 a1 (wrap64 (x6_1 - 1)) s0_0 bt289.2 x273000_1 x273001_1)))) else (none)))) else (none))))) = some (r1, r2, r3) := H
    have A14 := Aside0.mk A140
    clear A140
    replace H := Option.bind_eq_some_iff.mp H
    obtain ⟨⟨t287, t288⟩, A150, H⟩ := H
    replace H : ((spec_l1Next.f s0_0 t288 4).bind fun bt289 => ((some (([] : List (S89)) : List (S89))).bind fun y292 => (if y292.length + x273001_1.length < 4398046511104 then ((some (y292 ++ x273001_1 : List (S89))).bind fun y295 => ((some (([(⟨t282, t284, t278, wrap64 (-(wrap64 (1 + t280)))⟩ : S89), (⟨t287, bt289.1, t278, wrap64 (1 + t280)⟩ : S89)] : List (S89)) : List (S89))).bind fun y298 => (if y295.length + y298.length < 4398046511104 then ((some (y295 ++ y298 : List (S89))).bind fun y301 => ((spec_ContractFault.f k1 a1 y301).bind fun t305 => (if t305 = 0 then (spec_l1Draw.l0 k1 a1 (wrap64 (x6_1 - 1)) s0_0 bt289.2 a1 y301) else (spec_l1Draw.l0 k1 a1 (wrap64 (x6_1 - 1)) s0_0 bt289.2 x273000_1 x273001_1)))) else (none)))) else (none)))) = some (r1, r2, r3) := H
    have A15 := Aside0.mk A150
    clear A150
    replace H := Option.bind_eq_some_iff.mp H
    obtain ⟨⟨t289, t290⟩, A160, H⟩ := H
    replace H : ((some (([] : List (S89)) : List (S89))).bind fun y292 => (if y292.length + x273001_1.length < 4398046511104 then ((some (y292 ++ x273001_1 : List (S89))).bind fun y295 => ((some (([(⟨t282, t284, t278, wrap64 (-(wrap64 (1 + t280)))⟩ : S89), (⟨t287, t289, t278, wrap64 (1 + t280)⟩ : S89)] : List (S89)) : List (S89))).bind fun y298 => (if y295.length + y298.length < 4398046511104 then ((some (y295 ++ y298 : List (S89))).bind fun y301 => ((spec_ContractFault.f k1 a1 y301).bind fun t305 => (if t305 = 0 then (spec_l1Draw.l0 k1 a1 (wrap64 (x6_1 - 1)) s0_0 t290 a1 y301) else (spec_l1Draw.l0 k1 a1 (wrap64 (x6_1 - 1)) s0_0 t290 x273000_1 x273001_1)))) else (none)))) else (none))) = some (r1, r2, r3) := H
    have A16 := Aside0.mk A160
    clear A160
    obtain ⟨y292, hy292⟩ : ∃ y_ : List (S89), y_ = (([] : List (S89))) := ⟨_, rfl⟩
    replace H : (if y292.length + x273001_1.length < 4398046511104 then ((some (y292 ++ x273001_1 : List (S89))).bind fun y295 => ((some (([(⟨t282, t284, t278, wrap64 (-(wrap64 (1 + t280)))⟩ : S89), (⟨t287, t289, t278, wrap64 (1 + t280)⟩ : S89)] : List (S89)) : List (S89))).bind fun y298 => (if y295.length + y298.length < 4398046511104 then ((some (y295 ++ y298 : List (S89))).bind fun y301 => ((spec_ContractFault.f k1 a1 y301).bind fun t305 => (if t305 = 0 then (spec_l1Draw.l0 k1 a1 (wrap64 (x6_1 - 1)) s0_0 t290 a1 y301) else (spec_l1Draw.l0 k1 a1 (wrap64 (x6_1 - 1)) s0_0 t290 x273000_1 x273001_1)))) else (none)))) else (none)) = some (r1, r2, r3) := q_h hy292 H
    have Ny292 := Aside0.mk hy292
    clear hy292
    by_cases c17 : y292.length + x273001_1.length < 4398046511104
    ·rw [if_pos c17] at H
     have LMc17 := Aside0.mk c17
     clear c17
     obtain ⟨y295, hy295⟩ : ∃ y_ : List (S89), y_ = (y292 ++ x273001_1) := ⟨_, rfl⟩
     replace H : ((some (([(⟨t282, t284, t278, wrap64 (-(wrap64 (1 + t280)))⟩ : S89), (⟨t287, t289, t278, wrap64 (1 + t280)⟩ : S89)] : List (S89)) : List (S89))).bind fun y298 => (if y295.length + y298.length < 4398046511104 then ((some (y295 ++ y298 : List (S89))).bind fun y301 => ((spec_ContractFault.f k1 a1 y301).bind fun t305 => (if t305 = 0 then (spec_l1Draw.l0 k1 a1 (wrap64 (x6_1 - 1)) s0_0 t290 a1 y301) else (spec_l1Draw.l0 k1 a1 (wrap64 (x6_1 - 1)) s0_0 t290 x273000_1 x273001_1)))) else (none))) = some (r1, r2, r3) := q_h hy295 H
     have Ny295 := Aside0.mk hy295
     clear hy295
     obtain ⟨y298, hy298⟩ : ∃ y_ : List (S89), y_ = (([(⟨t282, t284, t278, wrap64 (-(wrap64 (1 + t280)))⟩ : S89), (⟨t287, t289, t278, wrap64 (1 + t280)⟩ : S89)] : List (S89))) := ⟨_, rfl⟩
     replace H : (if y295.length + y298.length < 4398046511104 then ((some (y295 ++ y298 : List (S89))).bind fun y301 => ((spec_ContractFault.f k1 a1 y301).bind fun t305 => (if t305 = 0 then (spec_l1Draw.l0 k1 a1 (wrap64 (x6_1 - 1)) s0_0 t290 a1 y301) else (spec_l1Draw.l0 k1 a1 (wrap64 (x6_1 - 1)) s0_0 t290 x273000_1 x273001_1)))) else (none)) = some (r1, r2, r3) := q_h hy298 H
     have Ny298 := Aside0.mk hy298
     clear hy298
     by_cases c18 : y295.length + y298.length < 4398046511104
     ·rw [if_pos c18] at H
      have LMc18 := Aside0.mk c18
      clear c18
      obtain ⟨y301, hy301⟩ : ∃ y_ : List (S89), y_ = (y295 ++ y298) := ⟨_, rfl⟩
      replace H : ((spec_ContractFault.f k1 a1 y301).bind fun t305 => (if t305 = 0 then (spec_l1Draw.l0 k1 a1 (wrap64 (x6_1 - 1)) s0_0 t290 a1 y301) else (spec_l1Draw.l0 k1 a1 (wrap64 (x6_1 - 1)) s0_0 t290 x273000_1 x273001_1))) = some (r1, r2, r3) := q_h hy301 H
      have Ny301 := Aside0.mk hy301
      clear hy301
      replace H := Option.bind_eq_some_iff.mp H
      obtain ⟨t305, A190, H⟩ := H
      replace H : (if t305 = 0 then (spec_l1Draw.l0 k1 a1 (wrap64 (x6_1 - 1)) s0_0 t290 a1 y301) else (spec_l1Draw.l0 k1 a1 (wrap64 (x6_1 - 1)) s0_0 t290 x273000_1 x273001_1)) = some (r1, r2, r3) := H
      have A19 := Aside0.mk A190
      clear A190
      have HQ_ := Aside0.mk H
      clear H
      try go_wp2_with (first | ((with_reducible refine gate_callee (f := 121) rfl ?_); refine goesLq (some 22) rfl rfl Try.func121 (by kernel_rfl) rfl #[.pointer (some ⟨g, 0, none⟩), .int .i64 3] rfl ?_; (with_reducible refine (spec_l1Next.calls g s0_0 x1001_1 3 t278 t279 w0 _ ?side1 ?side2 A11.out).mono ?_); (case side1 => repeat (first | (with_reducible first | exact HI0.out | apply IsS130.alloc | apply IsS130.drewN | apply IsS130.drew | apply IsS130.set_1 | refine IsS130.far ?_ NB0_271.out _ | refine IsS130.far ?_ NB0_272.out _) | exact HI0.out)); (case side2 => repeat (first | (with_reducible first | exact HB.out | apply below_alloc | apply pw_below_drewN | apply below_drew1 | refine below_set ?_ (IsS130.ge HI0.out) | refine below_set ?_ GE271.out | refine below_set ?_ GE272.out) | exact HB.out)); rintro e w21 ⟨rfl, hi, hb, hk⟩; refine ⟨_, rfl, ?_⟩; have n0_ := Aside0.mk (Kd.R_mono (Kd.R_keep (IsS130.apart (show IsS130 w0 _ g s0_0 x1001_1 from q_I130_0_1) (q_r (HO_273001.out)) (by decide)) hk (fun _ h => h.2)) (fun _ h => h.1)); have n1_ := Aside0.mk (KeepBut.blk hk (g' := gb271) (o := .cells #[.int .i64 0, .slice none 0 0] 36 (0, 0)) kq NB271_0.out (by simp)); have n2_ := Aside0.mk (KeepBut.blk hk (g' := gb272) (o := .cells #[.int .i64 x273000_1, u273001] 36 (0, 0)) kq NB272_0.out (by simp)); have n3_ := Aside0.mk (KeepBut.trans q_K hk (.inl rfl)); have n4_ := Aside0.mk (hb); have n5_ := Aside0.mk (hi); revert n0_ n1_ n2_ n3_ n4_ n5_; clear HO_273001 BK271 BK272 HK HB HI0; intro HO_273001 BK271 BK272 HK HB HI0; (try clear hb); (try clear hb2); (try clear hk); (try clear hi)) | ((with_reducible refine gate_callee (f := 121) rfl ?_); refine goesLq (some 24) rfl rfl Try.func121 (by kernel_rfl) rfl #[.pointer (some ⟨g, 0, none⟩), .int .i64 40] rfl ?_; (with_reducible refine (spec_l1Next.calls g s0_0 t279 40 t280 t281 w0 _ ?side1 ?side2 A12.out).mono ?_); (case side1 => repeat (first | (with_reducible first | exact HI0.out | apply IsS130.alloc | apply IsS130.drewN | apply IsS130.drew | apply IsS130.set_1 | refine IsS130.far ?_ NB0_271.out _ | refine IsS130.far ?_ NB0_272.out _) | exact HI0.out)); (case side2 => repeat (first | (with_reducible first | exact HB.out | apply below_alloc | apply pw_below_drewN | apply below_drew1 | refine below_set ?_ (IsS130.ge HI0.out) | refine below_set ?_ GE271.out | refine below_set ?_ GE272.out) | exact HB.out)); rintro e w22 ⟨rfl, hi, hb, hk⟩; refine ⟨_, rfl, ?_⟩; have n0_ := Aside0.mk (Kd.R_mono (Kd.R_keep (IsS130.apart (show IsS130 w0 _ g s0_0 t279 from q_I130_0_1) (q_r (HO_273001.out)) (by decide)) hk (fun _ h => h.2)) (fun _ h => h.1)); have n1_ := Aside0.mk (KeepBut.blk hk (g' := gb271) (o := .cells #[.int .i64 0, .slice none 0 0] 36 (0, 0)) kq NB271_0.out (by simp)); have n2_ := Aside0.mk (KeepBut.blk hk (g' := gb272) (o := .cells #[.int .i64 x273000_1, u273001] 36 (0, 0)) kq NB272_0.out (by simp)); have n3_ := Aside0.mk (KeepBut.trans q_K hk (.inl rfl)); have n4_ := Aside0.mk (hb); have n5_ := Aside0.mk (hi); revert n0_ n1_ n2_ n3_ n4_ n5_; clear HO_273001 BK271 BK272 HK HB HI0; intro HO_273001 BK271 BK272 HK HB HI0; (try clear hb); (try clear hb2); (try clear hk); (try clear hi)) | ((with_reducible refine gate_callee (f := 121) rfl ?_); refine goesLq (some 27) rfl rfl Try.func121 (by kernel_rfl) rfl #[.pointer (some ⟨g, 0, none⟩), .int .i64 3] rfl ?_; (with_reducible refine (spec_l1Next.calls g s0_0 t281 3 t282 t283 w0 _ ?side1 ?side2 A13.out).mono ?_); (case side1 => repeat (first | (with_reducible first | exact HI0.out | apply IsS130.alloc | apply IsS130.drewN | apply IsS130.drew | apply IsS130.set_1 | refine IsS130.far ?_ NB0_271.out _ | refine IsS130.far ?_ NB0_272.out _) | exact HI0.out)); (case side2 => repeat (first | (with_reducible first | exact HB.out | apply below_alloc | apply pw_below_drewN | apply below_drew1 | refine below_set ?_ (IsS130.ge HI0.out) | refine below_set ?_ GE271.out | refine below_set ?_ GE272.out) | exact HB.out)); rintro e w23 ⟨rfl, hi, hb, hk⟩; refine ⟨_, rfl, ?_⟩; have n0_ := Aside0.mk (Kd.R_mono (Kd.R_keep (IsS130.apart (show IsS130 w0 _ g s0_0 t281 from q_I130_0_1) (q_r (HO_273001.out)) (by decide)) hk (fun _ h => h.2)) (fun _ h => h.1)); have n1_ := Aside0.mk (KeepBut.blk hk (g' := gb271) (o := .cells #[.int .i64 0, .slice none 0 0] 36 (0, 0)) kq NB271_0.out (by simp)); have n2_ := Aside0.mk (KeepBut.blk hk (g' := gb272) (o := .cells #[.int .i64 x273000_1, u273001] 36 (0, 0)) kq NB272_0.out (by simp)); have n3_ := Aside0.mk (KeepBut.trans q_K hk (.inl rfl)); have n4_ := Aside0.mk (hb); have n5_ := Aside0.mk (hi); revert n0_ n1_ n2_ n3_ n4_ n5_; clear HO_273001 BK271 BK272 HK HB HI0; intro HO_273001 BK271 BK272 HK HB HI0; (try clear hb); (try clear hb2); (try clear hk); (try clear hi)) | ((with_reducible refine gate_callee (f := 121) rfl ?_); refine goesLq (some 29) rfl rfl Try.func121 (by kernel_rfl) rfl #[.pointer (some ⟨g, 0, none⟩), .int .i64 4] rfl ?_; (with_reducible refine (spec_l1Next.calls g s0_0 t283 4 t284 t285 w0 _ ?side1 ?side2 A14.out).mono ?_); (case side1 => repeat (first | (with_reducible first | exact HI0.out | apply IsS130.alloc | apply IsS130.drewN | apply IsS130.drew | apply IsS130.set_1 | refine IsS130.far ?_ NB0_271.out _ | refine IsS130.far ?_ NB0_272.out _) | exact HI0.out)); (case side2 => repeat (first | (with_reducible first | exact HB.out | apply below_alloc | apply pw_below_drewN | apply below_drew1 | refine below_set ?_ (IsS130.ge HI0.out) | refine below_set ?_ GE271.out | refine below_set ?_ GE272.out) | exact HB.out)); rintro e w24 ⟨rfl, hi, hb, hk⟩; refine ⟨_, rfl, ?_⟩; have n0_ := Aside0.mk (Kd.R_mono (Kd.R_keep (IsS130.apart (show IsS130 w0 _ g s0_0 t283 from q_I130_0_1) (q_r (HO_273001.out)) (by decide)) hk (fun _ h => h.2)) (fun _ h => h.1)); have n1_ := Aside0.mk (KeepBut.blk hk (g' := gb271) (o := .cells #[.int .i64 0, .slice none 0 0] 36 (0, 0)) kq NB271_0.out (by simp)); have n2_ := Aside0.mk (KeepBut.blk hk (g' := gb272) (o := .cells #[.int .i64 x273000_1, u273001] 36 (0, 0)) kq NB272_0.out (by simp)); have n3_ := Aside0.mk (KeepBut.trans q_K hk (.inl rfl)); have n4_ := Aside0.mk (hb); have n5_ := Aside0.mk (hi); revert n0_ n1_ n2_ n3_ n4_ n5_; clear HO_273001 BK271 BK272 HK HB HI0; intro HO_273001 BK271 BK272 HK HB HI0; (try clear hb); (try clear hb2); (try clear hk); (try clear hi)) | ((with_reducible refine gate_dst (N := 9) rfl ?_); refine q_box (N := 9) (cs := #[.int .i64 0, .int .i64 0, .int .i64 0, .int .i64 0]) (t := 89) ?_; intro gb286 hg w25 hbox hb; have n0_ := Aside0.mk (Kd.R_below (Kd.R_elderB (q_r (HO_273001.out)) gb286 (Nat.le_of_eq hg.symm)) hb); have n1_ := Aside0.mk (blk_below (q_b BK271.out) hb); have n2_ := Aside0.mk (blk_below (q_b BK272.out) hb); have n3_ := Aside0.mk (IsS130.below q_I130_0_1 hb); have n4_ := Aside0.mk (KeepBut.trans q_K (KeepBut.of_below hb g none) (.inl rfl)); have n5_ := Aside0.mk (below_step q_B130_0 hb); have n6_ := Aside0.mk (hbox); have n7_ := Aside0.mk ((by rw [hg]; exact (keep_size (w := w) (g := g) (row := none) q_K) : w.heap.size ≤ gb286)); have n8_ := Aside0.mk ((Nat.le_trans HW0.out (by rw [hg]; exact (keep_size (w := w) (g := g) (row := none) q_K) : w.heap.size ≤ gb286) : w0.heap.size ≤ gb286)); have n9_ := Aside0.mk ((q_n hg (q_b BK271.out) : gb271 ≠ gb286)); have n10_ := Aside0.mk ((q_m hg (q_b BK271.out) : gb286 ≠ gb271)); have n11_ := Aside0.mk ((q_n hg (q_b BK272.out) : gb272 ≠ gb286)); have n12_ := Aside0.mk ((q_m hg (q_b BK272.out) : gb286 ≠ gb272)); have n13_ := Aside0.mk ((by rw [hg]; exact Nat.ne_of_lt (IsS130.lt (show IsS130 w0 _ g s0_0 t285 from q_I130_0_1)) : g ≠ gb286)); have n14_ := Aside0.mk ((by rw [hg]; exact Nat.ne_of_gt (IsS130.lt (show IsS130 w0 _ g s0_0 t285 from q_I130_0_1)) : gb286 ≠ g)); revert n0_ n1_ n2_ n3_ n4_ n5_ n6_ n7_ n8_ n9_ n10_ n11_ n12_ n13_ n14_; clear HO_273001 BK271 BK272 HI0 HK HB; intro HO_273001 BK271 BK272 HI0 HK HB BK286 GW286 GE286 NB271_286 NB286_271 NB272_286 NB286_272 NB0_286 NB286_0; clear hb hbox hg; have hnb26 := NB286_271.out; have hnc26 := NB271_286.out; have hnb27 := NB286_272.out; have hnc27 := NB272_286.out; have hnb28 := NB286_0.out; have hnc28 := NB0_286.out; obtain ⟨hcz29_0, hcz29_1, hcz29_2, hcz29_3, hfz29_0, hfz29_1, hfz29_2, hfz29_3⟩ := q_4 BK286.out) | ((with_reducible refine gate_callee (f := 121) rfl ?_); refine goesLq (some 35) rfl rfl Try.func121 (by kernel_rfl) rfl #[.pointer (some ⟨g, 0, none⟩), .int .i64 3] rfl ?_; (with_reducible refine (spec_l1Next.calls g s0_0 t285 3 t287 t288 w0 _ ?side1 ?side2 A15.out).mono ?_); (case side1 => repeat (first | (with_reducible first | exact HI0.out | apply IsS130.alloc | apply IsS130.drewN | apply IsS130.drew | apply IsS130.set_1 | refine IsS130.far ?_ NB0_271.out _ | refine IsS130.far ?_ NB0_272.out _ | refine IsS130.far ?_ NB0_286.out _) | exact HI0.out)); (case side2 => repeat (first | (with_reducible first | exact HB.out | apply below_alloc | apply pw_below_drewN | apply below_drew1 | refine below_set ?_ (IsS130.ge HI0.out) | refine below_set ?_ GE271.out | refine below_set ?_ GE272.out | refine below_set ?_ GE286.out) | exact HB.out)); rintro e w30 ⟨rfl, hi, hb, hk⟩; refine ⟨_, rfl, ?_⟩; have n0_ := Aside0.mk (Kd.R_mono (Kd.R_keep (IsS130.apart (show IsS130 w0 _ g s0_0 t285 from q_I130_0_1) (by (with_reducible repeat (first | apply Kd.R_alloc | apply Kd.R_drewN | apply Kd.R_drew)); exact (Kd.R_mono (Kd.R_far (p := ⟨gb286, 3, none⟩) (Kd.R_far (p := ⟨gb286, 2, none⟩) (Kd.R_far (p := ⟨gb286, 1, none⟩) (Kd.R_far (p := ⟨gb286, 0, none⟩) (Kd.R_mono HO_273001.out (fun k_ hk => (⟨hk, hk.2⟩ : _ ∧ k_ ≠ gb286))) (fun _ hk => hk.2) (.int .i64 t282)) (fun _ hk => hk.2) (.int .i64 t284)) (fun _ hk => hk.2) (.int .i64 t278)) (fun _ hk => hk.2) (.int .i64 (wrap64 (-(wrap64 (1 + t280)))))) (fun _ h_ => h_.1))) (by decide)) hk (fun _ h => h.2)) (fun _ h => h.1)); have n1_ := Aside0.mk (KeepBut.blk hk (g' := gb271) (o := .cells #[.int .i64 0, .slice none 0 0] 36 (0, 0)) (by (with_reducible repeat (first | refine blk_drewN ?_ _ | refine blk_drew ?_ | refine blk_alloc ?_ _)); refine blk_far ?_ NB271_286.out _; (with_reducible repeat (first | refine blk_drewN ?_ _ | refine blk_drew ?_ | refine blk_alloc ?_ _)); refine blk_far ?_ NB271_286.out _; (with_reducible repeat (first | refine blk_drewN ?_ _ | refine blk_drew ?_ | refine blk_alloc ?_ _)); refine blk_far ?_ NB271_286.out _; (with_reducible repeat (first | refine blk_drewN ?_ _ | refine blk_drew ?_ | refine blk_alloc ?_ _)); refine blk_far ?_ NB271_286.out _; (with_reducible repeat (first | refine blk_drewN ?_ _ | refine blk_drew ?_ | refine blk_alloc ?_ _)); exact BK271.out) NB271_0.out (by simp)); have n2_ := Aside0.mk (KeepBut.blk hk (g' := gb272) (o := .cells #[.int .i64 x273000_1, u273001] 36 (0, 0)) (by (with_reducible repeat (first | refine blk_drewN ?_ _ | refine blk_drew ?_ | refine blk_alloc ?_ _)); refine blk_far ?_ NB272_286.out _; (with_reducible repeat (first | refine blk_drewN ?_ _ | refine blk_drew ?_ | refine blk_alloc ?_ _)); refine blk_far ?_ NB272_286.out _; (with_reducible repeat (first | refine blk_drewN ?_ _ | refine blk_drew ?_ | refine blk_alloc ?_ _)); refine blk_far ?_ NB272_286.out _; (with_reducible repeat (first | refine blk_drewN ?_ _ | refine blk_drew ?_ | refine blk_alloc ?_ _)); refine blk_far ?_ NB272_286.out _; (with_reducible repeat (first | refine blk_drewN ?_ _ | refine blk_drew ?_ | refine blk_alloc ?_ _)); exact BK272.out) NB272_0.out (by simp)); have n3_ := Aside0.mk (KeepBut.blk hk (g' := gb286) (o := .cells #[.int .i64 t282, .int .i64 t284, .int .i64 t278, .int .i64 (wrap64 (-(wrap64 (1 + t280))))] 89 (0, 0)) (by (with_reducible repeat (first | refine blk_drewN ?_ _ | refine blk_drew ?_ | refine blk_alloc ?_ _)); refine blk_put (cs := #[.int .i64 t282, .int .i64 t284, .int .i64 t278, .int .i64 0]) ?_ 3 _ rfl; (with_reducible repeat (first | refine blk_drewN ?_ _ | refine blk_drew ?_ | refine blk_alloc ?_ _)); refine blk_put (cs := #[.int .i64 t282, .int .i64 t284, .int .i64 0, .int .i64 0]) ?_ 2 _ rfl; (with_reducible repeat (first | refine blk_drewN ?_ _ | refine blk_drew ?_ | refine blk_alloc ?_ _)); refine blk_put (cs := #[.int .i64 t282, .int .i64 0, .int .i64 0, .int .i64 0]) ?_ 1 _ rfl; (with_reducible repeat (first | refine blk_drewN ?_ _ | refine blk_drew ?_ | refine blk_alloc ?_ _)); refine blk_put (cs := #[.int .i64 0, .int .i64 0, .int .i64 0, .int .i64 0]) ?_ 0 _ rfl; (with_reducible repeat (first | refine blk_drewN ?_ _ | refine blk_drew ?_ | refine blk_alloc ?_ _)); exact BK286.out) NB286_0.out (by simp)); have n4_ := Aside0.mk (KeepBut.trans q_K hk (.inl rfl)); have n5_ := Aside0.mk (hb); have n6_ := Aside0.mk (hi); revert n0_ n1_ n2_ n3_ n4_ n5_ n6_; clear HO_273001 BK271 BK272 BK286 HK HB HI0; intro HO_273001 BK271 BK272 BK286 HK HB HI0; (try clear hb); (try clear hb2); (try clear hk); (try clear hi)) | ((with_reducible refine gate_callee (f := 121) rfl ?_); refine goesLq (some 37) rfl rfl Try.func121 (by kernel_rfl) rfl #[.pointer (some ⟨g, 0, none⟩), .int .i64 4] rfl ?_; (with_reducible refine (spec_l1Next.calls g s0_0 t288 4 t289 t290 w0 _ ?side1 ?side2 A16.out).mono ?_); (case side1 => repeat (first | (with_reducible first | exact HI0.out | apply IsS130.alloc | apply IsS130.drewN | apply IsS130.drew | apply IsS130.set_1 | refine IsS130.far ?_ NB0_271.out _ | refine IsS130.far ?_ NB0_272.out _ | refine IsS130.far ?_ NB0_286.out _) | exact HI0.out)); (case side2 => repeat (first | (with_reducible first | exact HB.out | apply below_alloc | apply pw_below_drewN | apply below_drew1 | refine below_set ?_ (IsS130.ge HI0.out) | refine below_set ?_ GE271.out | refine below_set ?_ GE272.out | refine below_set ?_ GE286.out) | exact HB.out)); rintro e w31 ⟨rfl, hi, hb, hk⟩; refine ⟨_, rfl, ?_⟩; have n0_ := Aside0.mk (Kd.R_mono (Kd.R_keep (IsS130.apart (show IsS130 w0 _ g s0_0 t288 from q_I130_0_1) (q_r (HO_273001.out)) (by decide)) hk (fun _ h => h.2)) (fun _ h => h.1)); have n1_ := Aside0.mk (KeepBut.blk hk (g' := gb271) (o := .cells #[.int .i64 0, .slice none 0 0] 36 (0, 0)) kq NB271_0.out (by simp)); have n2_ := Aside0.mk (KeepBut.blk hk (g' := gb272) (o := .cells #[.int .i64 x273000_1, u273001] 36 (0, 0)) kq NB272_0.out (by simp)); have n3_ := Aside0.mk (KeepBut.blk hk (g' := gb286) (o := .cells #[.int .i64 t282, .int .i64 t284, .int .i64 t278, .int .i64 (wrap64 (-(wrap64 (1 + t280))))] 89 (0, 0)) kq NB286_0.out (by simp)); have n4_ := Aside0.mk (KeepBut.trans q_K hk (.inl rfl)); have n5_ := Aside0.mk (hb); have n6_ := Aside0.mk (hi); revert n0_ n1_ n2_ n3_ n4_ n5_ n6_; clear HO_273001 BK271 BK272 BK286 HK HB HI0; intro HO_273001 BK271 BK272 BK286 HK HB HI0; (try clear hb); (try clear hb2); (try clear hk); (try clear hi)) | ((with_reducible refine gate_dst (N := 10) rfl ?_); refine q_box (N := 10) (cs := #[.int .i64 0, .int .i64 0, .int .i64 0, .int .i64 0]) (t := 89) ?_; intro gb291 hg w32 hbox hb; have n0_ := Aside0.mk (Kd.R_below (Kd.R_elderB (q_r (HO_273001.out)) gb291 (Nat.le_of_eq hg.symm)) hb); have n1_ := Aside0.mk (blk_below (q_b BK271.out) hb); have n2_ := Aside0.mk (blk_below (q_b BK272.out) hb); have n3_ := Aside0.mk (IsS130.below q_I130_0_1 hb); have n4_ := Aside0.mk (blk_below (q_b BK286.out) hb); have n5_ := Aside0.mk (KeepBut.trans q_K (KeepBut.of_below hb g none) (.inl rfl)); have n6_ := Aside0.mk (below_step q_B130_0 hb); have n7_ := Aside0.mk (hbox); have n8_ := Aside0.mk ((by rw [hg]; exact (keep_size (w := w) (g := g) (row := none) q_K) : w.heap.size ≤ gb291)); have n9_ := Aside0.mk ((Nat.le_trans HW0.out (by rw [hg]; exact (keep_size (w := w) (g := g) (row := none) q_K) : w.heap.size ≤ gb291) : w0.heap.size ≤ gb291)); have n10_ := Aside0.mk ((q_n hg (q_b BK271.out) : gb271 ≠ gb291)); have n11_ := Aside0.mk ((q_m hg (q_b BK271.out) : gb291 ≠ gb271)); have n12_ := Aside0.mk ((q_n hg (q_b BK272.out) : gb272 ≠ gb291)); have n13_ := Aside0.mk ((q_m hg (q_b BK272.out) : gb291 ≠ gb272)); have n14_ := Aside0.mk ((q_n hg (q_b BK286.out) : gb286 ≠ gb291)); have n15_ := Aside0.mk ((q_m hg (q_b BK286.out) : gb291 ≠ gb286)); have n16_ := Aside0.mk ((by rw [hg]; exact Nat.ne_of_lt (IsS130.lt (show IsS130 w0 _ g s0_0 t290 from q_I130_0_1)) : g ≠ gb291)); have n17_ := Aside0.mk ((by rw [hg]; exact Nat.ne_of_gt (IsS130.lt (show IsS130 w0 _ g s0_0 t290 from q_I130_0_1)) : gb291 ≠ g)); revert n0_ n1_ n2_ n3_ n4_ n5_ n6_ n7_ n8_ n9_ n10_ n11_ n12_ n13_ n14_ n15_ n16_ n17_; clear HO_273001 BK271 BK272 HI0 BK286 HK HB; intro HO_273001 BK271 BK272 HI0 BK286 HK HB BK291 GW291 GE291 NB271_291 NB291_271 NB272_291 NB291_272 NB286_291 NB291_286 NB0_291 NB291_0; clear hb hbox hg; have hnb33 := NB291_271.out; have hnc33 := NB271_291.out; have hnb34 := NB291_272.out; have hnc34 := NB272_291.out; have hnb35 := NB291_286.out; have hnc35 := NB286_291.out; have hnb36 := NB291_0.out; have hnc36 := NB0_291.out; obtain ⟨hcz37_0, hcz37_1, hcz37_2, hcz37_3, hfz37_0, hfz37_1, hfz37_2, hfz37_3⟩ := q_4 BK291.out; obtain ⟨Ao38, co38, eo38⟩ := Kd.R_slice HO_273001.out; subst eo38))
      have n0_ : Aside0 (Kd.R k89 89 ((((w32.setCell ⟨gb291, 0, none⟩ (.int .i64 t287)).setCell ⟨gb291, 1, none⟩ (.int .i64 t289)).setCell ⟨gb291, 2, none⟩ (.int .i64 t278)).setCell ⟨gb291, 3, none⟩ (.int .i64 (wrap64 (1 + t280)))) w.heap.size (fun k_ => k_ ≠ gb286 ∧ k_ ≠ gb291) (.slice Ao38 x273001_1.length co38) x273001_1) := ⟨by (with_reducible repeat (first | apply Kd.R_alloc | apply Kd.R_drewN | apply Kd.R_drew)); exact Kd.R_mono (Kd.R_far (p := ⟨gb291, 3, none⟩) (Kd.R_far (p := ⟨gb291, 2, none⟩) (Kd.R_far (p := ⟨gb291, 1, none⟩) (Kd.R_far (p := ⟨gb291, 0, none⟩) (Kd.R_mono HO_273001.out (fun k_ hk => (⟨hk, hk.2⟩ : _ ∧ k_ ≠ gb291))) (fun _ hk => hk.2) (.int .i64 t287)) (fun _ hk => hk.2) (.int .i64 t289)) (fun _ hk => hk.2) (.int .i64 t278)) (fun _ hk => hk.2) (.int .i64 (wrap64 (1 + t280)))) (fun _ hk => ⟨hk.1.1.2, hk.1.2⟩)⟩
      have n1_ : Aside0 (((((w32.setCell ⟨gb291, 0, none⟩ (.int .i64 t287)).setCell ⟨gb291, 1, none⟩ (.int .i64 t289)).setCell ⟨gb291, 2, none⟩ (.int .i64 t278)).setCell ⟨gb291, 3, none⟩ (.int .i64 (wrap64 (1 + t280)))).heap[gb271]? = some (.cells #[.int .i64 0, .slice none 0 0] 36 (0, 0))) := ⟨by (with_reducible repeat (first | refine blk_drewN ?_ _ | refine blk_drew ?_ | refine blk_alloc ?_ _)); refine blk_far ?_ NB271_291.out _; (with_reducible repeat (first | refine blk_drewN ?_ _ | refine blk_drew ?_ | refine blk_alloc ?_ _)); refine blk_far ?_ NB271_291.out _; (with_reducible repeat (first | refine blk_drewN ?_ _ | refine blk_drew ?_ | refine blk_alloc ?_ _)); refine blk_far ?_ NB271_291.out _; (with_reducible repeat (first | refine blk_drewN ?_ _ | refine blk_drew ?_ | refine blk_alloc ?_ _)); refine blk_far ?_ NB271_291.out _; (with_reducible repeat (first | refine blk_drewN ?_ _ | refine blk_drew ?_ | refine blk_alloc ?_ _)); exact BK271.out⟩
      have n2_ : Aside0 (((((w32.setCell ⟨gb291, 0, none⟩ (.int .i64 t287)).setCell ⟨gb291, 1, none⟩ (.int .i64 t289)).setCell ⟨gb291, 2, none⟩ (.int .i64 t278)).setCell ⟨gb291, 3, none⟩ (.int .i64 (wrap64 (1 + t280)))).heap[gb272]? = some (.cells #[.int .i64 x273000_1, .slice Ao38 x273001_1.length co38] 36 (0, 0))) := ⟨by (with_reducible repeat (first | refine blk_drewN ?_ _ | refine blk_drew ?_ | refine blk_alloc ?_ _)); refine blk_far ?_ NB272_291.out _; (with_reducible repeat (first | refine blk_drewN ?_ _ | refine blk_drew ?_ | refine blk_alloc ?_ _)); refine blk_far ?_ NB272_291.out _; (with_reducible repeat (first | refine blk_drewN ?_ _ | refine blk_drew ?_ | refine blk_alloc ?_ _)); refine blk_far ?_ NB272_291.out _; (with_reducible repeat (first | refine blk_drewN ?_ _ | refine blk_drew ?_ | refine blk_alloc ?_ _)); refine blk_far ?_ NB272_291.out _; (with_reducible repeat (first | refine blk_drewN ?_ _ | refine blk_drew ?_ | refine blk_alloc ?_ _)); exact BK272.out⟩
      have n3_ : Aside0 (((((w32.setCell ⟨gb291, 0, none⟩ (.int .i64 t287)).setCell ⟨gb291, 1, none⟩ (.int .i64 t289)).setCell ⟨gb291, 2, none⟩ (.int .i64 t278)).setCell ⟨gb291, 3, none⟩ (.int .i64 (wrap64 (1 + t280)))).heap[gb286]? = some (.cells #[.int .i64 t282, .int .i64 t284, .int .i64 t278, .int .i64 (wrap64 (-(wrap64 (1 + t280))))] 89 (0, 0))) := ⟨by (with_reducible repeat (first | refine blk_drewN ?_ _ | refine blk_drew ?_ | refine blk_alloc ?_ _)); refine blk_far ?_ NB286_291.out _; (with_reducible repeat (first | refine blk_drewN ?_ _ | refine blk_drew ?_ | refine blk_alloc ?_ _)); refine blk_far ?_ NB286_291.out _; (with_reducible repeat (first | refine blk_drewN ?_ _ | refine blk_drew ?_ | refine blk_alloc ?_ _)); refine blk_far ?_ NB286_291.out _; (with_reducible repeat (first | refine blk_drewN ?_ _ | refine blk_drew ?_ | refine blk_alloc ?_ _)); refine blk_far ?_ NB286_291.out _; (with_reducible repeat (first | refine blk_drewN ?_ _ | refine blk_drew ?_ | refine blk_alloc ?_ _)); exact BK286.out⟩
      have n4_ : Aside0 (((((w32.setCell ⟨gb291, 0, none⟩ (.int .i64 t287)).setCell ⟨gb291, 1, none⟩ (.int .i64 t289)).setCell ⟨gb291, 2, none⟩ (.int .i64 t278)).setCell ⟨gb291, 3, none⟩ (.int .i64 (wrap64 (1 + t280)))).heap[gb291]? = some (.cells #[.int .i64 t287, .int .i64 t289, .int .i64 t278, .int .i64 (wrap64 (1 + t280))] 89 (0, 0))) := ⟨by (with_reducible repeat (first | refine blk_drewN ?_ _ | refine blk_drew ?_ | refine blk_alloc ?_ _)); refine blk_put (cs := #[.int .i64 t287, .int .i64 t289, .int .i64 t278, .int .i64 0]) ?_ 3 _ rfl; (with_reducible repeat (first | refine blk_drewN ?_ _ | refine blk_drew ?_ | refine blk_alloc ?_ _)); refine blk_put (cs := #[.int .i64 t287, .int .i64 t289, .int .i64 0, .int .i64 0]) ?_ 2 _ rfl; (with_reducible repeat (first | refine blk_drewN ?_ _ | refine blk_drew ?_ | refine blk_alloc ?_ _)); refine blk_put (cs := #[.int .i64 t287, .int .i64 0, .int .i64 0, .int .i64 0]) ?_ 1 _ rfl; (with_reducible repeat (first | refine blk_drewN ?_ _ | refine blk_drew ?_ | refine blk_alloc ?_ _)); refine blk_put (cs := #[.int .i64 0, .int .i64 0, .int .i64 0, .int .i64 0]) ?_ 0 _ rfl; (with_reducible repeat (first | refine blk_drewN ?_ _ | refine blk_drew ?_ | refine blk_alloc ?_ _)); exact BK291.out⟩
      have n5_ : Aside0 (IsS130 w0 ((((w32.setCell ⟨gb291, 0, none⟩ (.int .i64 t287)).setCell ⟨gb291, 1, none⟩ (.int .i64 t289)).setCell ⟨gb291, 2, none⟩ (.int .i64 t278)).setCell ⟨gb291, 3, none⟩ (.int .i64 (wrap64 (1 + t280)))) g s0_0 t290) := ⟨q_I130_0_1⟩
      have n6_ : Aside0 (KeepBut w ((((w32.setCell ⟨gb291, 0, none⟩ (.int .i64 t287)).setCell ⟨gb291, 1, none⟩ (.int .i64 t289)).setCell ⟨gb291, 2, none⟩ (.int .i64 t278)).setCell ⟨gb291, 3, none⟩ (.int .i64 (wrap64 (1 + t280)))) g none) := ⟨q_K⟩
      have n7_ : Aside0 (Below w0.heap.size w0 ((((w32.setCell ⟨gb291, 0, none⟩ (.int .i64 t287)).setCell ⟨gb291, 1, none⟩ (.int .i64 t289)).setCell ⟨gb291, 2, none⟩ (.int .i64 t278)).setCell ⟨gb291, 3, none⟩ (.int .i64 (wrap64 (1 + t280))))) := ⟨q_B130_0⟩
      (try clear HO_273001)
      (try clear BK271)
      (try clear BK272)
      (try clear BK286)
      (try clear BK291)
      (try clear HI0)
      (try clear HK)
      (try clear HB)
      generalize ((((w32.setCell ⟨gb291, 0, none⟩ (.int .i64 t287)).setCell ⟨gb291, 1, none⟩ (.int .i64 t289)).setCell ⟨gb291, 2, none⟩ (.int .i64 t278)).setCell ⟨gb291, 3, none⟩ (.int .i64 (wrap64 (1 + t280)))) = w39 at n0_ n1_ n2_ n3_ n4_ n5_ n6_ n7_ ⊢
      have HO_273001 := n0_
      have BK271 := n1_
      have BK272 := n2_
      have BK286 := n3_
      have BK291 := n4_
      have HI0 := n5_
      have HK := n6_
      have HB := n7_
      clear n0_ n1_ n2_ n3_ n4_ n5_ n6_ n7_
      have n0_ := Aside0.mk (Kd.R_drew HO_273001.out)
      have n1_ := Aside0.mk (blk_drew BK271.out)
      have n2_ := Aside0.mk (blk_drew BK272.out)
      have n3_ := Aside0.mk (blk_drew BK286.out)
      have n4_ := Aside0.mk (blk_drew BK291.out)
      have n5_ := Aside0.mk (IsS130.drew HI0.out)
      have n6_ := Aside0.mk (keep_drew HK.out)
      have n7_ := Aside0.mk (below_drew1 HB.out)
      clear HO_273001
      clear BK271
      clear BK272
      clear BK286
      clear BK291
      clear HI0
      clear HK
      clear HB
      have HO_273001 := n0_
      have BK271 := n1_
      have BK272 := n2_
      have BK286 := n3_
      have BK291 := n4_
      have HI0 := n5_
      have HK := n6_
      have HB := n7_
      clear n0_ n1_ n2_ n3_ n4_ n5_ n6_ n7_
      refine start_ (n := 12) (S := fun w' => w'.cell? ⟨gb272, 0, none⟩ = some (.int .i64 x273000_1) ∧ w'.cell? ⟨gb272, 1, none⟩ = some (.slice Ao38 x273001_1.length co38) ∧ w'.cell? ⟨gb286, 0, none⟩ = some (.int .i64 t282) ∧ w'.cell? ⟨gb286, 1, none⟩ = some (.int .i64 t284) ∧ w'.cell? ⟨gb286, 2, none⟩ = some (.int .i64 t278) ∧ w'.cell? ⟨gb286, 3, none⟩ = some (.int .i64 (wrap64 (-(wrap64 (1 + t280))))) ∧ w'.cell? ⟨gb291, 0, none⟩ = some (.int .i64 t287) ∧ w'.cell? ⟨gb291, 1, none⟩ = some (.int .i64 t289) ∧ w'.cell? ⟨gb291, 2, none⟩ = some (.int .i64 t278) ∧ w'.cell? ⟨gb291, 3, none⟩ = some (.int .i64 (wrap64 (1 + t280)))) (ds := []) #[false, false, false, false, false, false, false, false, false, false, false, false] (by kernel_rfl) rfl rfl ⟨q_z BK272.out 0, q_z BK272.out 1, q_z BK286.out 0, q_z BK286.out 1, q_z BK286.out 2, q_z BK286.out 3, q_z BK291.out 0, q_z BK291.out 1, q_z BK291.out 2, q_z BK291.out 3⟩ (fun hHeld => ?_); refine with_tabW spec_l1Draw.tab9 spec_l1Draw.bits9 (fun HT_ HW_ => ?_)
      generalize w39.drew = w40 at HO_273001 BK271 BK272 BK286 BK291 HI0 HK HB hHeld ⊢
      refine q_p 0 (some 41) #[true, false, false, false, false, false, false, false, false, false, false, false] HT_.out ?_
      refine q_p 2 (some 43) #[true, false, true, false, false, false, false, false, false, false, false, false] HT_.out ?_
      refine q_t 3 (some 44) #[true, false, true, true, false, false, false, false, false, false, false, false] HT_.out HW_.out hHeld ?_
      refine q_t 5 (some 46) #[true, false, true, true, false, true, false, false, false, false, false, false] HT_.out HW_.out hHeld ?_
      refine q_t 6 (some 47) #[true, false, true, true, false, true, true, false, false, false, false, false] HT_.out HW_.out hHeld ?_
      refine join_ (σ := Value × Value × Value × Value × Nat) 1 #[true, true, true, true, true, true, true, true, true, true, true, false] (fun s_ => [(42, s_.1), (45, s_.2.1), (48, s_.2.2.1), (49, s_.2.2.2.1), (11, .pointer (some ⟨s_.2.2.2.2, 0, none⟩)), (50, .agg #[.int .i64 a1, s_.2.2.2.1])]) (fun s_ w' => (w'.cell? ⟨gb272, 0, none⟩ = some (.int .i64 x273000_1) ∧ w'.cell? ⟨gb272, 1, none⟩ = some (.slice Ao38 x273001_1.length co38) ∧ w'.cell? ⟨gb286, 0, none⟩ = some (.int .i64 t282) ∧ w'.cell? ⟨gb286, 1, none⟩ = some (.int .i64 t284) ∧ w'.cell? ⟨gb286, 2, none⟩ = some (.int .i64 t278) ∧ w'.cell? ⟨gb286, 3, none⟩ = some (.int .i64 (wrap64 (-(wrap64 (1 + t280))))) ∧ w'.cell? ⟨gb291, 0, none⟩ = some (.int .i64 t287) ∧ w'.cell? ⟨gb291, 1, none⟩ = some (.int .i64 t289) ∧ w'.cell? ⟨gb291, 2, none⟩ = some (.int .i64 t278) ∧ w'.cell? ⟨gb291, 3, none⟩ = some (.int .i64 (wrap64 (1 + t280)))) ∧ (Kd.R k89 89 w' w.heap.size (fun k_ => some k_ ≠ (s_.2.2.2.1 : Value).ownBlock ∧ some k_ ≠ (.slice Ao38 x273001_1.length co38 : Value).ownBlock ∧ k_ ≠ gb286 ∧ k_ ≠ gb291) s_.2.2.1 y298) ∧ (Kd.R k89 89 w' w.heap.size (fun k_ => some k_ ≠ (s_.2.2.1 : Value).ownBlock ∧ some k_ ≠ (.slice Ao38 x273001_1.length co38 : Value).ownBlock ∧ k_ ≠ gb286 ∧ k_ ≠ gb291) s_.2.2.2.1 y301) ∧ (Kd.R k89 89 w' w.heap.size (fun k_ => some k_ ≠ (s_.2.2.1 : Value).ownBlock ∧ some k_ ≠ (s_.2.2.2.1 : Value).ownBlock ∧ k_ ≠ gb286 ∧ k_ ≠ gb291) (.slice Ao38 x273001_1.length co38) x273001_1) ∧ (w'.heap[gb271]? = some (.cells #[.int .i64 0, .slice none 0 0] 36 (0, 0))) ∧ (w'.heap[gb272]? = some (.cells #[.int .i64 x273000_1, .slice Ao38 x273001_1.length co38] 36 (0, 0))) ∧ (w'.heap[gb286]? = some (.cells #[.int .i64 t282, .int .i64 t284, .int .i64 t278, .int .i64 (wrap64 (-(wrap64 (1 + t280))))] 89 (0, 0))) ∧ (w'.heap[gb291]? = some (.cells #[.int .i64 t287, .int .i64 t289, .int .i64 t278, .int .i64 (wrap64 (1 + t280))] 89 (0, 0))) ∧ (w'.heap[s_.2.2.2.2]? = some (.cells #[.int .i64 0, .slice none 0 0] 36 (0, 0))) ∧ (w.heap.size ≤ s_.2.2.2.2) ∧ (w0.heap.size ≤ s_.2.2.2.2) ∧ (g ≠ s_.2.2.2.2) ∧ (s_.2.2.2.2 ≠ g) ∧ (gb271 ≠ s_.2.2.2.2) ∧ (s_.2.2.2.2 ≠ gb271) ∧ (gb272 ≠ s_.2.2.2.2) ∧ (s_.2.2.2.2 ≠ gb272) ∧ (gb286 ≠ s_.2.2.2.2) ∧ (s_.2.2.2.2 ≠ gb286) ∧ (gb291 ≠ s_.2.2.2.2) ∧ (s_.2.2.2.2 ≠ gb291) ∧ (IsS130 w0 w' g s0_0 t290) ∧ (KeepBut w w' g none) ∧ (Below w0.heap.size w0 w')) ?_ ?_
      rotate_left
      ·intro hJ1_4_7_8_10
       refine join_ (σ := Value × Value × Value × Value) 2 #[true, true, true, true, true, true, true, true, true, true, false, false] (fun s_ => [(42, s_.1), (45, s_.2.1), (48, s_.2.2.1), (49, s_.2.2.2), (50, .agg #[.int .i64 a1, s_.2.2.2])]) (fun s_ w' => (w'.cell? ⟨gb272, 0, none⟩ = some (.int .i64 x273000_1) ∧ w'.cell? ⟨gb272, 1, none⟩ = some (.slice Ao38 x273001_1.length co38) ∧ w'.cell? ⟨gb286, 0, none⟩ = some (.int .i64 t282) ∧ w'.cell? ⟨gb286, 1, none⟩ = some (.int .i64 t284) ∧ w'.cell? ⟨gb286, 2, none⟩ = some (.int .i64 t278) ∧ w'.cell? ⟨gb286, 3, none⟩ = some (.int .i64 (wrap64 (-(wrap64 (1 + t280))))) ∧ w'.cell? ⟨gb291, 0, none⟩ = some (.int .i64 t287) ∧ w'.cell? ⟨gb291, 1, none⟩ = some (.int .i64 t289) ∧ w'.cell? ⟨gb291, 2, none⟩ = some (.int .i64 t278) ∧ w'.cell? ⟨gb291, 3, none⟩ = some (.int .i64 (wrap64 (1 + t280)))) ∧ (Kd.R k89 89 w' w.heap.size (fun k_ => some k_ ≠ (s_.2.2.2 : Value).ownBlock ∧ some k_ ≠ (.slice Ao38 x273001_1.length co38 : Value).ownBlock ∧ k_ ≠ gb286 ∧ k_ ≠ gb291) s_.2.2.1 y298) ∧ (Kd.R k89 89 w' w.heap.size (fun k_ => some k_ ≠ (s_.2.2.1 : Value).ownBlock ∧ some k_ ≠ (.slice Ao38 x273001_1.length co38 : Value).ownBlock ∧ k_ ≠ gb286 ∧ k_ ≠ gb291) s_.2.2.2 y301) ∧ (Kd.R k89 89 w' w.heap.size (fun k_ => some k_ ≠ (s_.2.2.1 : Value).ownBlock ∧ some k_ ≠ (s_.2.2.2 : Value).ownBlock ∧ k_ ≠ gb286 ∧ k_ ≠ gb291) (.slice Ao38 x273001_1.length co38) x273001_1) ∧ (w'.heap[gb271]? = some (.cells #[.int .i64 0, .slice none 0 0] 36 (0, 0))) ∧ (w'.heap[gb272]? = some (.cells #[.int .i64 x273000_1, .slice Ao38 x273001_1.length co38] 36 (0, 0))) ∧ (w'.heap[gb286]? = some (.cells #[.int .i64 t282, .int .i64 t284, .int .i64 t278, .int .i64 (wrap64 (-(wrap64 (1 + t280))))] 89 (0, 0))) ∧ (w'.heap[gb291]? = some (.cells #[.int .i64 t287, .int .i64 t289, .int .i64 t278, .int .i64 (wrap64 (1 + t280))] 89 (0, 0))) ∧ (IsS130 w0 w' g s0_0 t290) ∧ (KeepBut w w' g none) ∧ (Below w0.heap.size w0 w')) ?_ ?_
       rotate_left
       ·intro hJ1_4_7_8
        refine join_ (σ := Value × Value × Value × Nat) 3 #[true, true, true, true, true, true, true, true, false, false, true, false] (fun s_ => [(42, s_.1), (45, s_.2.1), (48, s_.2.2.1), (11, .pointer (some ⟨s_.2.2.2, 0, none⟩))]) (fun s_ w' => (w'.cell? ⟨gb272, 0, none⟩ = some (.int .i64 x273000_1) ∧ w'.cell? ⟨gb272, 1, none⟩ = some (.slice Ao38 x273001_1.length co38) ∧ w'.cell? ⟨gb286, 0, none⟩ = some (.int .i64 t282) ∧ w'.cell? ⟨gb286, 1, none⟩ = some (.int .i64 t284) ∧ w'.cell? ⟨gb286, 2, none⟩ = some (.int .i64 t278) ∧ w'.cell? ⟨gb286, 3, none⟩ = some (.int .i64 (wrap64 (-(wrap64 (1 + t280))))) ∧ w'.cell? ⟨gb291, 0, none⟩ = some (.int .i64 t287) ∧ w'.cell? ⟨gb291, 1, none⟩ = some (.int .i64 t289) ∧ w'.cell? ⟨gb291, 2, none⟩ = some (.int .i64 t278) ∧ w'.cell? ⟨gb291, 3, none⟩ = some (.int .i64 (wrap64 (1 + t280)))) ∧ (Kd.R k89 89 w' w.heap.size (fun k_ => some k_ ≠ (s_.2.2.1 : Value).ownBlock ∧ some k_ ≠ (.slice Ao38 x273001_1.length co38 : Value).ownBlock ∧ k_ ≠ gb286 ∧ k_ ≠ gb291) s_.2.1 y295) ∧ (Kd.R k89 89 w' w.heap.size (fun k_ => some k_ ≠ (s_.2.1 : Value).ownBlock ∧ some k_ ≠ (.slice Ao38 x273001_1.length co38 : Value).ownBlock ∧ k_ ≠ gb286 ∧ k_ ≠ gb291) s_.2.2.1 y298) ∧ (Kd.R k89 89 w' w.heap.size (fun k_ => some k_ ≠ (s_.2.1 : Value).ownBlock ∧ some k_ ≠ (s_.2.2.1 : Value).ownBlock ∧ k_ ≠ gb286 ∧ k_ ≠ gb291) (.slice Ao38 x273001_1.length co38) x273001_1) ∧ (w'.heap[gb271]? = some (.cells #[.int .i64 0, .slice none 0 0] 36 (0, 0))) ∧ (w'.heap[gb272]? = some (.cells #[.int .i64 x273000_1, .slice Ao38 x273001_1.length co38] 36 (0, 0))) ∧ (w'.heap[gb286]? = some (.cells #[.int .i64 t282, .int .i64 t284, .int .i64 t278, .int .i64 (wrap64 (-(wrap64 (1 + t280))))] 89 (0, 0))) ∧ (w'.heap[gb291]? = some (.cells #[.int .i64 t287, .int .i64 t289, .int .i64 t278, .int .i64 (wrap64 (1 + t280))] 89 (0, 0))) ∧ (w'.heap[s_.2.2.2]? = some (.cells #[.int .i64 0, .slice none 0 0] 36 (0, 0))) ∧ (w.heap.size ≤ s_.2.2.2) ∧ (w0.heap.size ≤ s_.2.2.2) ∧ (g ≠ s_.2.2.2) ∧ (s_.2.2.2 ≠ g) ∧ (gb271 ≠ s_.2.2.2) ∧ (s_.2.2.2 ≠ gb271) ∧ (gb272 ≠ s_.2.2.2) ∧ (s_.2.2.2 ≠ gb272) ∧ (gb286 ≠ s_.2.2.2) ∧ (s_.2.2.2 ≠ gb286) ∧ (gb291 ≠ s_.2.2.2) ∧ (s_.2.2.2 ≠ gb291) ∧ (IsS130 w0 w' g s0_0 t290) ∧ (KeepBut w w' g none) ∧ (Below w0.heap.size w0 w')) ?_ ?_
        rotate_left
        ·intro hJ1_4_7_10
         refine join_ (σ := Value × Value × Value) 4 #[true, true, true, true, true, true, true, true, false, false, false, false] (fun s_ => [(42, s_.1), (45, s_.2.1), (48, s_.2.2)]) (fun s_ w' => (w'.cell? ⟨gb272, 0, none⟩ = some (.int .i64 x273000_1) ∧ w'.cell? ⟨gb272, 1, none⟩ = some (.slice Ao38 x273001_1.length co38) ∧ w'.cell? ⟨gb286, 0, none⟩ = some (.int .i64 t282) ∧ w'.cell? ⟨gb286, 1, none⟩ = some (.int .i64 t284) ∧ w'.cell? ⟨gb286, 2, none⟩ = some (.int .i64 t278) ∧ w'.cell? ⟨gb286, 3, none⟩ = some (.int .i64 (wrap64 (-(wrap64 (1 + t280))))) ∧ w'.cell? ⟨gb291, 0, none⟩ = some (.int .i64 t287) ∧ w'.cell? ⟨gb291, 1, none⟩ = some (.int .i64 t289) ∧ w'.cell? ⟨gb291, 2, none⟩ = some (.int .i64 t278) ∧ w'.cell? ⟨gb291, 3, none⟩ = some (.int .i64 (wrap64 (1 + t280)))) ∧ (Kd.R k89 89 w' w.heap.size (fun k_ => some k_ ≠ (s_.2.2 : Value).ownBlock ∧ some k_ ≠ (.slice Ao38 x273001_1.length co38 : Value).ownBlock ∧ k_ ≠ gb286 ∧ k_ ≠ gb291) s_.2.1 y295) ∧ (Kd.R k89 89 w' w.heap.size (fun k_ => some k_ ≠ (s_.2.1 : Value).ownBlock ∧ some k_ ≠ (.slice Ao38 x273001_1.length co38 : Value).ownBlock ∧ k_ ≠ gb286 ∧ k_ ≠ gb291) s_.2.2 y298) ∧ (Kd.R k89 89 w' w.heap.size (fun k_ => some k_ ≠ (s_.2.1 : Value).ownBlock ∧ some k_ ≠ (s_.2.2 : Value).ownBlock ∧ k_ ≠ gb286 ∧ k_ ≠ gb291) (.slice Ao38 x273001_1.length co38) x273001_1) ∧ (w'.heap[gb271]? = some (.cells #[.int .i64 0, .slice none 0 0] 36 (0, 0))) ∧ (w'.heap[gb272]? = some (.cells #[.int .i64 x273000_1, .slice Ao38 x273001_1.length co38] 36 (0, 0))) ∧ (w'.heap[gb286]? = some (.cells #[.int .i64 t282, .int .i64 t284, .int .i64 t278, .int .i64 (wrap64 (-(wrap64 (1 + t280))))] 89 (0, 0))) ∧ (w'.heap[gb291]? = some (.cells #[.int .i64 t287, .int .i64 t289, .int .i64 t278, .int .i64 (wrap64 (1 + t280))] 89 (0, 0))) ∧ (IsS130 w0 w' g s0_0 t290) ∧ (KeepBut w w' g none) ∧ (Below w0.heap.size w0 w')) ?_ ?_
         rotate_left
         ·intro hJ1_4_7
          refine join_ (σ := Value × Value × Nat) 4 #[true, true, true, true, true, true, true, false, false, false, true, false] (fun s_ => [(42, s_.1), (45, s_.2.1), (11, .pointer (some ⟨s_.2.2, 0, none⟩))]) (fun s_ w' => (w'.cell? ⟨gb272, 0, none⟩ = some (.int .i64 x273000_1) ∧ w'.cell? ⟨gb272, 1, none⟩ = some (.slice Ao38 x273001_1.length co38) ∧ w'.cell? ⟨gb286, 0, none⟩ = some (.int .i64 t282) ∧ w'.cell? ⟨gb286, 1, none⟩ = some (.int .i64 t284) ∧ w'.cell? ⟨gb286, 2, none⟩ = some (.int .i64 t278) ∧ w'.cell? ⟨gb286, 3, none⟩ = some (.int .i64 (wrap64 (-(wrap64 (1 + t280))))) ∧ w'.cell? ⟨gb291, 0, none⟩ = some (.int .i64 t287) ∧ w'.cell? ⟨gb291, 1, none⟩ = some (.int .i64 t289) ∧ w'.cell? ⟨gb291, 2, none⟩ = some (.int .i64 t278) ∧ w'.cell? ⟨gb291, 3, none⟩ = some (.int .i64 (wrap64 (1 + t280)))) ∧ (Kd.R k89 89 w' w.heap.size (fun k_ => some k_ ≠ (.slice Ao38 x273001_1.length co38 : Value).ownBlock ∧ k_ ≠ gb286 ∧ k_ ≠ gb291) s_.2.1 y295) ∧ (Kd.R k89 89 w' w.heap.size (fun k_ => some k_ ≠ (s_.2.1 : Value).ownBlock ∧ k_ ≠ gb286 ∧ k_ ≠ gb291) (.slice Ao38 x273001_1.length co38) x273001_1) ∧ (w'.heap[gb271]? = some (.cells #[.int .i64 0, .slice none 0 0] 36 (0, 0))) ∧ (w'.heap[gb272]? = some (.cells #[.int .i64 x273000_1, .slice Ao38 x273001_1.length co38] 36 (0, 0))) ∧ (w'.heap[gb286]? = some (.cells #[.int .i64 t282, .int .i64 t284, .int .i64 t278, .int .i64 (wrap64 (-(wrap64 (1 + t280))))] 89 (0, 0))) ∧ (w'.heap[gb291]? = some (.cells #[.int .i64 t287, .int .i64 t289, .int .i64 t278, .int .i64 (wrap64 (1 + t280))] 89 (0, 0))) ∧ (w'.heap[s_.2.2]? = some (.cells #[.int .i64 0, .slice none 0 0] 36 (0, 0))) ∧ (w.heap.size ≤ s_.2.2) ∧ (w0.heap.size ≤ s_.2.2) ∧ (g ≠ s_.2.2) ∧ (s_.2.2 ≠ g) ∧ (gb271 ≠ s_.2.2) ∧ (s_.2.2 ≠ gb271) ∧ (gb272 ≠ s_.2.2) ∧ (s_.2.2 ≠ gb272) ∧ (gb286 ≠ s_.2.2) ∧ (s_.2.2 ≠ gb286) ∧ (gb291 ≠ s_.2.2) ∧ (s_.2.2 ≠ gb291) ∧ (IsS130 w0 w' g s0_0 t290) ∧ (KeepBut w w' g none) ∧ (Below w0.heap.size w0 w')) ?_ ?_
          rotate_left
          ·intro hJ1_4_10
           refine join_ (σ := Value × Value × Nat) 4 #[true, true, true, true, false, true, true, true, false, false, true, false] (fun s_ => [(42, s_.1), (48, s_.2.1), (11, .pointer (some ⟨s_.2.2, 0, none⟩))]) (fun s_ w' => (w'.cell? ⟨gb272, 0, none⟩ = some (.int .i64 x273000_1) ∧ w'.cell? ⟨gb272, 1, none⟩ = some (.slice Ao38 x273001_1.length co38) ∧ w'.cell? ⟨gb286, 0, none⟩ = some (.int .i64 t282) ∧ w'.cell? ⟨gb286, 1, none⟩ = some (.int .i64 t284) ∧ w'.cell? ⟨gb286, 2, none⟩ = some (.int .i64 t278) ∧ w'.cell? ⟨gb286, 3, none⟩ = some (.int .i64 (wrap64 (-(wrap64 (1 + t280))))) ∧ w'.cell? ⟨gb291, 0, none⟩ = some (.int .i64 t287) ∧ w'.cell? ⟨gb291, 1, none⟩ = some (.int .i64 t289) ∧ w'.cell? ⟨gb291, 2, none⟩ = some (.int .i64 t278) ∧ w'.cell? ⟨gb291, 3, none⟩ = some (.int .i64 (wrap64 (1 + t280)))) ∧ (Kd.R k89 89 w' w.heap.size (fun k_ => some k_ ≠ (s_.2.1 : Value).ownBlock ∧ some k_ ≠ (.slice Ao38 x273001_1.length co38 : Value).ownBlock ∧ k_ ≠ gb286 ∧ k_ ≠ gb291) s_.1 y292) ∧ (Kd.R k89 89 w' w.heap.size (fun k_ => some k_ ≠ (s_.1 : Value).ownBlock ∧ some k_ ≠ (.slice Ao38 x273001_1.length co38 : Value).ownBlock ∧ k_ ≠ gb286 ∧ k_ ≠ gb291) s_.2.1 y298) ∧ (Kd.R k89 89 w' w.heap.size (fun k_ => some k_ ≠ (s_.1 : Value).ownBlock ∧ some k_ ≠ (s_.2.1 : Value).ownBlock ∧ k_ ≠ gb286 ∧ k_ ≠ gb291) (.slice Ao38 x273001_1.length co38) x273001_1) ∧ (w'.heap[gb271]? = some (.cells #[.int .i64 0, .slice none 0 0] 36 (0, 0))) ∧ (w'.heap[gb272]? = some (.cells #[.int .i64 x273000_1, .slice Ao38 x273001_1.length co38] 36 (0, 0))) ∧ (w'.heap[gb286]? = some (.cells #[.int .i64 t282, .int .i64 t284, .int .i64 t278, .int .i64 (wrap64 (-(wrap64 (1 + t280))))] 89 (0, 0))) ∧ (w'.heap[gb291]? = some (.cells #[.int .i64 t287, .int .i64 t289, .int .i64 t278, .int .i64 (wrap64 (1 + t280))] 89 (0, 0))) ∧ (w'.heap[s_.2.2]? = some (.cells #[.int .i64 0, .slice none 0 0] 36 (0, 0))) ∧ (w.heap.size ≤ s_.2.2) ∧ (w0.heap.size ≤ s_.2.2) ∧ (g ≠ s_.2.2) ∧ (s_.2.2 ≠ g) ∧ (gb271 ≠ s_.2.2) ∧ (s_.2.2 ≠ gb271) ∧ (gb272 ≠ s_.2.2) ∧ (s_.2.2 ≠ gb272) ∧ (gb286 ≠ s_.2.2) ∧ (s_.2.2 ≠ gb286) ∧ (gb291 ≠ s_.2.2) ∧ (s_.2.2 ≠ gb291) ∧ (IsS130 w0 w' g s0_0 t290) ∧ (KeepBut w w' g none) ∧ (Below w0.heap.size w0 w')) ?_ ?_
           rotate_left
           ·intro hJ1_7_10
            refine join_ (σ := Value × Value) 5 #[true, true, true, true, true, true, true, false, false, false, false, false] (fun s_ => [(42, s_.1), (45, s_.2)]) (fun s_ w' => (w'.cell? ⟨gb272, 0, none⟩ = some (.int .i64 x273000_1) ∧ w'.cell? ⟨gb272, 1, none⟩ = some (.slice Ao38 x273001_1.length co38) ∧ w'.cell? ⟨gb286, 0, none⟩ = some (.int .i64 t282) ∧ w'.cell? ⟨gb286, 1, none⟩ = some (.int .i64 t284) ∧ w'.cell? ⟨gb286, 2, none⟩ = some (.int .i64 t278) ∧ w'.cell? ⟨gb286, 3, none⟩ = some (.int .i64 (wrap64 (-(wrap64 (1 + t280))))) ∧ w'.cell? ⟨gb291, 0, none⟩ = some (.int .i64 t287) ∧ w'.cell? ⟨gb291, 1, none⟩ = some (.int .i64 t289) ∧ w'.cell? ⟨gb291, 2, none⟩ = some (.int .i64 t278) ∧ w'.cell? ⟨gb291, 3, none⟩ = some (.int .i64 (wrap64 (1 + t280)))) ∧ (Kd.R k89 89 w' w.heap.size (fun k_ => some k_ ≠ (.slice Ao38 x273001_1.length co38 : Value).ownBlock ∧ k_ ≠ gb286 ∧ k_ ≠ gb291) s_.2 y295) ∧ (Kd.R k89 89 w' w.heap.size (fun k_ => some k_ ≠ (s_.2 : Value).ownBlock ∧ k_ ≠ gb286 ∧ k_ ≠ gb291) (.slice Ao38 x273001_1.length co38) x273001_1) ∧ (w'.heap[gb271]? = some (.cells #[.int .i64 0, .slice none 0 0] 36 (0, 0))) ∧ (w'.heap[gb272]? = some (.cells #[.int .i64 x273000_1, .slice Ao38 x273001_1.length co38] 36 (0, 0))) ∧ (w'.heap[gb286]? = some (.cells #[.int .i64 t282, .int .i64 t284, .int .i64 t278, .int .i64 (wrap64 (-(wrap64 (1 + t280))))] 89 (0, 0))) ∧ (w'.heap[gb291]? = some (.cells #[.int .i64 t287, .int .i64 t289, .int .i64 t278, .int .i64 (wrap64 (1 + t280))] 89 (0, 0))) ∧ (IsS130 w0 w' g s0_0 t290) ∧ (KeepBut w w' g none) ∧ (Below w0.heap.size w0 w')) ?_ ?_
            rotate_left
            ·intro hJ1_4
             refine join_ (σ := Value × Value) 5 #[true, true, true, true, false, true, true, true, false, false, false, false] (fun s_ => [(42, s_.1), (48, s_.2)]) (fun s_ w' => (w'.cell? ⟨gb272, 0, none⟩ = some (.int .i64 x273000_1) ∧ w'.cell? ⟨gb272, 1, none⟩ = some (.slice Ao38 x273001_1.length co38) ∧ w'.cell? ⟨gb286, 0, none⟩ = some (.int .i64 t282) ∧ w'.cell? ⟨gb286, 1, none⟩ = some (.int .i64 t284) ∧ w'.cell? ⟨gb286, 2, none⟩ = some (.int .i64 t278) ∧ w'.cell? ⟨gb286, 3, none⟩ = some (.int .i64 (wrap64 (-(wrap64 (1 + t280))))) ∧ w'.cell? ⟨gb291, 0, none⟩ = some (.int .i64 t287) ∧ w'.cell? ⟨gb291, 1, none⟩ = some (.int .i64 t289) ∧ w'.cell? ⟨gb291, 2, none⟩ = some (.int .i64 t278) ∧ w'.cell? ⟨gb291, 3, none⟩ = some (.int .i64 (wrap64 (1 + t280)))) ∧ (Kd.R k89 89 w' w.heap.size (fun k_ => some k_ ≠ (s_.2 : Value).ownBlock ∧ some k_ ≠ (.slice Ao38 x273001_1.length co38 : Value).ownBlock ∧ k_ ≠ gb286 ∧ k_ ≠ gb291) s_.1 y292) ∧ (Kd.R k89 89 w' w.heap.size (fun k_ => some k_ ≠ (s_.1 : Value).ownBlock ∧ some k_ ≠ (.slice Ao38 x273001_1.length co38 : Value).ownBlock ∧ k_ ≠ gb286 ∧ k_ ≠ gb291) s_.2 y298) ∧ (Kd.R k89 89 w' w.heap.size (fun k_ => some k_ ≠ (s_.1 : Value).ownBlock ∧ some k_ ≠ (s_.2 : Value).ownBlock ∧ k_ ≠ gb286 ∧ k_ ≠ gb291) (.slice Ao38 x273001_1.length co38) x273001_1) ∧ (w'.heap[gb271]? = some (.cells #[.int .i64 0, .slice none 0 0] 36 (0, 0))) ∧ (w'.heap[gb272]? = some (.cells #[.int .i64 x273000_1, .slice Ao38 x273001_1.length co38] 36 (0, 0))) ∧ (w'.heap[gb286]? = some (.cells #[.int .i64 t282, .int .i64 t284, .int .i64 t278, .int .i64 (wrap64 (-(wrap64 (1 + t280))))] 89 (0, 0))) ∧ (w'.heap[gb291]? = some (.cells #[.int .i64 t287, .int .i64 t289, .int .i64 t278, .int .i64 (wrap64 (1 + t280))] 89 (0, 0))) ∧ (IsS130 w0 w' g s0_0 t290) ∧ (KeepBut w w' g none) ∧ (Below w0.heap.size w0 w')) ?_ ?_
             rotate_left
             ·intro hJ1_7
              refine join_ (σ := Value × Nat) 5 #[true, true, true, true, false, true, true, false, false, false, true, false] (fun s_ => [(42, s_.1), (11, .pointer (some ⟨s_.2, 0, none⟩))]) (fun s_ w' => (w'.cell? ⟨gb272, 0, none⟩ = some (.int .i64 x273000_1) ∧ w'.cell? ⟨gb272, 1, none⟩ = some (.slice Ao38 x273001_1.length co38) ∧ w'.cell? ⟨gb286, 0, none⟩ = some (.int .i64 t282) ∧ w'.cell? ⟨gb286, 1, none⟩ = some (.int .i64 t284) ∧ w'.cell? ⟨gb286, 2, none⟩ = some (.int .i64 t278) ∧ w'.cell? ⟨gb286, 3, none⟩ = some (.int .i64 (wrap64 (-(wrap64 (1 + t280))))) ∧ w'.cell? ⟨gb291, 0, none⟩ = some (.int .i64 t287) ∧ w'.cell? ⟨gb291, 1, none⟩ = some (.int .i64 t289) ∧ w'.cell? ⟨gb291, 2, none⟩ = some (.int .i64 t278) ∧ w'.cell? ⟨gb291, 3, none⟩ = some (.int .i64 (wrap64 (1 + t280)))) ∧ (Kd.R k89 89 w' w.heap.size (fun k_ => some k_ ≠ (.slice Ao38 x273001_1.length co38 : Value).ownBlock ∧ k_ ≠ gb286 ∧ k_ ≠ gb291) s_.1 y292) ∧ (Kd.R k89 89 w' w.heap.size (fun k_ => some k_ ≠ (s_.1 : Value).ownBlock ∧ k_ ≠ gb286 ∧ k_ ≠ gb291) (.slice Ao38 x273001_1.length co38) x273001_1) ∧ (w'.heap[gb271]? = some (.cells #[.int .i64 0, .slice none 0 0] 36 (0, 0))) ∧ (w'.heap[gb272]? = some (.cells #[.int .i64 x273000_1, .slice Ao38 x273001_1.length co38] 36 (0, 0))) ∧ (w'.heap[gb286]? = some (.cells #[.int .i64 t282, .int .i64 t284, .int .i64 t278, .int .i64 (wrap64 (-(wrap64 (1 + t280))))] 89 (0, 0))) ∧ (w'.heap[gb291]? = some (.cells #[.int .i64 t287, .int .i64 t289, .int .i64 t278, .int .i64 (wrap64 (1 + t280))] 89 (0, 0))) ∧ (w'.heap[s_.2]? = some (.cells #[.int .i64 0, .slice none 0 0] 36 (0, 0))) ∧ (w.heap.size ≤ s_.2) ∧ (w0.heap.size ≤ s_.2) ∧ (g ≠ s_.2) ∧ (s_.2 ≠ g) ∧ (gb271 ≠ s_.2) ∧ (s_.2 ≠ gb271) ∧ (gb272 ≠ s_.2) ∧ (s_.2 ≠ gb272) ∧ (gb286 ≠ s_.2) ∧ (s_.2 ≠ gb286) ∧ (gb291 ≠ s_.2) ∧ (s_.2 ≠ gb291) ∧ (IsS130 w0 w' g s0_0 t290) ∧ (KeepBut w w' g none) ∧ (Below w0.heap.size w0 w')) ?_ ?_
              rotate_left
              ·intro hJ1_10
               refine join_ (σ := Value × Nat) 5 #[true, false, true, true, false, true, true, true, false, false, true, false] (fun s_ => [(48, s_.1), (11, .pointer (some ⟨s_.2, 0, none⟩))]) (fun s_ w' => (w'.cell? ⟨gb272, 0, none⟩ = some (.int .i64 x273000_1) ∧ w'.cell? ⟨gb272, 1, none⟩ = some (.slice Ao38 x273001_1.length co38) ∧ w'.cell? ⟨gb286, 0, none⟩ = some (.int .i64 t282) ∧ w'.cell? ⟨gb286, 1, none⟩ = some (.int .i64 t284) ∧ w'.cell? ⟨gb286, 2, none⟩ = some (.int .i64 t278) ∧ w'.cell? ⟨gb286, 3, none⟩ = some (.int .i64 (wrap64 (-(wrap64 (1 + t280))))) ∧ w'.cell? ⟨gb291, 0, none⟩ = some (.int .i64 t287) ∧ w'.cell? ⟨gb291, 1, none⟩ = some (.int .i64 t289) ∧ w'.cell? ⟨gb291, 2, none⟩ = some (.int .i64 t278) ∧ w'.cell? ⟨gb291, 3, none⟩ = some (.int .i64 (wrap64 (1 + t280)))) ∧ (Kd.R k89 89 w' w.heap.size (fun k_ => some k_ ≠ (.slice Ao38 x273001_1.length co38 : Value).ownBlock ∧ k_ ≠ gb286 ∧ k_ ≠ gb291) s_.1 y298) ∧ (Kd.R k89 89 w' w.heap.size (fun k_ => some k_ ≠ (s_.1 : Value).ownBlock ∧ k_ ≠ gb286 ∧ k_ ≠ gb291) (.slice Ao38 x273001_1.length co38) x273001_1) ∧ (w'.heap[gb271]? = some (.cells #[.int .i64 0, .slice none 0 0] 36 (0, 0))) ∧ (w'.heap[gb272]? = some (.cells #[.int .i64 x273000_1, .slice Ao38 x273001_1.length co38] 36 (0, 0))) ∧ (w'.heap[gb286]? = some (.cells #[.int .i64 t282, .int .i64 t284, .int .i64 t278, .int .i64 (wrap64 (-(wrap64 (1 + t280))))] 89 (0, 0))) ∧ (w'.heap[gb291]? = some (.cells #[.int .i64 t287, .int .i64 t289, .int .i64 t278, .int .i64 (wrap64 (1 + t280))] 89 (0, 0))) ∧ (w'.heap[s_.2]? = some (.cells #[.int .i64 0, .slice none 0 0] 36 (0, 0))) ∧ (w.heap.size ≤ s_.2) ∧ (w0.heap.size ≤ s_.2) ∧ (g ≠ s_.2) ∧ (s_.2 ≠ g) ∧ (gb271 ≠ s_.2) ∧ (s_.2 ≠ gb271) ∧ (gb272 ≠ s_.2) ∧ (s_.2 ≠ gb272) ∧ (gb286 ≠ s_.2) ∧ (s_.2 ≠ gb286) ∧ (gb291 ≠ s_.2) ∧ (s_.2 ≠ gb291) ∧ (IsS130 w0 w' g s0_0 t290) ∧ (KeepBut w w' g none) ∧ (Below w0.heap.size w0 w')) ?_ ?_
               rotate_left
               ·intro hJ7_10
                refine join_ (σ := Value) 6 #[true, true, true, true, false, true, true, false, false, false, false, false] (fun s_ => [(42, s_)]) (fun s_ w' => (w'.cell? ⟨gb272, 0, none⟩ = some (.int .i64 x273000_1) ∧ w'.cell? ⟨gb272, 1, none⟩ = some (.slice Ao38 x273001_1.length co38) ∧ w'.cell? ⟨gb286, 0, none⟩ = some (.int .i64 t282) ∧ w'.cell? ⟨gb286, 1, none⟩ = some (.int .i64 t284) ∧ w'.cell? ⟨gb286, 2, none⟩ = some (.int .i64 t278) ∧ w'.cell? ⟨gb286, 3, none⟩ = some (.int .i64 (wrap64 (-(wrap64 (1 + t280))))) ∧ w'.cell? ⟨gb291, 0, none⟩ = some (.int .i64 t287) ∧ w'.cell? ⟨gb291, 1, none⟩ = some (.int .i64 t289) ∧ w'.cell? ⟨gb291, 2, none⟩ = some (.int .i64 t278) ∧ w'.cell? ⟨gb291, 3, none⟩ = some (.int .i64 (wrap64 (1 + t280)))) ∧ (Kd.R k89 89 w' w.heap.size (fun k_ => some k_ ≠ (.slice Ao38 x273001_1.length co38 : Value).ownBlock ∧ k_ ≠ gb286 ∧ k_ ≠ gb291) s_ y292) ∧ (Kd.R k89 89 w' w.heap.size (fun k_ => some k_ ≠ (s_ : Value).ownBlock ∧ k_ ≠ gb286 ∧ k_ ≠ gb291) (.slice Ao38 x273001_1.length co38) x273001_1) ∧ (w'.heap[gb271]? = some (.cells #[.int .i64 0, .slice none 0 0] 36 (0, 0))) ∧ (w'.heap[gb272]? = some (.cells #[.int .i64 x273000_1, .slice Ao38 x273001_1.length co38] 36 (0, 0))) ∧ (w'.heap[gb286]? = some (.cells #[.int .i64 t282, .int .i64 t284, .int .i64 t278, .int .i64 (wrap64 (-(wrap64 (1 + t280))))] 89 (0, 0))) ∧ (w'.heap[gb291]? = some (.cells #[.int .i64 t287, .int .i64 t289, .int .i64 t278, .int .i64 (wrap64 (1 + t280))] 89 (0, 0))) ∧ (IsS130 w0 w' g s0_0 t290) ∧ (KeepBut w w' g none) ∧ (Below w0.heap.size w0 w')) ?_ ?_
                rotate_left
                ·intro hJ1
                 refine join_ (σ := Value) 6 #[true, false, true, true, false, true, true, true, false, false, false, false] (fun s_ => [(48, s_)]) (fun s_ w' => (w'.cell? ⟨gb272, 0, none⟩ = some (.int .i64 x273000_1) ∧ w'.cell? ⟨gb272, 1, none⟩ = some (.slice Ao38 x273001_1.length co38) ∧ w'.cell? ⟨gb286, 0, none⟩ = some (.int .i64 t282) ∧ w'.cell? ⟨gb286, 1, none⟩ = some (.int .i64 t284) ∧ w'.cell? ⟨gb286, 2, none⟩ = some (.int .i64 t278) ∧ w'.cell? ⟨gb286, 3, none⟩ = some (.int .i64 (wrap64 (-(wrap64 (1 + t280))))) ∧ w'.cell? ⟨gb291, 0, none⟩ = some (.int .i64 t287) ∧ w'.cell? ⟨gb291, 1, none⟩ = some (.int .i64 t289) ∧ w'.cell? ⟨gb291, 2, none⟩ = some (.int .i64 t278) ∧ w'.cell? ⟨gb291, 3, none⟩ = some (.int .i64 (wrap64 (1 + t280)))) ∧ (Kd.R k89 89 w' w.heap.size (fun k_ => some k_ ≠ (.slice Ao38 x273001_1.length co38 : Value).ownBlock ∧ k_ ≠ gb286 ∧ k_ ≠ gb291) s_ y298) ∧ (Kd.R k89 89 w' w.heap.size (fun k_ => some k_ ≠ (s_ : Value).ownBlock ∧ k_ ≠ gb286 ∧ k_ ≠ gb291) (.slice Ao38 x273001_1.length co38) x273001_1) ∧ (w'.heap[gb271]? = some (.cells #[.int .i64 0, .slice none 0 0] 36 (0, 0))) ∧ (w'.heap[gb272]? = some (.cells #[.int .i64 x273000_1, .slice Ao38 x273001_1.length co38] 36 (0, 0))) ∧ (w'.heap[gb286]? = some (.cells #[.int .i64 t282, .int .i64 t284, .int .i64 t278, .int .i64 (wrap64 (-(wrap64 (1 + t280))))] 89 (0, 0))) ∧ (w'.heap[gb291]? = some (.cells #[.int .i64 t287, .int .i64 t289, .int .i64 t278, .int .i64 (wrap64 (1 + t280))] 89 (0, 0))) ∧ (IsS130 w0 w' g s0_0 t290) ∧ (KeepBut w w' g none) ∧ (Below w0.heap.size w0 w')) ?_ ?_
                 rotate_left
                 ·intro hJ7
                  refine join_ (σ := Nat) 6 #[true, false, true, true, false, true, true, false, false, false, true, false] (fun s_ => [(11, .pointer (some ⟨s_, 0, none⟩))]) (fun s_ w' => (w'.cell? ⟨gb272, 0, none⟩ = some (.int .i64 x273000_1) ∧ w'.cell? ⟨gb272, 1, none⟩ = some (.slice Ao38 x273001_1.length co38) ∧ w'.cell? ⟨gb286, 0, none⟩ = some (.int .i64 t282) ∧ w'.cell? ⟨gb286, 1, none⟩ = some (.int .i64 t284) ∧ w'.cell? ⟨gb286, 2, none⟩ = some (.int .i64 t278) ∧ w'.cell? ⟨gb286, 3, none⟩ = some (.int .i64 (wrap64 (-(wrap64 (1 + t280))))) ∧ w'.cell? ⟨gb291, 0, none⟩ = some (.int .i64 t287) ∧ w'.cell? ⟨gb291, 1, none⟩ = some (.int .i64 t289) ∧ w'.cell? ⟨gb291, 2, none⟩ = some (.int .i64 t278) ∧ w'.cell? ⟨gb291, 3, none⟩ = some (.int .i64 (wrap64 (1 + t280)))) ∧ (Kd.R k89 89 w' w.heap.size (fun k_ => k_ ≠ gb286 ∧ k_ ≠ gb291) (.slice Ao38 x273001_1.length co38) x273001_1) ∧ (w'.heap[gb271]? = some (.cells #[.int .i64 0, .slice none 0 0] 36 (0, 0))) ∧ (w'.heap[gb272]? = some (.cells #[.int .i64 x273000_1, .slice Ao38 x273001_1.length co38] 36 (0, 0))) ∧ (w'.heap[gb286]? = some (.cells #[.int .i64 t282, .int .i64 t284, .int .i64 t278, .int .i64 (wrap64 (-(wrap64 (1 + t280))))] 89 (0, 0))) ∧ (w'.heap[gb291]? = some (.cells #[.int .i64 t287, .int .i64 t289, .int .i64 t278, .int .i64 (wrap64 (1 + t280))] 89 (0, 0))) ∧ (w'.heap[s_]? = some (.cells #[.int .i64 0, .slice none 0 0] 36 (0, 0))) ∧ (w.heap.size ≤ s_) ∧ (w0.heap.size ≤ s_) ∧ (g ≠ s_) ∧ (s_ ≠ g) ∧ (gb271 ≠ s_) ∧ (s_ ≠ gb271) ∧ (gb272 ≠ s_) ∧ (s_ ≠ gb272) ∧ (gb286 ≠ s_) ∧ (s_ ≠ gb286) ∧ (gb291 ≠ s_) ∧ (s_ ≠ gb291) ∧ (IsS130 w0 w' g s0_0 t290) ∧ (KeepBut w w' g none) ∧ (Below w0.heap.size w0 w')) ?_ ?_
                  rotate_left
                  ·intro hJ10
                   refine three_ (i := 1) (j := 7) (k := 10) (Ni := some 42) (Nj := some 48) (Nk := some 11) #[true, true, true, true, false, true, true, false, false, false, false, false] #[true, false, true, true, false, true, true, true, false, false, false, false] #[true, false, true, true, false, true, true, false, false, false, true, false] rfl rfl rfl rfl rfl rfl (three_of HT_.out (by kernel_rfl)) (by decide) (by decide) (by decide) (fun K hK => ?_) (fun K hK => ?_) (fun K hK => ?_)
                   ·skip
                    refine Kd.R_lit_step k89 _ 89 ?hg (N := 42) ?hd (xs := ([] : List (S89))) (inner := []) (ok := fun _ => True) (okp := fun _ => True) ?hr ?hp (fun _ hk => hk) trivial (Below.refl _ _) (Nat.le_refl _) (by simp) ?_; (case hd => rfl); (case hg => rfl); (case hr => first | (go_simp; done) | (go_simp; rfl)); (case hp => exact (Reps.none _ _))
                    intro v293 w41 ho42 hb hg_ hnew_
                    clear hg_ hnew_
                    (first | rw [← Ny292.out] at ho42 | (simp only [Int.reduceToNat] at ho42; rw [← Ny292.out] at ho42))
                    have n0_ := Aside0.mk (Kd.R_elder' (q_r (HO_273001.out)) (Kd.R_base ho42) hb)
                    have n1_ := Aside0.mk (Kd.R_lower (Kd.R_newB (Kd.R_newB (Kd.R_new' ho42 (Kd.R_lt (q_r (HO_273001.out)))) (q_b BK286.out)) (q_b BK291.out)) (keep_size (w := w) (g := g) (row := none) q_K))
                    have n2_ := Aside0.mk (blk_below (q_b BK271.out) hb)
                    have n3_ := Aside0.mk (blk_below (q_b BK272.out) hb)
                    have n4_ := Aside0.mk (IsS130.below q_I130_0_1 hb)
                    have n5_ := Aside0.mk (blk_below (q_b BK286.out) hb)
                    have n6_ := Aside0.mk (blk_below (q_b BK291.out) hb)
                    have n7_ := Aside0.mk (KeepBut.trans q_K (KeepBut.of_below hb g none) (.inl rfl))
                    have n8_ := Aside0.mk (below_step q_B130_0 hb)
                    clear HO_273001
                    clear BK271
                    clear BK272
                    clear HI0
                    clear BK286
                    clear BK291
                    clear HK
                    clear HB
                    have HO_273001 := n0_
                    have HO294 := n1_
                    have BK271 := n2_
                    have BK272 := n3_
                    have HI0 := n4_
                    have BK286 := n5_
                    have BK291 := n6_
                    have HK := n7_
                    have HB := n8_
                    clear n0_ n1_ n2_ n3_ n4_ n5_ n6_ n7_ n8_
                    clear hb ho42
                    refine hK.out _ _ ⟨q_z BK272.out 0, q_z BK272.out 1, q_z BK286.out 0, q_z BK286.out 1, q_z BK286.out 2, q_z BK286.out 3, q_z BK291.out 0, q_z BK291.out 1, q_z BK291.out 2, q_z BK291.out 3⟩ (fun hHeld => ?_)
                    clear hK K
                    refine norm_ (a' := ?_) ?_ ?_
                    rotate_left
                    ·show Act.put _ (some 42) _ = _
                     simp only [Act.put, List.setIfInBounds_toArray, List.set_cons_zero, List.set_cons_succ, i64_w, i32_w]
                     rfl
                    exact norm_ (by first | (simp only [putAll, Act.put, List.setIfInBounds_toArray, List.set_cons_zero, List.set_cons_succ]; done) | (simp only [putAll, Act.put, List.setIfInBounds_toArray, List.set_cons_zero, List.set_cons_succ]; rfl)) (hJ1 (v293) _ ⟨hHeld, (by (with_reducible repeat (first | apply Kd.R_alloc | apply Kd.R_drewN | apply Kd.R_drew)); exact Kd.R_mono HO294.out (fun _ hk => ⟨hk.1.1.2, ⟨hk.1.2, hk.2⟩⟩)), (by (with_reducible repeat (first | apply Kd.R_alloc | apply Kd.R_drewN | apply Kd.R_drew)); exact Kd.R_mono HO_273001.out (fun _ hk => ⟨hk.2, ⟨hk.1.1, hk.1.2⟩⟩)), kq, kq, kq, kq, q_I130_0_1, q_K, q_B130_0⟩)
                   ·skip
                    refine Kd.R_lit_step k89 _ 89 ?hg (N := 48) ?hd (xs := ([(⟨t282, t284, t278, wrap64 (-(wrap64 (1 + t280)))⟩ : S89), (⟨t287, t289, t278, wrap64 (1 + t280)⟩ : S89)] : List (S89))) (inner := [.int .i64 t282, .int .i64 t284, .int .i64 t278, .int .i64 (wrap64 (-(wrap64 (1 + t280)))), .int .i64 t287, .int .i64 t289, .int .i64 t278, .int .i64 (wrap64 (1 + t280))]) (ok := fun _ => True) (okp := fun _ => True) ?hr ?hp (fun _ hk => hk) trivial (Below.refl _ _) (Nat.le_refl _) (by simp) ?_; (case hd => rfl); (case hg => rfl); (case hr => first | (go_simp; done) | (go_simp; rfl)); (case hp => exact (Reps.c4 (show Kd.M k89 _ _ _ (⟨t282, t284, t278, wrap64 (-(wrap64 (1 + t280)))⟩ : S89) [.int .i64 t282, .int .i64 t284, .int .i64 t278, .int .i64 (wrap64 (-(wrap64 (1 + t280))))] from (k89_mkM _ _ _ (⟨t282, t284, t278, wrap64 (-(wrap64 (1 + t280)))⟩ : S89) )) (Reps.c4 (show Kd.M k89 _ _ _ (⟨t287, t289, t278, wrap64 (1 + t280)⟩ : S89) [.int .i64 t287, .int .i64 t289, .int .i64 t278, .int .i64 (wrap64 (1 + t280))] from (k89_mkM _ _ _ (⟨t287, t289, t278, wrap64 (1 + t280)⟩ : S89) )) (Reps.none _ _))))
                    intro v299 w41 ho42 hb hg_ hnew_
                    clear hg_ hnew_
                    (first | rw [← Ny298.out] at ho42 | (simp only [Int.reduceToNat] at ho42; rw [← Ny298.out] at ho42))
                    have n0_ := Aside0.mk (Kd.R_elder' (q_r (HO_273001.out)) (Kd.R_base ho42) hb)
                    have n1_ := Aside0.mk (Kd.R_lower (Kd.R_newB (Kd.R_newB (Kd.R_new' ho42 (Kd.R_lt (q_r (HO_273001.out)))) (q_b BK286.out)) (q_b BK291.out)) (keep_size (w := w) (g := g) (row := none) q_K))
                    have n2_ := Aside0.mk (blk_below (q_b BK271.out) hb)
                    have n3_ := Aside0.mk (blk_below (q_b BK272.out) hb)
                    have n4_ := Aside0.mk (IsS130.below q_I130_0_1 hb)
                    have n5_ := Aside0.mk (blk_below (q_b BK286.out) hb)
                    have n6_ := Aside0.mk (blk_below (q_b BK291.out) hb)
                    have n7_ := Aside0.mk (KeepBut.trans q_K (KeepBut.of_below hb g none) (.inl rfl))
                    have n8_ := Aside0.mk (below_step q_B130_0 hb)
                    clear HO_273001
                    clear BK271
                    clear BK272
                    clear HI0
                    clear BK286
                    clear BK291
                    clear HK
                    clear HB
                    have HO_273001 := n0_
                    have HO300 := n1_
                    have BK271 := n2_
                    have BK272 := n3_
                    have HI0 := n4_
                    have BK286 := n5_
                    have BK291 := n6_
                    have HK := n7_
                    have HB := n8_
                    clear n0_ n1_ n2_ n3_ n4_ n5_ n6_ n7_ n8_
                    clear hb ho42
                    refine hK.out _ _ ⟨q_z BK272.out 0, q_z BK272.out 1, q_z BK286.out 0, q_z BK286.out 1, q_z BK286.out 2, q_z BK286.out 3, q_z BK291.out 0, q_z BK291.out 1, q_z BK291.out 2, q_z BK291.out 3⟩ (fun hHeld => ?_)
                    clear hK K
                    refine norm_ (a' := ?_) ?_ ?_
                    rotate_left
                    ·show Act.put _ (some 48) _ = _
                     simp only [Act.put, List.setIfInBounds_toArray, List.set_cons_zero, List.set_cons_succ, i64_w, i32_w]
                     rfl
                    exact norm_ (by first | (simp only [putAll, Act.put, List.setIfInBounds_toArray, List.set_cons_zero, List.set_cons_succ]; done) | (simp only [putAll, Act.put, List.setIfInBounds_toArray, List.set_cons_zero, List.set_cons_succ]; rfl)) (hJ7 (v299) _ ⟨hHeld, (by (with_reducible repeat (first | apply Kd.R_alloc | apply Kd.R_drewN | apply Kd.R_drew)); exact Kd.R_mono HO300.out (fun _ hk => ⟨hk.1.1.2, ⟨hk.1.2, hk.2⟩⟩)), (by (with_reducible repeat (first | apply Kd.R_alloc | apply Kd.R_drewN | apply Kd.R_drew)); exact Kd.R_mono HO_273001.out (fun _ hk => ⟨hk.2, ⟨hk.1.1, hk.1.2⟩⟩)), kq, kq, kq, kq, q_I130_0_1, q_K, q_B130_0⟩)
                   ·skip
                    refine box_step ?hg (N := 11) ?hd (cs := #[.int .i64 0, .slice none 0 0]) (t := 36) ?hr ?_; (case hd => rfl); (case hg => rfl); (case hr => first | (go_simp; done) | (go_simp; rfl))
                    intro gb304 hg w41 hbox hb
                    have n0_ := Aside0.mk (Kd.R_below (q_r (HO_273001.out)) hb)
                    have n1_ := Aside0.mk (blk_below (q_b BK271.out) hb)
                    have n2_ := Aside0.mk (blk_below (q_b BK272.out) hb)
                    have n3_ := Aside0.mk (IsS130.below q_I130_0_1 hb)
                    have n4_ := Aside0.mk (blk_below (q_b BK286.out) hb)
                    have n5_ := Aside0.mk (blk_below (q_b BK291.out) hb)
                    have n6_ := Aside0.mk (KeepBut.trans q_K (KeepBut.of_below hb g none) (.inl rfl))
                    have n7_ := Aside0.mk (below_step q_B130_0 hb)
                    have n8_ := Aside0.mk (hbox)
                    have n9_ := Aside0.mk ((by rw [hg]; exact (keep_size (w := w) (g := g) (row := none) q_K) : w.heap.size ≤ gb304))
                    have n10_ := Aside0.mk ((Nat.le_trans HW0.out (by rw [hg]; exact (keep_size (w := w) (g := g) (row := none) q_K) : w.heap.size ≤ gb304) : w0.heap.size ≤ gb304))
                    have n11_ := Aside0.mk ((q_n hg (q_b BK271.out) : gb271 ≠ gb304))
                    have n12_ := Aside0.mk ((q_m hg (q_b BK271.out) : gb304 ≠ gb271))
                    have n13_ := Aside0.mk ((q_n hg (q_b BK272.out) : gb272 ≠ gb304))
                    have n14_ := Aside0.mk ((q_m hg (q_b BK272.out) : gb304 ≠ gb272))
                    have n15_ := Aside0.mk ((q_n hg (q_b BK286.out) : gb286 ≠ gb304))
                    have n16_ := Aside0.mk ((q_m hg (q_b BK286.out) : gb304 ≠ gb286))
                    have n17_ := Aside0.mk ((q_n hg (q_b BK291.out) : gb291 ≠ gb304))
                    have n18_ := Aside0.mk ((q_m hg (q_b BK291.out) : gb304 ≠ gb291))
                    have n19_ := Aside0.mk ((by rw [hg]; exact Nat.ne_of_lt (IsS130.lt (show IsS130 w0 _ g s0_0 t290 from q_I130_0_1)) : g ≠ gb304))
                    have n20_ := Aside0.mk ((by rw [hg]; exact Nat.ne_of_gt (IsS130.lt (show IsS130 w0 _ g s0_0 t290 from q_I130_0_1)) : gb304 ≠ g))
                    clear HO_273001
                    clear BK271
                    clear BK272
                    clear HI0
                    clear BK286
                    clear BK291
                    clear HK
                    clear HB
                    have HO_273001 := n0_
                    have BK271 := n1_
                    have BK272 := n2_
                    have HI0 := n3_
                    have BK286 := n4_
                    have BK291 := n5_
                    have HK := n6_
                    have HB := n7_
                    have BK304 := n8_
                    have GW304 := n9_
                    have GE304 := n10_
                    have NB271_304 := n11_
                    have NB304_271 := n12_
                    have NB272_304 := n13_
                    have NB304_272 := n14_
                    have NB286_304 := n15_
                    have NB304_286 := n16_
                    have NB291_304 := n17_
                    have NB304_291 := n18_
                    have NB0_304 := n19_
                    have NB304_0 := n20_
                    clear n0_ n1_ n2_ n3_ n4_ n5_ n6_ n7_ n8_ n9_ n10_ n11_ n12_ n13_ n14_ n15_ n16_ n17_ n18_ n19_ n20_
                    clear hb hbox hg
                    refine hK.out _ _ ⟨q_z BK272.out 0, q_z BK272.out 1, q_z BK286.out 0, q_z BK286.out 1, q_z BK286.out 2, q_z BK286.out 3, q_z BK291.out 0, q_z BK291.out 1, q_z BK291.out 2, q_z BK291.out 3⟩ (fun hHeld => ?_)
                    clear hK K
                    refine norm_ (a' := ?_) ?_ ?_
                    rotate_left
                    ·show Act.put _ (some 11) _ = _
                     simp only [Act.put, List.setIfInBounds_toArray, List.set_cons_zero, List.set_cons_succ, i64_w, i32_w]
                     rfl
                    exact norm_ (by first | (simp only [putAll, Act.put, List.setIfInBounds_toArray, List.set_cons_zero, List.set_cons_succ]; done) | (simp only [putAll, Act.put, List.setIfInBounds_toArray, List.set_cons_zero, List.set_cons_succ]; rfl)) (hJ10 (gb304) _ ⟨hHeld, (q_r (HO_273001.out)), kq, kq, kq, kq, kq, GW304.out, GE304.out, NB0_304.out, NB304_0.out, NB271_304.out, NB304_271.out, NB272_304.out, NB304_272.out, NB286_304.out, NB304_286.out, NB291_304.out, NB304_291.out, q_I130_0_1, q_K, q_B130_0⟩)
                  ·skip
                   rintro gb304 w42 ⟨hS_, h0_, h1_, h2_, h3_, h4_, h5_, h6_, h7_, h8_, h9_, h10_, h11_, h12_, h13_, h14_, h15_, h16_, h17_, h18_, h19_, h20_⟩
                   have n0_ : Aside0 (Kd.R k89 89 w42 w.heap.size (fun k_ => k_ ≠ gb286 ∧ k_ ≠ gb291) (.slice Ao38 x273001_1.length co38) x273001_1) := ⟨h0_⟩
                   have n1_ : Aside0 (w42.heap[gb271]? = some (.cells #[.int .i64 0, .slice none 0 0] 36 (0, 0))) := ⟨h1_⟩
                   have n2_ : Aside0 (w42.heap[gb272]? = some (.cells #[.int .i64 x273000_1, .slice Ao38 x273001_1.length co38] 36 (0, 0))) := ⟨h2_⟩
                   have n3_ : Aside0 (w42.heap[gb286]? = some (.cells #[.int .i64 t282, .int .i64 t284, .int .i64 t278, .int .i64 (wrap64 (-(wrap64 (1 + t280))))] 89 (0, 0))) := ⟨h3_⟩
                   have n4_ : Aside0 (w42.heap[gb291]? = some (.cells #[.int .i64 t287, .int .i64 t289, .int .i64 t278, .int .i64 (wrap64 (1 + t280))] 89 (0, 0))) := ⟨h4_⟩
                   have n5_ : Aside0 (w42.heap[gb304]? = some (.cells #[.int .i64 0, .slice none 0 0] 36 (0, 0))) := ⟨h5_⟩
                   have n6_ : Aside0 (w.heap.size ≤ gb304) := ⟨h6_⟩
                   have n7_ : Aside0 (w0.heap.size ≤ gb304) := ⟨h7_⟩
                   have n8_ : Aside0 (g ≠ gb304) := ⟨h8_⟩
                   have n9_ : Aside0 (gb304 ≠ g) := ⟨h9_⟩
                   have n10_ : Aside0 (gb271 ≠ gb304) := ⟨h10_⟩
                   have n11_ : Aside0 (gb304 ≠ gb271) := ⟨h11_⟩
                   have n12_ : Aside0 (gb272 ≠ gb304) := ⟨h12_⟩
                   have n13_ : Aside0 (gb304 ≠ gb272) := ⟨h13_⟩
                   have n14_ : Aside0 (gb286 ≠ gb304) := ⟨h14_⟩
                   have n15_ : Aside0 (gb304 ≠ gb286) := ⟨h15_⟩
                   have n16_ : Aside0 (gb291 ≠ gb304) := ⟨h16_⟩
                   have n17_ : Aside0 (gb304 ≠ gb291) := ⟨h17_⟩
                   have n18_ : Aside0 (IsS130 w0 w42 g s0_0 t290) := ⟨h18_⟩
                   have n19_ : Aside0 (KeepBut w w42 g none) := ⟨h19_⟩
                   have n20_ : Aside0 (Below w0.heap.size w0 w42) := ⟨h20_⟩
                   clear HO_273001
                   clear BK271
                   clear BK272
                   clear BK286
                   clear BK291
                   clear HI0
                   clear HK
                   clear HB
                   clear h0_ h1_ h2_ h3_ h4_ h5_ h6_ h7_ h8_ h9_ h10_ h11_ h12_ h13_ h14_ h15_ h16_ h17_ h18_ h19_ h20_
                   have HO_273001 := n0_
                   have BK271 := n1_
                   have BK272 := n2_
                   have BK286 := n3_
                   have BK291 := n4_
                   have BK304 := n5_
                   have GW304 := n6_
                   have GE304 := n7_
                   have NB0_304 := n8_
                   have NB304_0 := n9_
                   have NB271_304 := n10_
                   have NB304_271 := n11_
                   have NB272_304 := n12_
                   have NB304_272 := n13_
                   have NB286_304 := n14_
                   have NB304_286 := n15_
                   have NB291_304 := n16_
                   have NB304_291 := n17_
                   have HI0 := n18_
                   have HK := n19_
                   have HB := n20_
                   clear n0_ n1_ n2_ n3_ n4_ n5_ n6_ n7_ n8_ n9_ n10_ n11_ n12_ n13_ n14_ n15_ n16_ n17_ n18_ n19_ n20_
                   have hHeld : w42.cell? ⟨gb272, 0, none⟩ = some (.int .i64 x273000_1) ∧ w42.cell? ⟨gb272, 1, none⟩ = some (.slice Ao38 x273001_1.length co38) ∧ w42.cell? ⟨gb286, 0, none⟩ = some (.int .i64 t282) ∧ w42.cell? ⟨gb286, 1, none⟩ = some (.int .i64 t284) ∧ w42.cell? ⟨gb286, 2, none⟩ = some (.int .i64 t278) ∧ w42.cell? ⟨gb286, 3, none⟩ = some (.int .i64 (wrap64 (-(wrap64 (1 + t280))))) ∧ w42.cell? ⟨gb291, 0, none⟩ = some (.int .i64 t287) ∧ w42.cell? ⟨gb291, 1, none⟩ = some (.int .i64 t289) ∧ w42.cell? ⟨gb291, 2, none⟩ = some (.int .i64 t278) ∧ w42.cell? ⟨gb291, 3, none⟩ = some (.int .i64 (wrap64 (1 + t280))) := hS_
                   refine norm_ (a' := ?_) ?_ ?_
                   rotate_left
                   ·simp only [putAll, Act.put, List.setIfInBounds_toArray, List.set_cons_zero, List.set_cons_succ]
                    rfl
                   refine two_ (i := 1) (j := 7) (Ni := some 42) (Nj := some 48) #[true, true, true, true, false, true, true, false, false, false, true, false] #[true, false, true, true, false, true, true, true, false, false, true, false] rfl rfl rfl rfl (two_of HT_.out (by kernel_rfl)) (by decide) (by decide) (fun K hK => ?_) (fun K hK => ?_)
                   ·skip
                    refine Kd.R_lit_step k89 _ 89 ?hg (N := 42) ?hd (xs := ([] : List (S89))) (inner := []) (ok := fun _ => True) (okp := fun _ => True) ?hr ?hp (fun _ hk => hk) trivial (Below.refl _ _) (Nat.le_refl _) (by simp) ?_; (case hd => rfl); (case hg => rfl); (case hr => first | (go_simp; done) | (go_simp; rfl)); (case hp => exact (Reps.none _ _))
                    intro v293 w43 ho44 hb hg_ hnew_
                    clear hg_ hnew_
                    (first | rw [← Ny292.out] at ho44 | (simp only [Int.reduceToNat] at ho44; rw [← Ny292.out] at ho44))
                    have n0_ := Aside0.mk (Kd.R_elder' (q_r (HO_273001.out)) (Kd.R_base ho44) hb)
                    have n1_ := Aside0.mk (Kd.R_lower (Kd.R_newB (Kd.R_newB (Kd.R_new' ho44 (Kd.R_lt (q_r (HO_273001.out)))) (q_b BK286.out)) (q_b BK291.out)) (keep_size (w := w) (g := g) (row := none) q_K))
                    have n2_ := Aside0.mk (blk_below (q_b BK271.out) hb)
                    have n3_ := Aside0.mk (blk_below (q_b BK272.out) hb)
                    have n4_ := Aside0.mk (IsS130.below q_I130_0_1 hb)
                    have n5_ := Aside0.mk (blk_below (q_b BK286.out) hb)
                    have n6_ := Aside0.mk (blk_below (q_b BK291.out) hb)
                    have n7_ := Aside0.mk (blk_below (q_b BK304.out) hb)
                    have n8_ := Aside0.mk (KeepBut.trans q_K (KeepBut.of_below hb g none) (.inl rfl))
                    have n9_ := Aside0.mk (below_step q_B130_0 hb)
                    clear HO_273001
                    clear BK271
                    clear BK272
                    clear HI0
                    clear BK286
                    clear BK291
                    clear BK304
                    clear HK
                    clear HB
                    have HO_273001 := n0_
                    have HO294 := n1_
                    have BK271 := n2_
                    have BK272 := n3_
                    have HI0 := n4_
                    have BK286 := n5_
                    have BK291 := n6_
                    have BK304 := n7_
                    have HK := n8_
                    have HB := n9_
                    clear n0_ n1_ n2_ n3_ n4_ n5_ n6_ n7_ n8_ n9_
                    clear hb ho44
                    refine hK.out _ _ ⟨q_z BK272.out 0, q_z BK272.out 1, q_z BK286.out 0, q_z BK286.out 1, q_z BK286.out 2, q_z BK286.out 3, q_z BK291.out 0, q_z BK291.out 1, q_z BK291.out 2, q_z BK291.out 3⟩ (fun hHeld => ?_)
                    clear hK K
                    refine norm_ (a' := ?_) ?_ ?_
                    rotate_left
                    ·show Act.put _ (some 42) _ = _
                     simp only [Act.put, List.setIfInBounds_toArray, List.set_cons_zero, List.set_cons_succ, i64_w, i32_w]
                     rfl
                    exact norm_ (by first | (simp only [putAll, Act.put, List.setIfInBounds_toArray, List.set_cons_zero, List.set_cons_succ]; done) | (simp only [putAll, Act.put, List.setIfInBounds_toArray, List.set_cons_zero, List.set_cons_succ]; rfl)) (hJ1_10 (v293, gb304) _ ⟨hHeld, (by (with_reducible repeat (first | apply Kd.R_alloc | apply Kd.R_drewN | apply Kd.R_drew)); exact Kd.R_mono HO294.out (fun _ hk => ⟨hk.1.1.2, ⟨hk.1.2, hk.2⟩⟩)), (by (with_reducible repeat (first | apply Kd.R_alloc | apply Kd.R_drewN | apply Kd.R_drew)); exact Kd.R_mono HO_273001.out (fun _ hk => ⟨hk.2, ⟨hk.1.1, hk.1.2⟩⟩)), kq, kq, kq, kq, kq, GW304.out, GE304.out, NB0_304.out, NB304_0.out, NB271_304.out, NB304_271.out, NB272_304.out, NB304_272.out, NB286_304.out, NB304_286.out, NB291_304.out, NB304_291.out, q_I130_0_1, q_K, q_B130_0⟩)
                   ·skip
                    refine Kd.R_lit_step k89 _ 89 ?hg (N := 48) ?hd (xs := ([(⟨t282, t284, t278, wrap64 (-(wrap64 (1 + t280)))⟩ : S89), (⟨t287, t289, t278, wrap64 (1 + t280)⟩ : S89)] : List (S89))) (inner := [.int .i64 t282, .int .i64 t284, .int .i64 t278, .int .i64 (wrap64 (-(wrap64 (1 + t280)))), .int .i64 t287, .int .i64 t289, .int .i64 t278, .int .i64 (wrap64 (1 + t280))]) (ok := fun _ => True) (okp := fun _ => True) ?hr ?hp (fun _ hk => hk) trivial (Below.refl _ _) (Nat.le_refl _) (by simp) ?_; (case hd => rfl); (case hg => rfl); (case hr => first | (go_simp; done) | (go_simp; rfl)); (case hp => exact (Reps.c4 (show Kd.M k89 _ _ _ (⟨t282, t284, t278, wrap64 (-(wrap64 (1 + t280)))⟩ : S89) [.int .i64 t282, .int .i64 t284, .int .i64 t278, .int .i64 (wrap64 (-(wrap64 (1 + t280))))] from (k89_mkM _ _ _ (⟨t282, t284, t278, wrap64 (-(wrap64 (1 + t280)))⟩ : S89) )) (Reps.c4 (show Kd.M k89 _ _ _ (⟨t287, t289, t278, wrap64 (1 + t280)⟩ : S89) [.int .i64 t287, .int .i64 t289, .int .i64 t278, .int .i64 (wrap64 (1 + t280))] from (k89_mkM _ _ _ (⟨t287, t289, t278, wrap64 (1 + t280)⟩ : S89) )) (Reps.none _ _))))
                    intro v299 w43 ho44 hb hg_ hnew_
                    clear hg_ hnew_
                    (first | rw [← Ny298.out] at ho44 | (simp only [Int.reduceToNat] at ho44; rw [← Ny298.out] at ho44))
                    have n0_ := Aside0.mk (Kd.R_elder' (q_r (HO_273001.out)) (Kd.R_base ho44) hb)
                    have n1_ := Aside0.mk (Kd.R_lower (Kd.R_newB (Kd.R_newB (Kd.R_new' ho44 (Kd.R_lt (q_r (HO_273001.out)))) (q_b BK286.out)) (q_b BK291.out)) (keep_size (w := w) (g := g) (row := none) q_K))
                    have n2_ := Aside0.mk (blk_below (q_b BK271.out) hb)
                    have n3_ := Aside0.mk (blk_below (q_b BK272.out) hb)
                    have n4_ := Aside0.mk (IsS130.below q_I130_0_1 hb)
                    have n5_ := Aside0.mk (blk_below (q_b BK286.out) hb)
                    have n6_ := Aside0.mk (blk_below (q_b BK291.out) hb)
                    have n7_ := Aside0.mk (blk_below (q_b BK304.out) hb)
                    have n8_ := Aside0.mk (KeepBut.trans q_K (KeepBut.of_below hb g none) (.inl rfl))
                    have n9_ := Aside0.mk (below_step q_B130_0 hb)
                    clear HO_273001
                    clear BK271
                    clear BK272
                    clear HI0
                    clear BK286
                    clear BK291
                    clear BK304
                    clear HK
                    clear HB
                    have HO_273001 := n0_
                    have HO300 := n1_
                    have BK271 := n2_
                    have BK272 := n3_
                    have HI0 := n4_
                    have BK286 := n5_
                    have BK291 := n6_
                    have BK304 := n7_
                    have HK := n8_
                    have HB := n9_
                    clear n0_ n1_ n2_ n3_ n4_ n5_ n6_ n7_ n8_ n9_
                    clear hb ho44
                    refine hK.out _ _ ⟨q_z BK272.out 0, q_z BK272.out 1, q_z BK286.out 0, q_z BK286.out 1, q_z BK286.out 2, q_z BK286.out 3, q_z BK291.out 0, q_z BK291.out 1, q_z BK291.out 2, q_z BK291.out 3⟩ (fun hHeld => ?_)
                    clear hK K
                    refine norm_ (a' := ?_) ?_ ?_
                    rotate_left
                    ·show Act.put _ (some 48) _ = _
                     simp only [Act.put, List.setIfInBounds_toArray, List.set_cons_zero, List.set_cons_succ, i64_w, i32_w]
                     rfl
                    exact norm_ (by first | (simp only [putAll, Act.put, List.setIfInBounds_toArray, List.set_cons_zero, List.set_cons_succ]; done) | (simp only [putAll, Act.put, List.setIfInBounds_toArray, List.set_cons_zero, List.set_cons_succ]; rfl)) (hJ7_10 (v299, gb304) _ ⟨hHeld, (by (with_reducible repeat (first | apply Kd.R_alloc | apply Kd.R_drewN | apply Kd.R_drew)); exact Kd.R_mono HO300.out (fun _ hk => ⟨hk.1.1.2, ⟨hk.1.2, hk.2⟩⟩)), (by (with_reducible repeat (first | apply Kd.R_alloc | apply Kd.R_drewN | apply Kd.R_drew)); exact Kd.R_mono HO_273001.out (fun _ hk => ⟨hk.2, ⟨hk.1.1, hk.1.2⟩⟩)), kq, kq, kq, kq, kq, GW304.out, GE304.out, NB0_304.out, NB304_0.out, NB271_304.out, NB304_271.out, NB272_304.out, NB304_272.out, NB286_304.out, NB304_286.out, NB291_304.out, NB304_291.out, q_I130_0_1, q_K, q_B130_0⟩)
                 ·skip
                  rintro v299 w43 ⟨hS_, h0_, h1_, h2_, h3_, h4_, h5_, h6_, h7_, h8_⟩
                  have n0_ : Aside0 (Kd.R k89 89 w43 w.heap.size (fun k_ => some k_ ≠ (.slice Ao38 x273001_1.length co38 : Value).ownBlock ∧ k_ ≠ gb286 ∧ k_ ≠ gb291) v299 y298) := ⟨h0_⟩
                  have n1_ : Aside0 (Kd.R k89 89 w43 w.heap.size (fun k_ => some k_ ≠ (v299 : Value).ownBlock ∧ k_ ≠ gb286 ∧ k_ ≠ gb291) (.slice Ao38 x273001_1.length co38) x273001_1) := ⟨h1_⟩
                  have n2_ : Aside0 (w43.heap[gb271]? = some (.cells #[.int .i64 0, .slice none 0 0] 36 (0, 0))) := ⟨h2_⟩
                  have n3_ : Aside0 (w43.heap[gb272]? = some (.cells #[.int .i64 x273000_1, .slice Ao38 x273001_1.length co38] 36 (0, 0))) := ⟨h3_⟩
                  have n4_ : Aside0 (w43.heap[gb286]? = some (.cells #[.int .i64 t282, .int .i64 t284, .int .i64 t278, .int .i64 (wrap64 (-(wrap64 (1 + t280))))] 89 (0, 0))) := ⟨h4_⟩
                  have n5_ : Aside0 (w43.heap[gb291]? = some (.cells #[.int .i64 t287, .int .i64 t289, .int .i64 t278, .int .i64 (wrap64 (1 + t280))] 89 (0, 0))) := ⟨h5_⟩
                  have n6_ : Aside0 (IsS130 w0 w43 g s0_0 t290) := ⟨h6_⟩
                  have n7_ : Aside0 (KeepBut w w43 g none) := ⟨h7_⟩
                  have n8_ : Aside0 (Below w0.heap.size w0 w43) := ⟨h8_⟩
                  clear HO_273001
                  clear BK271
                  clear BK272
                  clear BK286
                  clear BK291
                  clear HI0
                  clear HK
                  clear HB
                  clear h0_ h1_ h2_ h3_ h4_ h5_ h6_ h7_ h8_
                  have HO300 := n0_
                  have HO_273001 := n1_
                  have BK271 := n2_
                  have BK272 := n3_
                  have BK286 := n4_
                  have BK291 := n5_
                  have HI0 := n6_
                  have HK := n7_
                  have HB := n8_
                  clear n0_ n1_ n2_ n3_ n4_ n5_ n6_ n7_ n8_
                  have hHeld : w43.cell? ⟨gb272, 0, none⟩ = some (.int .i64 x273000_1) ∧ w43.cell? ⟨gb272, 1, none⟩ = some (.slice Ao38 x273001_1.length co38) ∧ w43.cell? ⟨gb286, 0, none⟩ = some (.int .i64 t282) ∧ w43.cell? ⟨gb286, 1, none⟩ = some (.int .i64 t284) ∧ w43.cell? ⟨gb286, 2, none⟩ = some (.int .i64 t278) ∧ w43.cell? ⟨gb286, 3, none⟩ = some (.int .i64 (wrap64 (-(wrap64 (1 + t280))))) ∧ w43.cell? ⟨gb291, 0, none⟩ = some (.int .i64 t287) ∧ w43.cell? ⟨gb291, 1, none⟩ = some (.int .i64 t289) ∧ w43.cell? ⟨gb291, 2, none⟩ = some (.int .i64 t278) ∧ w43.cell? ⟨gb291, 3, none⟩ = some (.int .i64 (wrap64 (1 + t280))) := hS_
                  refine norm_ (a' := ?_) ?_ ?_
                  rotate_left
                  ·simp only [putAll, Act.put, List.setIfInBounds_toArray, List.set_cons_zero, List.set_cons_succ]
                   rfl
                  refine two_ (i := 1) (j := 10) (Ni := some 42) (Nj := some 11) #[true, true, true, true, false, true, true, true, false, false, false, false] #[true, false, true, true, false, true, true, true, false, false, true, false] rfl rfl rfl rfl (two_of HT_.out (by kernel_rfl)) (by decide) (by decide) (fun K hK => ?_) (fun K hK => ?_)
                  ·skip
                   refine Kd.R_lit_step k89 _ 89 ?hg (N := 42) ?hd (xs := ([] : List (S89))) (inner := []) (ok := fun _ => True) (okp := fun _ => True) ?hr ?hp (fun _ hk => hk) trivial (Below.refl _ _) (Nat.le_refl _) (by simp) ?_; (case hd => rfl); (case hg => rfl); (case hr => first | (go_simp; done) | (go_simp; rfl)); (case hp => exact (Reps.none _ _))
                   intro v293 w44 ho45 hb hg_ hnew_
                   clear hg_ hnew_
                   (first | rw [← Ny292.out] at ho45 | (simp only [Int.reduceToNat] at ho45; rw [← Ny292.out] at ho45))
                   have n0_ := Aside0.mk (Kd.R_elder' (q_r (HO_273001.out)) (Kd.R_base ho45) hb)
                   have n1_ := Aside0.mk (Kd.R_elder' (q_r (HO300.out)) (Kd.R_base ho45) hb)
                   have n2_ := Aside0.mk (Kd.R_lower (Kd.R_newB (Kd.R_newB (Kd.R_new' (Kd.R_new' ho45 (Kd.R_lt (q_r (HO_273001.out)))) (Kd.R_lt (q_r (HO300.out)))) (q_b BK286.out)) (q_b BK291.out)) (keep_size (w := w) (g := g) (row := none) q_K))
                   have n3_ := Aside0.mk (blk_below (q_b BK271.out) hb)
                   have n4_ := Aside0.mk (blk_below (q_b BK272.out) hb)
                   have n5_ := Aside0.mk (IsS130.below q_I130_0_1 hb)
                   have n6_ := Aside0.mk (blk_below (q_b BK286.out) hb)
                   have n7_ := Aside0.mk (blk_below (q_b BK291.out) hb)
                   have n8_ := Aside0.mk (KeepBut.trans q_K (KeepBut.of_below hb g none) (.inl rfl))
                   have n9_ := Aside0.mk (below_step q_B130_0 hb)
                   clear HO_273001
                   clear HO300
                   clear BK271
                   clear BK272
                   clear HI0
                   clear BK286
                   clear BK291
                   clear HK
                   clear HB
                   have HO_273001 := n0_
                   have HO300 := n1_
                   have HO294 := n2_
                   have BK271 := n3_
                   have BK272 := n4_
                   have HI0 := n5_
                   have BK286 := n6_
                   have BK291 := n7_
                   have HK := n8_
                   have HB := n9_
                   clear n0_ n1_ n2_ n3_ n4_ n5_ n6_ n7_ n8_ n9_
                   clear hb ho45
                   refine hK.out _ _ ⟨q_z BK272.out 0, q_z BK272.out 1, q_z BK286.out 0, q_z BK286.out 1, q_z BK286.out 2, q_z BK286.out 3, q_z BK291.out 0, q_z BK291.out 1, q_z BK291.out 2, q_z BK291.out 3⟩ (fun hHeld => ?_)
                   clear hK K
                   refine norm_ (a' := ?_) ?_ ?_
                   rotate_left
                   ·show Act.put _ (some 42) _ = _
                    simp only [Act.put, List.setIfInBounds_toArray, List.set_cons_zero, List.set_cons_succ, i64_w, i32_w]
                    rfl
                   exact norm_ (by first | (simp only [putAll, Act.put, List.setIfInBounds_toArray, List.set_cons_zero, List.set_cons_succ]; done) | (simp only [putAll, Act.put, List.setIfInBounds_toArray, List.set_cons_zero, List.set_cons_succ]; rfl)) (hJ1_7 (v293, v299) _ ⟨hHeld, (by (with_reducible repeat (first | apply Kd.R_alloc | apply Kd.R_drewN | apply Kd.R_drew)); exact Kd.R_mono HO294.out (fun _ hk => ⟨hk.1.1.2, ⟨hk.1.1.1.2, ⟨hk.1.2, hk.2⟩⟩⟩)), (by (with_reducible repeat (first | apply Kd.R_alloc | apply Kd.R_drewN | apply Kd.R_drew)); exact Kd.R_mono HO300.out (fun _ hk => ⟨hk.2, ⟨hk.1.1, ⟨hk.1.2.1, hk.1.2.2⟩⟩⟩)), (by (with_reducible repeat (first | apply Kd.R_alloc | apply Kd.R_drewN | apply Kd.R_drew)); exact Kd.R_mono HO_273001.out (fun _ hk => ⟨hk.2, ⟨hk.1.1, ⟨hk.1.2.1, hk.1.2.2⟩⟩⟩)), kq, kq, kq, kq, q_I130_0_1, q_K, q_B130_0⟩)
                  ·skip
                   refine box_step ?hg (N := 11) ?hd (cs := #[.int .i64 0, .slice none 0 0]) (t := 36) ?hr ?_; (case hd => rfl); (case hg => rfl); (case hr => first | (go_simp; done) | (go_simp; rfl))
                   intro gb304 hg w44 hbox hb
                   have n0_ := Aside0.mk (Kd.R_below (q_r (HO_273001.out)) hb)
                   have n1_ := Aside0.mk (Kd.R_below (q_r (HO300.out)) hb)
                   have n2_ := Aside0.mk (blk_below (q_b BK271.out) hb)
                   have n3_ := Aside0.mk (blk_below (q_b BK272.out) hb)
                   have n4_ := Aside0.mk (IsS130.below q_I130_0_1 hb)
                   have n5_ := Aside0.mk (blk_below (q_b BK286.out) hb)
                   have n6_ := Aside0.mk (blk_below (q_b BK291.out) hb)
                   have n7_ := Aside0.mk (KeepBut.trans q_K (KeepBut.of_below hb g none) (.inl rfl))
                   have n8_ := Aside0.mk (below_step q_B130_0 hb)
                   have n9_ := Aside0.mk (hbox)
                   have n10_ := Aside0.mk ((by rw [hg]; exact (keep_size (w := w) (g := g) (row := none) q_K) : w.heap.size ≤ gb304))
                   have n11_ := Aside0.mk ((Nat.le_trans HW0.out (by rw [hg]; exact (keep_size (w := w) (g := g) (row := none) q_K) : w.heap.size ≤ gb304) : w0.heap.size ≤ gb304))
                   have n12_ := Aside0.mk ((q_n hg (q_b BK271.out) : gb271 ≠ gb304))
                   have n13_ := Aside0.mk ((q_m hg (q_b BK271.out) : gb304 ≠ gb271))
                   have n14_ := Aside0.mk ((q_n hg (q_b BK272.out) : gb272 ≠ gb304))
                   have n15_ := Aside0.mk ((q_m hg (q_b BK272.out) : gb304 ≠ gb272))
                   have n16_ := Aside0.mk ((q_n hg (q_b BK286.out) : gb286 ≠ gb304))
                   have n17_ := Aside0.mk ((q_m hg (q_b BK286.out) : gb304 ≠ gb286))
                   have n18_ := Aside0.mk ((q_n hg (q_b BK291.out) : gb291 ≠ gb304))
                   have n19_ := Aside0.mk ((q_m hg (q_b BK291.out) : gb304 ≠ gb291))
                   have n20_ := Aside0.mk ((by rw [hg]; exact Nat.ne_of_lt (IsS130.lt (show IsS130 w0 _ g s0_0 t290 from q_I130_0_1)) : g ≠ gb304))
                   have n21_ := Aside0.mk ((by rw [hg]; exact Nat.ne_of_gt (IsS130.lt (show IsS130 w0 _ g s0_0 t290 from q_I130_0_1)) : gb304 ≠ g))
                   clear HO_273001
                   clear HO300
                   clear BK271
                   clear BK272
                   clear HI0
                   clear BK286
                   clear BK291
                   clear HK
                   clear HB
                   have HO_273001 := n0_
                   have HO300 := n1_
                   have BK271 := n2_
                   have BK272 := n3_
                   have HI0 := n4_
                   have BK286 := n5_
                   have BK291 := n6_
                   have HK := n7_
                   have HB := n8_
                   have BK304 := n9_
                   have GW304 := n10_
                   have GE304 := n11_
                   have NB271_304 := n12_
                   have NB304_271 := n13_
                   have NB272_304 := n14_
                   have NB304_272 := n15_
                   have NB286_304 := n16_
                   have NB304_286 := n17_
                   have NB291_304 := n18_
                   have NB304_291 := n19_
                   have NB0_304 := n20_
                   have NB304_0 := n21_
                   clear n0_ n1_ n2_ n3_ n4_ n5_ n6_ n7_ n8_ n9_ n10_ n11_ n12_ n13_ n14_ n15_ n16_ n17_ n18_ n19_ n20_ n21_
                   clear hb hbox hg
                   refine hK.out _ _ ⟨q_z BK272.out 0, q_z BK272.out 1, q_z BK286.out 0, q_z BK286.out 1, q_z BK286.out 2, q_z BK286.out 3, q_z BK291.out 0, q_z BK291.out 1, q_z BK291.out 2, q_z BK291.out 3⟩ (fun hHeld => ?_)
                   clear hK K
                   refine norm_ (a' := ?_) ?_ ?_
                   rotate_left
                   ·show Act.put _ (some 11) _ = _
                    simp only [Act.put, List.setIfInBounds_toArray, List.set_cons_zero, List.set_cons_succ, i64_w, i32_w]
                    rfl
                   exact norm_ (by first | (simp only [putAll, Act.put, List.setIfInBounds_toArray, List.set_cons_zero, List.set_cons_succ]; done) | (simp only [putAll, Act.put, List.setIfInBounds_toArray, List.set_cons_zero, List.set_cons_succ]; rfl)) (hJ7_10 (v299, gb304) _ ⟨hHeld, (q_r (HO300.out)), (q_r (HO_273001.out)), kq, kq, kq, kq, kq, GW304.out, GE304.out, NB0_304.out, NB304_0.out, NB271_304.out, NB304_271.out, NB272_304.out, NB304_272.out, NB286_304.out, NB304_286.out, NB291_304.out, NB304_291.out, q_I130_0_1, q_K, q_B130_0⟩)
                ·skip
                 rintro v293 w43 ⟨hS_, h0_, h1_, h2_, h3_, h4_, h5_, h6_, h7_, h8_⟩
                 have n0_ : Aside0 (Kd.R k89 89 w43 w.heap.size (fun k_ => some k_ ≠ (.slice Ao38 x273001_1.length co38 : Value).ownBlock ∧ k_ ≠ gb286 ∧ k_ ≠ gb291) v293 y292) := ⟨h0_⟩
                 have n1_ : Aside0 (Kd.R k89 89 w43 w.heap.size (fun k_ => some k_ ≠ (v293 : Value).ownBlock ∧ k_ ≠ gb286 ∧ k_ ≠ gb291) (.slice Ao38 x273001_1.length co38) x273001_1) := ⟨h1_⟩
                 have n2_ : Aside0 (w43.heap[gb271]? = some (.cells #[.int .i64 0, .slice none 0 0] 36 (0, 0))) := ⟨h2_⟩
                 have n3_ : Aside0 (w43.heap[gb272]? = some (.cells #[.int .i64 x273000_1, .slice Ao38 x273001_1.length co38] 36 (0, 0))) := ⟨h3_⟩
                 have n4_ : Aside0 (w43.heap[gb286]? = some (.cells #[.int .i64 t282, .int .i64 t284, .int .i64 t278, .int .i64 (wrap64 (-(wrap64 (1 + t280))))] 89 (0, 0))) := ⟨h4_⟩
                 have n5_ : Aside0 (w43.heap[gb291]? = some (.cells #[.int .i64 t287, .int .i64 t289, .int .i64 t278, .int .i64 (wrap64 (1 + t280))] 89 (0, 0))) := ⟨h5_⟩
                 have n6_ : Aside0 (IsS130 w0 w43 g s0_0 t290) := ⟨h6_⟩
                 have n7_ : Aside0 (KeepBut w w43 g none) := ⟨h7_⟩
                 have n8_ : Aside0 (Below w0.heap.size w0 w43) := ⟨h8_⟩
                 clear HO_273001
                 clear BK271
                 clear BK272
                 clear BK286
                 clear BK291
                 clear HI0
                 clear HK
                 clear HB
                 clear h0_ h1_ h2_ h3_ h4_ h5_ h6_ h7_ h8_
                 have HO294 := n0_
                 have HO_273001 := n1_
                 have BK271 := n2_
                 have BK272 := n3_
                 have BK286 := n4_
                 have BK291 := n5_
                 have HI0 := n6_
                 have HK := n7_
                 have HB := n8_
                 clear n0_ n1_ n2_ n3_ n4_ n5_ n6_ n7_ n8_
                 have hHeld : w43.cell? ⟨gb272, 0, none⟩ = some (.int .i64 x273000_1) ∧ w43.cell? ⟨gb272, 1, none⟩ = some (.slice Ao38 x273001_1.length co38) ∧ w43.cell? ⟨gb286, 0, none⟩ = some (.int .i64 t282) ∧ w43.cell? ⟨gb286, 1, none⟩ = some (.int .i64 t284) ∧ w43.cell? ⟨gb286, 2, none⟩ = some (.int .i64 t278) ∧ w43.cell? ⟨gb286, 3, none⟩ = some (.int .i64 (wrap64 (-(wrap64 (1 + t280))))) ∧ w43.cell? ⟨gb291, 0, none⟩ = some (.int .i64 t287) ∧ w43.cell? ⟨gb291, 1, none⟩ = some (.int .i64 t289) ∧ w43.cell? ⟨gb291, 2, none⟩ = some (.int .i64 t278) ∧ w43.cell? ⟨gb291, 3, none⟩ = some (.int .i64 (wrap64 (1 + t280))) := hS_
                 refine norm_ (a' := ?_) ?_ ?_
                 rotate_left
                 ·simp only [putAll, Act.put, List.setIfInBounds_toArray, List.set_cons_zero, List.set_cons_succ]
                  rfl
                 refine three_ (i := 4) (j := 7) (k := 10) (Ni := some 45) (Nj := some 48) (Nk := some 11) #[true, true, true, true, true, true, true, false, false, false, false, false] #[true, true, true, true, false, true, true, true, false, false, false, false] #[true, true, true, true, false, true, true, false, false, false, true, false] rfl rfl rfl rfl rfl rfl (three_of HT_.out (by kernel_rfl)) (by decide) (by decide) (by decide) (fun K hK => ?_) (fun K hK => ?_) (fun K hK => ?_)
                 ·skip
                  refine Kd.R_append_rows_step k89 w.heap.size (by rfl) (.tmp 42) (.tmp 44) 34 89 (.agg #[(.int .i64 0), (.int .i64 0), (.int .i64 0), (.int .i64 0)]) 32 rfl Try.underlying34 info89 rfl (by decide) (by omega) v293 y292 x273001_1 _ _ _ (fun k_ => some k_ ≠ (.slice Ao38 x273001_1.length co38 : Value).ownBlock ∧ k_ ≠ gb286 ∧ k_ ≠ gb291) (fun _ => False) rfl rfl ?aO ?aR (fun _ _ h => h) (fun _ h => h.elim) ?aF (Below.refl _ _) ?aS ?aL ?_
                  (case aR => repeat (first | exact (Kd.R_reads' HO_273001.out).2.2 | (with_reducible refine Kd.C_alloc ?_ _) | (with_reducible refine Kd.C_drewN ?_ _) | (with_reducible refine Kd.C_drew ?_)))
                  (case aF => exact (fun k_ hk => ⟨Kd.fresh' (Kd.R_lt (q_r (HO_273001.out))) k_ hk, Kd.freshB (q_b BK286.out) k_ hk, Kd.freshB (q_b BK291.out) k_ hk⟩))
                  (case aO => exact (q_r (HO294.out)))
                  (case aS => exact (keep_size (w := w) (g := g) (row := none) q_K))
                  (case aL => have := LMc17.out; omega)
                  intro v296 w44 ho hb hg hat
                  rw [← Ny295.out] at ho
                  have n0_ := Aside0.mk (Kd.R_after (ok := (fun k_ => k_ ≠ gb286 ∧ k_ ≠ gb291)) (by (with_reducible repeat (first | apply Kd.R_alloc | apply Kd.R_drewN | apply Kd.R_drew)); exact Kd.R_mono HO_273001.out (fun _ hk => ⟨⟨hk.2.1, hk.2.2⟩, hk.1⟩)) hg hat)
                  have n1_ := Aside0.mk (blk_grown (q_b BK271.out) hg (Kd.R_ne HO294.out BK271.out (by decide)))
                  have n2_ := Aside0.mk (blk_grown (q_b BK272.out) hg (Kd.R_ne HO294.out BK272.out (by decide)))
                  have n3_ := Aside0.mk (IsS130.grown q_I130_0_1 hg (IsS130.own_ne HI0.out HO294.out (by decide)))
                  have n4_ := Aside0.mk (blk_grown (q_b BK286.out) hg (Kd.R_away HO294.out (fun _ hk => hk.2.1)))
                  have n5_ := Aside0.mk (blk_grown (q_b BK291.out) hg (Kd.R_away HO294.out (fun _ hk => hk.2.2)))
                  have n6_ := Aside0.mk (below_weaken q_B130_0 HL.out hb)
                  have n7_ := Aside0.mk (KeepBut.trans q_K (KeepBut.of_grown hg g) (Kd.R_base2 HO294.out))
                  have n8_ := Aside0.mk (ho)
                  clear HO_273001
                  clear BK271
                  clear BK272
                  clear HI0
                  clear BK286
                  clear BK291
                  clear HB
                  clear HK
                  clear HO294
                  have HO_273001 := n0_
                  have BK271 := n1_
                  have BK272 := n2_
                  have HI0 := n3_
                  have BK286 := n4_
                  have BK291 := n5_
                  have HB := n6_
                  have HK := n7_
                  have HO297 := n8_
                  clear n0_ n1_ n2_ n3_ n4_ n5_ n6_ n7_ n8_
                  clear ho hb hg hat
                  refine hK.out _ _ ⟨q_z BK272.out 0, q_z BK272.out 1, q_z BK286.out 0, q_z BK286.out 1, q_z BK286.out 2, q_z BK286.out 3, q_z BK291.out 0, q_z BK291.out 1, q_z BK291.out 2, q_z BK291.out 3⟩ (fun hHeld => ?_)
                  clear hK K
                  refine norm_ (a' := ?_) ?_ ?_
                  rotate_left
                  ·show Act.put _ (some 45) _ = _
                   simp only [Act.put, List.setIfInBounds_toArray, List.set_cons_zero, List.set_cons_succ, i64_w, i32_w]
                   rfl
                  exact norm_ (by first | (simp only [putAll, Act.put, List.setIfInBounds_toArray, List.set_cons_zero, List.set_cons_succ]; done) | (simp only [putAll, Act.put, List.setIfInBounds_toArray, List.set_cons_zero, List.set_cons_succ]; rfl)) (hJ1_4 (v293, v296) _ ⟨hHeld, (q_r (HO297.out)), (by (with_reducible repeat (first | apply Kd.R_alloc | apply Kd.R_drewN | apply Kd.R_drew)); exact Kd.R_mono HO_273001.out (fun _ hk => ⟨hk.2, ⟨hk.1.1, hk.1.2⟩⟩)), kq, kq, kq, kq, q_I130_0_1, q_K, q_B130_0⟩)
                 ·skip
                  refine Kd.R_lit_step k89 _ 89 ?hg (N := 48) ?hd (xs := ([(⟨t282, t284, t278, wrap64 (-(wrap64 (1 + t280)))⟩ : S89), (⟨t287, t289, t278, wrap64 (1 + t280)⟩ : S89)] : List (S89))) (inner := [.int .i64 t282, .int .i64 t284, .int .i64 t278, .int .i64 (wrap64 (-(wrap64 (1 + t280)))), .int .i64 t287, .int .i64 t289, .int .i64 t278, .int .i64 (wrap64 (1 + t280))]) (ok := fun _ => True) (okp := fun _ => True) ?hr ?hp (fun _ hk => hk) trivial (Below.refl _ _) (Nat.le_refl _) (by simp) ?_; (case hd => rfl); (case hg => rfl); (case hr => first | (go_simp; done) | (go_simp; rfl)); (case hp => exact (Reps.c4 (show Kd.M k89 _ _ _ (⟨t282, t284, t278, wrap64 (-(wrap64 (1 + t280)))⟩ : S89) [.int .i64 t282, .int .i64 t284, .int .i64 t278, .int .i64 (wrap64 (-(wrap64 (1 + t280))))] from (k89_mkM _ _ _ (⟨t282, t284, t278, wrap64 (-(wrap64 (1 + t280)))⟩ : S89) )) (Reps.c4 (show Kd.M k89 _ _ _ (⟨t287, t289, t278, wrap64 (1 + t280)⟩ : S89) [.int .i64 t287, .int .i64 t289, .int .i64 t278, .int .i64 (wrap64 (1 + t280))] from (k89_mkM _ _ _ (⟨t287, t289, t278, wrap64 (1 + t280)⟩ : S89) )) (Reps.none _ _))))
                  intro v299 w44 ho45 hb hg_ hnew_
                  clear hg_ hnew_
                  (first | rw [← Ny298.out] at ho45 | (simp only [Int.reduceToNat] at ho45; rw [← Ny298.out] at ho45))
                  have n0_ := Aside0.mk (Kd.R_elder' (q_r (HO_273001.out)) (Kd.R_base ho45) hb)
                  have n1_ := Aside0.mk (Kd.R_elder' (q_r (HO294.out)) (Kd.R_base ho45) hb)
                  have n2_ := Aside0.mk (Kd.R_lower (Kd.R_newB (Kd.R_newB (Kd.R_new' (Kd.R_new' ho45 (Kd.R_lt (q_r (HO_273001.out)))) (Kd.R_lt (q_r (HO294.out)))) (q_b BK286.out)) (q_b BK291.out)) (keep_size (w := w) (g := g) (row := none) q_K))
                  have n3_ := Aside0.mk (blk_below (q_b BK271.out) hb)
                  have n4_ := Aside0.mk (blk_below (q_b BK272.out) hb)
                  have n5_ := Aside0.mk (IsS130.below q_I130_0_1 hb)
                  have n6_ := Aside0.mk (blk_below (q_b BK286.out) hb)
                  have n7_ := Aside0.mk (blk_below (q_b BK291.out) hb)
                  have n8_ := Aside0.mk (KeepBut.trans q_K (KeepBut.of_below hb g none) (.inl rfl))
                  have n9_ := Aside0.mk (below_step q_B130_0 hb)
                  clear HO_273001
                  clear HO294
                  clear BK271
                  clear BK272
                  clear HI0
                  clear BK286
                  clear BK291
                  clear HK
                  clear HB
                  have HO_273001 := n0_
                  have HO294 := n1_
                  have HO300 := n2_
                  have BK271 := n3_
                  have BK272 := n4_
                  have HI0 := n5_
                  have BK286 := n6_
                  have BK291 := n7_
                  have HK := n8_
                  have HB := n9_
                  clear n0_ n1_ n2_ n3_ n4_ n5_ n6_ n7_ n8_ n9_
                  clear hb ho45
                  refine hK.out _ _ ⟨q_z BK272.out 0, q_z BK272.out 1, q_z BK286.out 0, q_z BK286.out 1, q_z BK286.out 2, q_z BK286.out 3, q_z BK291.out 0, q_z BK291.out 1, q_z BK291.out 2, q_z BK291.out 3⟩ (fun hHeld => ?_)
                  clear hK K
                  refine norm_ (a' := ?_) ?_ ?_
                  rotate_left
                  ·show Act.put _ (some 48) _ = _
                   simp only [Act.put, List.setIfInBounds_toArray, List.set_cons_zero, List.set_cons_succ, i64_w, i32_w]
                   rfl
                  exact norm_ (by first | (simp only [putAll, Act.put, List.setIfInBounds_toArray, List.set_cons_zero, List.set_cons_succ]; done) | (simp only [putAll, Act.put, List.setIfInBounds_toArray, List.set_cons_zero, List.set_cons_succ]; rfl)) (hJ1_7 (v293, v299) _ ⟨hHeld, (by (with_reducible repeat (first | apply Kd.R_alloc | apply Kd.R_drewN | apply Kd.R_drew)); exact Kd.R_mono HO294.out (fun _ hk => ⟨hk.2, ⟨hk.1.1, ⟨hk.1.2.1, hk.1.2.2⟩⟩⟩)), (by (with_reducible repeat (first | apply Kd.R_alloc | apply Kd.R_drewN | apply Kd.R_drew)); exact Kd.R_mono HO300.out (fun _ hk => ⟨hk.1.1.2, ⟨hk.1.1.1.2, ⟨hk.1.2, hk.2⟩⟩⟩)), (by (with_reducible repeat (first | apply Kd.R_alloc | apply Kd.R_drewN | apply Kd.R_drew)); exact Kd.R_mono HO_273001.out (fun _ hk => ⟨hk.1.1, ⟨hk.2, ⟨hk.1.2.1, hk.1.2.2⟩⟩⟩)), kq, kq, kq, kq, q_I130_0_1, q_K, q_B130_0⟩)
                 ·skip
                  refine box_step ?hg (N := 11) ?hd (cs := #[.int .i64 0, .slice none 0 0]) (t := 36) ?hr ?_; (case hd => rfl); (case hg => rfl); (case hr => first | (go_simp; done) | (go_simp; rfl))
                  intro gb304 hg w44 hbox hb
                  have n0_ := Aside0.mk (Kd.R_below (q_r (HO_273001.out)) hb)
                  have n1_ := Aside0.mk (Kd.R_below (q_r (HO294.out)) hb)
                  have n2_ := Aside0.mk (blk_below (q_b BK271.out) hb)
                  have n3_ := Aside0.mk (blk_below (q_b BK272.out) hb)
                  have n4_ := Aside0.mk (IsS130.below q_I130_0_1 hb)
                  have n5_ := Aside0.mk (blk_below (q_b BK286.out) hb)
                  have n6_ := Aside0.mk (blk_below (q_b BK291.out) hb)
                  have n7_ := Aside0.mk (KeepBut.trans q_K (KeepBut.of_below hb g none) (.inl rfl))
                  have n8_ := Aside0.mk (below_step q_B130_0 hb)
                  have n9_ := Aside0.mk (hbox)
                  have n10_ := Aside0.mk ((by rw [hg]; exact (keep_size (w := w) (g := g) (row := none) q_K) : w.heap.size ≤ gb304))
                  have n11_ := Aside0.mk ((Nat.le_trans HW0.out (by rw [hg]; exact (keep_size (w := w) (g := g) (row := none) q_K) : w.heap.size ≤ gb304) : w0.heap.size ≤ gb304))
                  have n12_ := Aside0.mk ((q_n hg (q_b BK271.out) : gb271 ≠ gb304))
                  have n13_ := Aside0.mk ((q_m hg (q_b BK271.out) : gb304 ≠ gb271))
                  have n14_ := Aside0.mk ((q_n hg (q_b BK272.out) : gb272 ≠ gb304))
                  have n15_ := Aside0.mk ((q_m hg (q_b BK272.out) : gb304 ≠ gb272))
                  have n16_ := Aside0.mk ((q_n hg (q_b BK286.out) : gb286 ≠ gb304))
                  have n17_ := Aside0.mk ((q_m hg (q_b BK286.out) : gb304 ≠ gb286))
                  have n18_ := Aside0.mk ((q_n hg (q_b BK291.out) : gb291 ≠ gb304))
                  have n19_ := Aside0.mk ((q_m hg (q_b BK291.out) : gb304 ≠ gb291))
                  have n20_ := Aside0.mk ((by rw [hg]; exact Nat.ne_of_lt (IsS130.lt (show IsS130 w0 _ g s0_0 t290 from q_I130_0_1)) : g ≠ gb304))
                  have n21_ := Aside0.mk ((by rw [hg]; exact Nat.ne_of_gt (IsS130.lt (show IsS130 w0 _ g s0_0 t290 from q_I130_0_1)) : gb304 ≠ g))
                  clear HO_273001
                  clear HO294
                  clear BK271
                  clear BK272
                  clear HI0
                  clear BK286
                  clear BK291
                  clear HK
                  clear HB
                  have HO_273001 := n0_
                  have HO294 := n1_
                  have BK271 := n2_
                  have BK272 := n3_
                  have HI0 := n4_
                  have BK286 := n5_
                  have BK291 := n6_
                  have HK := n7_
                  have HB := n8_
                  have BK304 := n9_
                  have GW304 := n10_
                  have GE304 := n11_
                  have NB271_304 := n12_
                  have NB304_271 := n13_
                  have NB272_304 := n14_
                  have NB304_272 := n15_
                  have NB286_304 := n16_
                  have NB304_286 := n17_
                  have NB291_304 := n18_
                  have NB304_291 := n19_
                  have NB0_304 := n20_
                  have NB304_0 := n21_
                  clear n0_ n1_ n2_ n3_ n4_ n5_ n6_ n7_ n8_ n9_ n10_ n11_ n12_ n13_ n14_ n15_ n16_ n17_ n18_ n19_ n20_ n21_
                  clear hb hbox hg
                  refine hK.out _ _ ⟨q_z BK272.out 0, q_z BK272.out 1, q_z BK286.out 0, q_z BK286.out 1, q_z BK286.out 2, q_z BK286.out 3, q_z BK291.out 0, q_z BK291.out 1, q_z BK291.out 2, q_z BK291.out 3⟩ (fun hHeld => ?_)
                  clear hK K
                  refine norm_ (a' := ?_) ?_ ?_
                  rotate_left
                  ·show Act.put _ (some 11) _ = _
                   simp only [Act.put, List.setIfInBounds_toArray, List.set_cons_zero, List.set_cons_succ, i64_w, i32_w]
                   rfl
                  exact norm_ (by first | (simp only [putAll, Act.put, List.setIfInBounds_toArray, List.set_cons_zero, List.set_cons_succ]; done) | (simp only [putAll, Act.put, List.setIfInBounds_toArray, List.set_cons_zero, List.set_cons_succ]; rfl)) (hJ1_10 (v293, gb304) _ ⟨hHeld, (q_r (HO294.out)), (q_r (HO_273001.out)), kq, kq, kq, kq, kq, GW304.out, GE304.out, NB0_304.out, NB304_0.out, NB271_304.out, NB304_271.out, NB272_304.out, NB304_272.out, NB286_304.out, NB304_286.out, NB291_304.out, NB304_291.out, q_I130_0_1, q_K, q_B130_0⟩)
               ·skip
                rintro ⟨v299, gb304⟩ w44 ⟨hS_, h0_, h1_, h2_, h3_, h4_, h5_, h6_, h7_, h8_, h9_, h10_, h11_, h12_, h13_, h14_, h15_, h16_, h17_, h18_, h19_, h20_, h21_⟩
                have n0_ : Aside0 (Kd.R k89 89 w44 w.heap.size (fun k_ => some k_ ≠ (.slice Ao38 x273001_1.length co38 : Value).ownBlock ∧ k_ ≠ gb286 ∧ k_ ≠ gb291) v299 y298) := ⟨h0_⟩
                have n1_ : Aside0 (Kd.R k89 89 w44 w.heap.size (fun k_ => some k_ ≠ (v299 : Value).ownBlock ∧ k_ ≠ gb286 ∧ k_ ≠ gb291) (.slice Ao38 x273001_1.length co38) x273001_1) := ⟨h1_⟩
                have n2_ : Aside0 (w44.heap[gb271]? = some (.cells #[.int .i64 0, .slice none 0 0] 36 (0, 0))) := ⟨h2_⟩
                have n3_ : Aside0 (w44.heap[gb272]? = some (.cells #[.int .i64 x273000_1, .slice Ao38 x273001_1.length co38] 36 (0, 0))) := ⟨h3_⟩
                have n4_ : Aside0 (w44.heap[gb286]? = some (.cells #[.int .i64 t282, .int .i64 t284, .int .i64 t278, .int .i64 (wrap64 (-(wrap64 (1 + t280))))] 89 (0, 0))) := ⟨h4_⟩
                have n5_ : Aside0 (w44.heap[gb291]? = some (.cells #[.int .i64 t287, .int .i64 t289, .int .i64 t278, .int .i64 (wrap64 (1 + t280))] 89 (0, 0))) := ⟨h5_⟩
                have n6_ : Aside0 (w44.heap[gb304]? = some (.cells #[.int .i64 0, .slice none 0 0] 36 (0, 0))) := ⟨h6_⟩
                have n7_ : Aside0 (w.heap.size ≤ gb304) := ⟨h7_⟩
                have n8_ : Aside0 (w0.heap.size ≤ gb304) := ⟨h8_⟩
                have n9_ : Aside0 (g ≠ gb304) := ⟨h9_⟩
                have n10_ : Aside0 (gb304 ≠ g) := ⟨h10_⟩
                have n11_ : Aside0 (gb271 ≠ gb304) := ⟨h11_⟩
                have n12_ : Aside0 (gb304 ≠ gb271) := ⟨h12_⟩
                have n13_ : Aside0 (gb272 ≠ gb304) := ⟨h13_⟩
                have n14_ : Aside0 (gb304 ≠ gb272) := ⟨h14_⟩
                have n15_ : Aside0 (gb286 ≠ gb304) := ⟨h15_⟩
                have n16_ : Aside0 (gb304 ≠ gb286) := ⟨h16_⟩
                have n17_ : Aside0 (gb291 ≠ gb304) := ⟨h17_⟩
                have n18_ : Aside0 (gb304 ≠ gb291) := ⟨h18_⟩
                have n19_ : Aside0 (IsS130 w0 w44 g s0_0 t290) := ⟨h19_⟩
                have n20_ : Aside0 (KeepBut w w44 g none) := ⟨h20_⟩
                have n21_ : Aside0 (Below w0.heap.size w0 w44) := ⟨h21_⟩
                clear HO_273001
                clear BK271
                clear BK272
                clear BK286
                clear BK291
                clear HI0
                clear HK
                clear HB
                clear h0_ h1_ h2_ h3_ h4_ h5_ h6_ h7_ h8_ h9_ h10_ h11_ h12_ h13_ h14_ h15_ h16_ h17_ h18_ h19_ h20_ h21_
                have HO300 := n0_
                have HO_273001 := n1_
                have BK271 := n2_
                have BK272 := n3_
                have BK286 := n4_
                have BK291 := n5_
                have BK304 := n6_
                have GW304 := n7_
                have GE304 := n8_
                have NB0_304 := n9_
                have NB304_0 := n10_
                have NB271_304 := n11_
                have NB304_271 := n12_
                have NB272_304 := n13_
                have NB304_272 := n14_
                have NB286_304 := n15_
                have NB304_286 := n16_
                have NB291_304 := n17_
                have NB304_291 := n18_
                have HI0 := n19_
                have HK := n20_
                have HB := n21_
                clear n0_ n1_ n2_ n3_ n4_ n5_ n6_ n7_ n8_ n9_ n10_ n11_ n12_ n13_ n14_ n15_ n16_ n17_ n18_ n19_ n20_ n21_
                have hHeld : w44.cell? ⟨gb272, 0, none⟩ = some (.int .i64 x273000_1) ∧ w44.cell? ⟨gb272, 1, none⟩ = some (.slice Ao38 x273001_1.length co38) ∧ w44.cell? ⟨gb286, 0, none⟩ = some (.int .i64 t282) ∧ w44.cell? ⟨gb286, 1, none⟩ = some (.int .i64 t284) ∧ w44.cell? ⟨gb286, 2, none⟩ = some (.int .i64 t278) ∧ w44.cell? ⟨gb286, 3, none⟩ = some (.int .i64 (wrap64 (-(wrap64 (1 + t280))))) ∧ w44.cell? ⟨gb291, 0, none⟩ = some (.int .i64 t287) ∧ w44.cell? ⟨gb291, 1, none⟩ = some (.int .i64 t289) ∧ w44.cell? ⟨gb291, 2, none⟩ = some (.int .i64 t278) ∧ w44.cell? ⟨gb291, 3, none⟩ = some (.int .i64 (wrap64 (1 + t280))) := hS_
                refine norm_ (a' := ?_) ?_ ?_
                rotate_left
                ·simp only [putAll, Act.put, List.setIfInBounds_toArray, List.set_cons_zero, List.set_cons_succ]
                 rfl
                refine one_ (i := 1) (N := some 42) #[true, true, true, true, false, true, true, true, false, false, true, false] rfl rfl (one_of HT_.out (by kernel_rfl)) (by decide) (fun K hK => ?_)
                refine Kd.R_lit_step k89 _ 89 ?hg (N := 42) ?hd (xs := ([] : List (S89))) (inner := []) (ok := fun _ => True) (okp := fun _ => True) ?hr ?hp (fun _ hk => hk) trivial (Below.refl _ _) (Nat.le_refl _) (by simp) ?_; (case hd => rfl); (case hg => rfl); (case hr => first | (go_simp; done) | (go_simp; rfl)); (case hp => exact (Reps.none _ _))
                intro v293 w45 ho46 hb hg_ hnew_
                clear hg_ hnew_
                (first | rw [← Ny292.out] at ho46 | (simp only [Int.reduceToNat] at ho46; rw [← Ny292.out] at ho46))
                have n0_ := Aside0.mk (Kd.R_elder' (q_r (HO_273001.out)) (Kd.R_base ho46) hb)
                have n1_ := Aside0.mk (Kd.R_elder' (q_r (HO300.out)) (Kd.R_base ho46) hb)
                have n2_ := Aside0.mk (Kd.R_lower (Kd.R_newB (Kd.R_newB (Kd.R_new' (Kd.R_new' ho46 (Kd.R_lt (q_r (HO_273001.out)))) (Kd.R_lt (q_r (HO300.out)))) (q_b BK286.out)) (q_b BK291.out)) (keep_size (w := w) (g := g) (row := none) q_K))
                have n3_ := Aside0.mk (blk_below (q_b BK271.out) hb)
                have n4_ := Aside0.mk (blk_below (q_b BK272.out) hb)
                have n5_ := Aside0.mk (IsS130.below q_I130_0_1 hb)
                have n6_ := Aside0.mk (blk_below (q_b BK286.out) hb)
                have n7_ := Aside0.mk (blk_below (q_b BK291.out) hb)
                have n8_ := Aside0.mk (blk_below (q_b BK304.out) hb)
                have n9_ := Aside0.mk (KeepBut.trans q_K (KeepBut.of_below hb g none) (.inl rfl))
                have n10_ := Aside0.mk (below_step q_B130_0 hb)
                clear HO_273001
                clear HO300
                clear BK271
                clear BK272
                clear HI0
                clear BK286
                clear BK291
                clear BK304
                clear HK
                clear HB
                have HO_273001 := n0_
                have HO300 := n1_
                have HO294 := n2_
                have BK271 := n3_
                have BK272 := n4_
                have HI0 := n5_
                have BK286 := n6_
                have BK291 := n7_
                have BK304 := n8_
                have HK := n9_
                have HB := n10_
                clear n0_ n1_ n2_ n3_ n4_ n5_ n6_ n7_ n8_ n9_ n10_
                clear hb ho46
                refine hK.out _ _ ⟨q_z BK272.out 0, q_z BK272.out 1, q_z BK286.out 0, q_z BK286.out 1, q_z BK286.out 2, q_z BK286.out 3, q_z BK291.out 0, q_z BK291.out 1, q_z BK291.out 2, q_z BK291.out 3⟩ (fun hHeld => ?_)
                clear hK K
                refine norm_ (a' := ?_) ?_ ?_
                rotate_left
                ·show Act.put _ (some 42) _ = _
                 simp only [Act.put, List.setIfInBounds_toArray, List.set_cons_zero, List.set_cons_succ, i64_w, i32_w]
                 rfl
                exact norm_ (by first | (simp only [putAll, Act.put, List.setIfInBounds_toArray, List.set_cons_zero, List.set_cons_succ]; done) | (simp only [putAll, Act.put, List.setIfInBounds_toArray, List.set_cons_zero, List.set_cons_succ]; rfl)) (hJ1_7_10 (v293, v299, gb304) _ ⟨hHeld, (by (with_reducible repeat (first | apply Kd.R_alloc | apply Kd.R_drewN | apply Kd.R_drew)); exact Kd.R_mono HO294.out (fun _ hk => ⟨hk.1.1.2, ⟨hk.1.1.1.2, ⟨hk.1.2, hk.2⟩⟩⟩)), (by (with_reducible repeat (first | apply Kd.R_alloc | apply Kd.R_drewN | apply Kd.R_drew)); exact Kd.R_mono HO300.out (fun _ hk => ⟨hk.2, ⟨hk.1.1, ⟨hk.1.2.1, hk.1.2.2⟩⟩⟩)), (by (with_reducible repeat (first | apply Kd.R_alloc | apply Kd.R_drewN | apply Kd.R_drew)); exact Kd.R_mono HO_273001.out (fun _ hk => ⟨hk.2, ⟨hk.1.1, ⟨hk.1.2.1, hk.1.2.2⟩⟩⟩)), kq, kq, kq, kq, kq, GW304.out, GE304.out, NB0_304.out, NB304_0.out, NB271_304.out, NB304_271.out, NB272_304.out, NB304_272.out, NB286_304.out, NB304_286.out, NB291_304.out, NB304_291.out, q_I130_0_1, q_K, q_B130_0⟩)
              ·skip
               rintro ⟨v293, gb304⟩ w44 ⟨hS_, h0_, h1_, h2_, h3_, h4_, h5_, h6_, h7_, h8_, h9_, h10_, h11_, h12_, h13_, h14_, h15_, h16_, h17_, h18_, h19_, h20_, h21_⟩
               have n0_ : Aside0 (Kd.R k89 89 w44 w.heap.size (fun k_ => some k_ ≠ (.slice Ao38 x273001_1.length co38 : Value).ownBlock ∧ k_ ≠ gb286 ∧ k_ ≠ gb291) v293 y292) := ⟨h0_⟩
               have n1_ : Aside0 (Kd.R k89 89 w44 w.heap.size (fun k_ => some k_ ≠ (v293 : Value).ownBlock ∧ k_ ≠ gb286 ∧ k_ ≠ gb291) (.slice Ao38 x273001_1.length co38) x273001_1) := ⟨h1_⟩
               have n2_ : Aside0 (w44.heap[gb271]? = some (.cells #[.int .i64 0, .slice none 0 0] 36 (0, 0))) := ⟨h2_⟩
               have n3_ : Aside0 (w44.heap[gb272]? = some (.cells #[.int .i64 x273000_1, .slice Ao38 x273001_1.length co38] 36 (0, 0))) := ⟨h3_⟩
               have n4_ : Aside0 (w44.heap[gb286]? = some (.cells #[.int .i64 t282, .int .i64 t284, .int .i64 t278, .int .i64 (wrap64 (-(wrap64 (1 + t280))))] 89 (0, 0))) := ⟨h4_⟩
               have n5_ : Aside0 (w44.heap[gb291]? = some (.cells #[.int .i64 t287, .int .i64 t289, .int .i64 t278, .int .i64 (wrap64 (1 + t280))] 89 (0, 0))) := ⟨h5_⟩
               have n6_ : Aside0 (w44.heap[gb304]? = some (.cells #[.int .i64 0, .slice none 0 0] 36 (0, 0))) := ⟨h6_⟩
               have n7_ : Aside0 (w.heap.size ≤ gb304) := ⟨h7_⟩
               have n8_ : Aside0 (w0.heap.size ≤ gb304) := ⟨h8_⟩
               have n9_ : Aside0 (g ≠ gb304) := ⟨h9_⟩
               have n10_ : Aside0 (gb304 ≠ g) := ⟨h10_⟩
               have n11_ : Aside0 (gb271 ≠ gb304) := ⟨h11_⟩
               have n12_ : Aside0 (gb304 ≠ gb271) := ⟨h12_⟩
               have n13_ : Aside0 (gb272 ≠ gb304) := ⟨h13_⟩
               have n14_ : Aside0 (gb304 ≠ gb272) := ⟨h14_⟩
               have n15_ : Aside0 (gb286 ≠ gb304) := ⟨h15_⟩
               have n16_ : Aside0 (gb304 ≠ gb286) := ⟨h16_⟩
               have n17_ : Aside0 (gb291 ≠ gb304) := ⟨h17_⟩
               have n18_ : Aside0 (gb304 ≠ gb291) := ⟨h18_⟩
               have n19_ : Aside0 (IsS130 w0 w44 g s0_0 t290) := ⟨h19_⟩
               have n20_ : Aside0 (KeepBut w w44 g none) := ⟨h20_⟩
               have n21_ : Aside0 (Below w0.heap.size w0 w44) := ⟨h21_⟩
               clear HO_273001
               clear BK271
               clear BK272
               clear BK286
               clear BK291
               clear HI0
               clear HK
               clear HB
               clear h0_ h1_ h2_ h3_ h4_ h5_ h6_ h7_ h8_ h9_ h10_ h11_ h12_ h13_ h14_ h15_ h16_ h17_ h18_ h19_ h20_ h21_
               have HO294 := n0_
               have HO_273001 := n1_
               have BK271 := n2_
               have BK272 := n3_
               have BK286 := n4_
               have BK291 := n5_
               have BK304 := n6_
               have GW304 := n7_
               have GE304 := n8_
               have NB0_304 := n9_
               have NB304_0 := n10_
               have NB271_304 := n11_
               have NB304_271 := n12_
               have NB272_304 := n13_
               have NB304_272 := n14_
               have NB286_304 := n15_
               have NB304_286 := n16_
               have NB291_304 := n17_
               have NB304_291 := n18_
               have HI0 := n19_
               have HK := n20_
               have HB := n21_
               clear n0_ n1_ n2_ n3_ n4_ n5_ n6_ n7_ n8_ n9_ n10_ n11_ n12_ n13_ n14_ n15_ n16_ n17_ n18_ n19_ n20_ n21_
               have hHeld : w44.cell? ⟨gb272, 0, none⟩ = some (.int .i64 x273000_1) ∧ w44.cell? ⟨gb272, 1, none⟩ = some (.slice Ao38 x273001_1.length co38) ∧ w44.cell? ⟨gb286, 0, none⟩ = some (.int .i64 t282) ∧ w44.cell? ⟨gb286, 1, none⟩ = some (.int .i64 t284) ∧ w44.cell? ⟨gb286, 2, none⟩ = some (.int .i64 t278) ∧ w44.cell? ⟨gb286, 3, none⟩ = some (.int .i64 (wrap64 (-(wrap64 (1 + t280))))) ∧ w44.cell? ⟨gb291, 0, none⟩ = some (.int .i64 t287) ∧ w44.cell? ⟨gb291, 1, none⟩ = some (.int .i64 t289) ∧ w44.cell? ⟨gb291, 2, none⟩ = some (.int .i64 t278) ∧ w44.cell? ⟨gb291, 3, none⟩ = some (.int .i64 (wrap64 (1 + t280))) := hS_
               refine norm_ (a' := ?_) ?_ ?_
               rotate_left
               ·simp only [putAll, Act.put, List.setIfInBounds_toArray, List.set_cons_zero, List.set_cons_succ]
                rfl
               refine two_ (i := 4) (j := 7) (Ni := some 45) (Nj := some 48) #[true, true, true, true, true, true, true, false, false, false, true, false] #[true, true, true, true, false, true, true, true, false, false, true, false] rfl rfl rfl rfl (two_of HT_.out (by kernel_rfl)) (by decide) (by decide) (fun K hK => ?_) (fun K hK => ?_)
               ·skip
                refine Kd.R_append_rows_step k89 w.heap.size (by rfl) (.tmp 42) (.tmp 44) 34 89 (.agg #[(.int .i64 0), (.int .i64 0), (.int .i64 0), (.int .i64 0)]) 32 rfl Try.underlying34 info89 rfl (by decide) (by omega) v293 y292 x273001_1 _ _ _ (fun k_ => some k_ ≠ (.slice Ao38 x273001_1.length co38 : Value).ownBlock ∧ k_ ≠ gb286 ∧ k_ ≠ gb291) (fun _ => False) rfl rfl ?aO ?aR (fun _ _ h => h) (fun _ h => h.elim) ?aF (Below.refl _ _) ?aS ?aL ?_
                (case aR => repeat (first | exact (Kd.R_reads' HO_273001.out).2.2 | (with_reducible refine Kd.C_alloc ?_ _) | (with_reducible refine Kd.C_drewN ?_ _) | (with_reducible refine Kd.C_drew ?_)))
                (case aF => exact (fun k_ hk => ⟨Kd.fresh' (Kd.R_lt (q_r (HO_273001.out))) k_ hk, Kd.freshB (q_b BK286.out) k_ hk, Kd.freshB (q_b BK291.out) k_ hk⟩))
                (case aO => exact (q_r (HO294.out)))
                (case aS => exact (keep_size (w := w) (g := g) (row := none) q_K))
                (case aL => have := LMc17.out; omega)
                intro v296 w45 ho hb hg hat
                rw [← Ny295.out] at ho
                have n0_ := Aside0.mk (Kd.R_after (ok := (fun k_ => k_ ≠ gb286 ∧ k_ ≠ gb291)) (by (with_reducible repeat (first | apply Kd.R_alloc | apply Kd.R_drewN | apply Kd.R_drew)); exact Kd.R_mono HO_273001.out (fun _ hk => ⟨⟨hk.2.1, hk.2.2⟩, hk.1⟩)) hg hat)
                have n1_ := Aside0.mk (blk_grown (q_b BK271.out) hg (Kd.R_ne HO294.out BK271.out (by decide)))
                have n2_ := Aside0.mk (blk_grown (q_b BK272.out) hg (Kd.R_ne HO294.out BK272.out (by decide)))
                have n3_ := Aside0.mk (IsS130.grown q_I130_0_1 hg (IsS130.own_ne HI0.out HO294.out (by decide)))
                have n4_ := Aside0.mk (blk_grown (q_b BK286.out) hg (Kd.R_away HO294.out (fun _ hk => hk.2.1)))
                have n5_ := Aside0.mk (blk_grown (q_b BK291.out) hg (Kd.R_away HO294.out (fun _ hk => hk.2.2)))
                have n6_ := Aside0.mk (blk_grown (q_b BK304.out) hg (Kd.R_ne HO294.out BK304.out (by decide)))
                have n7_ := Aside0.mk (below_weaken q_B130_0 HL.out hb)
                have n8_ := Aside0.mk (KeepBut.trans q_K (KeepBut.of_grown hg g) (Kd.R_base2 HO294.out))
                have n9_ := Aside0.mk (ho)
                clear HO_273001
                clear BK271
                clear BK272
                clear HI0
                clear BK286
                clear BK291
                clear BK304
                clear HB
                clear HK
                clear HO294
                have HO_273001 := n0_
                have BK271 := n1_
                have BK272 := n2_
                have HI0 := n3_
                have BK286 := n4_
                have BK291 := n5_
                have BK304 := n6_
                have HB := n7_
                have HK := n8_
                have HO297 := n9_
                clear n0_ n1_ n2_ n3_ n4_ n5_ n6_ n7_ n8_ n9_
                clear ho hb hg hat
                refine hK.out _ _ ⟨q_z BK272.out 0, q_z BK272.out 1, q_z BK286.out 0, q_z BK286.out 1, q_z BK286.out 2, q_z BK286.out 3, q_z BK291.out 0, q_z BK291.out 1, q_z BK291.out 2, q_z BK291.out 3⟩ (fun hHeld => ?_)
                clear hK K
                refine norm_ (a' := ?_) ?_ ?_
                rotate_left
                ·show Act.put _ (some 45) _ = _
                 simp only [Act.put, List.setIfInBounds_toArray, List.set_cons_zero, List.set_cons_succ, i64_w, i32_w]
                 rfl
                exact norm_ (by first | (simp only [putAll, Act.put, List.setIfInBounds_toArray, List.set_cons_zero, List.set_cons_succ]; done) | (simp only [putAll, Act.put, List.setIfInBounds_toArray, List.set_cons_zero, List.set_cons_succ]; rfl)) (hJ1_4_10 (v293, v296, gb304) _ ⟨hHeld, (q_r (HO297.out)), (by (with_reducible repeat (first | apply Kd.R_alloc | apply Kd.R_drewN | apply Kd.R_drew)); exact Kd.R_mono HO_273001.out (fun _ hk => ⟨hk.2, ⟨hk.1.1, hk.1.2⟩⟩)), kq, kq, kq, kq, kq, GW304.out, GE304.out, NB0_304.out, NB304_0.out, NB271_304.out, NB304_271.out, NB272_304.out, NB304_272.out, NB286_304.out, NB304_286.out, NB291_304.out, NB304_291.out, q_I130_0_1, q_K, q_B130_0⟩)
               ·skip
                refine Kd.R_lit_step k89 _ 89 ?hg (N := 48) ?hd (xs := ([(⟨t282, t284, t278, wrap64 (-(wrap64 (1 + t280)))⟩ : S89), (⟨t287, t289, t278, wrap64 (1 + t280)⟩ : S89)] : List (S89))) (inner := [.int .i64 t282, .int .i64 t284, .int .i64 t278, .int .i64 (wrap64 (-(wrap64 (1 + t280)))), .int .i64 t287, .int .i64 t289, .int .i64 t278, .int .i64 (wrap64 (1 + t280))]) (ok := fun _ => True) (okp := fun _ => True) ?hr ?hp (fun _ hk => hk) trivial (Below.refl _ _) (Nat.le_refl _) (by simp) ?_; (case hd => rfl); (case hg => rfl); (case hr => first | (go_simp; done) | (go_simp; rfl)); (case hp => exact (Reps.c4 (show Kd.M k89 _ _ _ (⟨t282, t284, t278, wrap64 (-(wrap64 (1 + t280)))⟩ : S89) [.int .i64 t282, .int .i64 t284, .int .i64 t278, .int .i64 (wrap64 (-(wrap64 (1 + t280))))] from (k89_mkM _ _ _ (⟨t282, t284, t278, wrap64 (-(wrap64 (1 + t280)))⟩ : S89) )) (Reps.c4 (show Kd.M k89 _ _ _ (⟨t287, t289, t278, wrap64 (1 + t280)⟩ : S89) [.int .i64 t287, .int .i64 t289, .int .i64 t278, .int .i64 (wrap64 (1 + t280))] from (k89_mkM _ _ _ (⟨t287, t289, t278, wrap64 (1 + t280)⟩ : S89) )) (Reps.none _ _))))
                intro v299 w45 ho46 hb hg_ hnew_
                clear hg_ hnew_
                (first | rw [← Ny298.out] at ho46 | (simp only [Int.reduceToNat] at ho46; rw [← Ny298.out] at ho46))
                have n0_ := Aside0.mk (Kd.R_elder' (q_r (HO_273001.out)) (Kd.R_base ho46) hb)
                have n1_ := Aside0.mk (Kd.R_elder' (q_r (HO294.out)) (Kd.R_base ho46) hb)
                have n2_ := Aside0.mk (Kd.R_lower (Kd.R_newB (Kd.R_newB (Kd.R_new' (Kd.R_new' ho46 (Kd.R_lt (q_r (HO_273001.out)))) (Kd.R_lt (q_r (HO294.out)))) (q_b BK286.out)) (q_b BK291.out)) (keep_size (w := w) (g := g) (row := none) q_K))
                have n3_ := Aside0.mk (blk_below (q_b BK271.out) hb)
                have n4_ := Aside0.mk (blk_below (q_b BK272.out) hb)
                have n5_ := Aside0.mk (IsS130.below q_I130_0_1 hb)
                have n6_ := Aside0.mk (blk_below (q_b BK286.out) hb)
                have n7_ := Aside0.mk (blk_below (q_b BK291.out) hb)
                have n8_ := Aside0.mk (blk_below (q_b BK304.out) hb)
                have n9_ := Aside0.mk (KeepBut.trans q_K (KeepBut.of_below hb g none) (.inl rfl))
                have n10_ := Aside0.mk (below_step q_B130_0 hb)
                clear HO_273001
                clear HO294
                clear BK271
                clear BK272
                clear HI0
                clear BK286
                clear BK291
                clear BK304
                clear HK
                clear HB
                have HO_273001 := n0_
                have HO294 := n1_
                have HO300 := n2_
                have BK271 := n3_
                have BK272 := n4_
                have HI0 := n5_
                have BK286 := n6_
                have BK291 := n7_
                have BK304 := n8_
                have HK := n9_
                have HB := n10_
                clear n0_ n1_ n2_ n3_ n4_ n5_ n6_ n7_ n8_ n9_ n10_
                clear hb ho46
                refine hK.out _ _ ⟨q_z BK272.out 0, q_z BK272.out 1, q_z BK286.out 0, q_z BK286.out 1, q_z BK286.out 2, q_z BK286.out 3, q_z BK291.out 0, q_z BK291.out 1, q_z BK291.out 2, q_z BK291.out 3⟩ (fun hHeld => ?_)
                clear hK K
                refine norm_ (a' := ?_) ?_ ?_
                rotate_left
                ·show Act.put _ (some 48) _ = _
                 simp only [Act.put, List.setIfInBounds_toArray, List.set_cons_zero, List.set_cons_succ, i64_w, i32_w]
                 rfl
                exact norm_ (by first | (simp only [putAll, Act.put, List.setIfInBounds_toArray, List.set_cons_zero, List.set_cons_succ]; done) | (simp only [putAll, Act.put, List.setIfInBounds_toArray, List.set_cons_zero, List.set_cons_succ]; rfl)) (hJ1_7_10 (v293, v299, gb304) _ ⟨hHeld, (by (with_reducible repeat (first | apply Kd.R_alloc | apply Kd.R_drewN | apply Kd.R_drew)); exact Kd.R_mono HO294.out (fun _ hk => ⟨hk.2, ⟨hk.1.1, ⟨hk.1.2.1, hk.1.2.2⟩⟩⟩)), (by (with_reducible repeat (first | apply Kd.R_alloc | apply Kd.R_drewN | apply Kd.R_drew)); exact Kd.R_mono HO300.out (fun _ hk => ⟨hk.1.1.2, ⟨hk.1.1.1.2, ⟨hk.1.2, hk.2⟩⟩⟩)), (by (with_reducible repeat (first | apply Kd.R_alloc | apply Kd.R_drewN | apply Kd.R_drew)); exact Kd.R_mono HO_273001.out (fun _ hk => ⟨hk.1.1, ⟨hk.2, ⟨hk.1.2.1, hk.1.2.2⟩⟩⟩)), kq, kq, kq, kq, kq, GW304.out, GE304.out, NB0_304.out, NB304_0.out, NB271_304.out, NB304_271.out, NB272_304.out, NB304_272.out, NB286_304.out, NB304_286.out, NB291_304.out, NB304_291.out, q_I130_0_1, q_K, q_B130_0⟩)
             ·skip
              rintro ⟨v293, v299⟩ w45 ⟨hS_, h0_, h1_, h2_, h3_, h4_, h5_, h6_, h7_, h8_, h9_⟩
              have n0_ : Aside0 (Kd.R k89 89 w45 w.heap.size (fun k_ => some k_ ≠ (v299 : Value).ownBlock ∧ some k_ ≠ (.slice Ao38 x273001_1.length co38 : Value).ownBlock ∧ k_ ≠ gb286 ∧ k_ ≠ gb291) v293 y292) := ⟨h0_⟩
              have n1_ : Aside0 (Kd.R k89 89 w45 w.heap.size (fun k_ => some k_ ≠ (v293 : Value).ownBlock ∧ some k_ ≠ (.slice Ao38 x273001_1.length co38 : Value).ownBlock ∧ k_ ≠ gb286 ∧ k_ ≠ gb291) v299 y298) := ⟨h1_⟩
              have n2_ : Aside0 (Kd.R k89 89 w45 w.heap.size (fun k_ => some k_ ≠ (v293 : Value).ownBlock ∧ some k_ ≠ (v299 : Value).ownBlock ∧ k_ ≠ gb286 ∧ k_ ≠ gb291) (.slice Ao38 x273001_1.length co38) x273001_1) := ⟨h2_⟩
              have n3_ : Aside0 (w45.heap[gb271]? = some (.cells #[.int .i64 0, .slice none 0 0] 36 (0, 0))) := ⟨h3_⟩
              have n4_ : Aside0 (w45.heap[gb272]? = some (.cells #[.int .i64 x273000_1, .slice Ao38 x273001_1.length co38] 36 (0, 0))) := ⟨h4_⟩
              have n5_ : Aside0 (w45.heap[gb286]? = some (.cells #[.int .i64 t282, .int .i64 t284, .int .i64 t278, .int .i64 (wrap64 (-(wrap64 (1 + t280))))] 89 (0, 0))) := ⟨h5_⟩
              have n6_ : Aside0 (w45.heap[gb291]? = some (.cells #[.int .i64 t287, .int .i64 t289, .int .i64 t278, .int .i64 (wrap64 (1 + t280))] 89 (0, 0))) := ⟨h6_⟩
              have n7_ : Aside0 (IsS130 w0 w45 g s0_0 t290) := ⟨h7_⟩
              have n8_ : Aside0 (KeepBut w w45 g none) := ⟨h8_⟩
              have n9_ : Aside0 (Below w0.heap.size w0 w45) := ⟨h9_⟩
              clear HO_273001
              clear BK271
              clear BK272
              clear BK286
              clear BK291
              clear HI0
              clear HK
              clear HB
              clear h0_ h1_ h2_ h3_ h4_ h5_ h6_ h7_ h8_ h9_
              have HO294 := n0_
              have HO300 := n1_
              have HO_273001 := n2_
              have BK271 := n3_
              have BK272 := n4_
              have BK286 := n5_
              have BK291 := n6_
              have HI0 := n7_
              have HK := n8_
              have HB := n9_
              clear n0_ n1_ n2_ n3_ n4_ n5_ n6_ n7_ n8_ n9_
              have hHeld : w45.cell? ⟨gb272, 0, none⟩ = some (.int .i64 x273000_1) ∧ w45.cell? ⟨gb272, 1, none⟩ = some (.slice Ao38 x273001_1.length co38) ∧ w45.cell? ⟨gb286, 0, none⟩ = some (.int .i64 t282) ∧ w45.cell? ⟨gb286, 1, none⟩ = some (.int .i64 t284) ∧ w45.cell? ⟨gb286, 2, none⟩ = some (.int .i64 t278) ∧ w45.cell? ⟨gb286, 3, none⟩ = some (.int .i64 (wrap64 (-(wrap64 (1 + t280))))) ∧ w45.cell? ⟨gb291, 0, none⟩ = some (.int .i64 t287) ∧ w45.cell? ⟨gb291, 1, none⟩ = some (.int .i64 t289) ∧ w45.cell? ⟨gb291, 2, none⟩ = some (.int .i64 t278) ∧ w45.cell? ⟨gb291, 3, none⟩ = some (.int .i64 (wrap64 (1 + t280))) := hS_
              refine norm_ (a' := ?_) ?_ ?_
              rotate_left
              ·simp only [putAll, Act.put, List.setIfInBounds_toArray, List.set_cons_zero, List.set_cons_succ]
               rfl
              refine two_ (i := 4) (j := 10) (Ni := some 45) (Nj := some 11) #[true, true, true, true, true, true, true, true, false, false, false, false] #[true, true, true, true, false, true, true, true, false, false, true, false] rfl rfl rfl rfl (two_of HT_.out (by kernel_rfl)) (by decide) (by decide) (fun K hK => ?_) (fun K hK => ?_)
              ·skip
               refine Kd.R_append_rows_step k89 w.heap.size (by rfl) (.tmp 42) (.tmp 44) 34 89 (.agg #[(.int .i64 0), (.int .i64 0), (.int .i64 0), (.int .i64 0)]) 32 rfl Try.underlying34 info89 rfl (by decide) (by omega) v293 y292 x273001_1 _ _ _ (fun k_ => some k_ ≠ (.slice Ao38 x273001_1.length co38 : Value).ownBlock ∧ some k_ ≠ (v299 : Value).ownBlock ∧ k_ ≠ gb286 ∧ k_ ≠ gb291) (fun _ => False) rfl rfl ?aO ?aR (fun _ _ h => h) (fun _ h => h.elim) ?aF (Below.refl _ _) ?aS ?aL ?_
               (case aR => repeat (first | exact (Kd.R_reads' HO_273001.out).2.2 | (with_reducible refine Kd.C_alloc ?_ _) | (with_reducible refine Kd.C_drewN ?_ _) | (with_reducible refine Kd.C_drew ?_)))
               (case aF => exact (fun k_ hk => ⟨Kd.fresh' (Kd.R_lt (q_r (HO_273001.out))) k_ hk, Kd.fresh' (Kd.R_lt (q_r (HO300.out))) k_ hk, Kd.freshB (q_b BK286.out) k_ hk, Kd.freshB (q_b BK291.out) k_ hk⟩))
               (case aO => exact (by (with_reducible repeat (first | apply Kd.R_alloc | apply Kd.R_drewN | apply Kd.R_drew)); exact Kd.R_mono HO294.out (fun _ hk => ⟨hk.2.1, ⟨hk.1, ⟨hk.2.2.1, hk.2.2.2⟩⟩⟩)))
               (case aS => exact (keep_size (w := w) (g := g) (row := none) q_K))
               (case aL => have := LMc17.out; omega)
               intro v296 w46 ho hb hg hat
               rw [← Ny295.out] at ho
               have n0_ := Aside0.mk (Kd.R_after (ok := (fun k_ => some k_ ≠ (v299 : Value).ownBlock ∧ k_ ≠ gb286 ∧ k_ ≠ gb291)) (by (with_reducible repeat (first | apply Kd.R_alloc | apply Kd.R_drewN | apply Kd.R_drew)); exact Kd.R_mono HO_273001.out (fun _ hk => ⟨⟨hk.2.1, ⟨hk.2.2.1, hk.2.2.2⟩⟩, hk.1⟩)) hg hat)
               have n1_ := Aside0.mk (blk_grown (q_b BK271.out) hg (Kd.R_ne HO294.out BK271.out (by decide)))
               have n2_ := Aside0.mk (blk_grown (q_b BK272.out) hg (Kd.R_ne HO294.out BK272.out (by decide)))
               have n3_ := Aside0.mk (IsS130.grown q_I130_0_1 hg (IsS130.own_ne HI0.out HO294.out (by decide)))
               have n4_ := Aside0.mk (blk_grown (q_b BK286.out) hg (Kd.R_away HO294.out (fun _ hk => hk.2.2.1)))
               have n5_ := Aside0.mk (blk_grown (q_b BK291.out) hg (Kd.R_away HO294.out (fun _ hk => hk.2.2.2)))
               have n6_ := Aside0.mk (Kd.R_after (ok := (fun k_ => some k_ ≠ (.slice Ao38 x273001_1.length co38 : Value).ownBlock ∧ k_ ≠ gb286 ∧ k_ ≠ gb291)) (by (with_reducible repeat (first | apply Kd.R_alloc | apply Kd.R_drewN | apply Kd.R_drew)); exact Kd.R_mono HO300.out (fun _ hk => ⟨⟨hk.2.1, ⟨hk.2.2.1, hk.2.2.2⟩⟩, hk.1⟩)) hg hat)
               have n7_ := Aside0.mk (below_weaken q_B130_0 HL.out hb)
               have n8_ := Aside0.mk (KeepBut.trans q_K (KeepBut.of_grown hg g) (Kd.R_base2 HO294.out))
               have n9_ := Aside0.mk (ho)
               clear HO_273001
               clear BK271
               clear BK272
               clear HI0
               clear BK286
               clear BK291
               clear HO300
               clear HB
               clear HK
               clear HO294
               have HO_273001 := n0_
               have BK271 := n1_
               have BK272 := n2_
               have HI0 := n3_
               have BK286 := n4_
               have BK291 := n5_
               have HO300 := n6_
               have HB := n7_
               have HK := n8_
               have HO297 := n9_
               clear n0_ n1_ n2_ n3_ n4_ n5_ n6_ n7_ n8_ n9_
               clear ho hb hg hat
               refine hK.out _ _ ⟨q_z BK272.out 0, q_z BK272.out 1, q_z BK286.out 0, q_z BK286.out 1, q_z BK286.out 2, q_z BK286.out 3, q_z BK291.out 0, q_z BK291.out 1, q_z BK291.out 2, q_z BK291.out 3⟩ (fun hHeld => ?_)
               clear hK K
               refine norm_ (a' := ?_) ?_ ?_
               rotate_left
               ·show Act.put _ (some 45) _ = _
                simp only [Act.put, List.setIfInBounds_toArray, List.set_cons_zero, List.set_cons_succ, i64_w, i32_w]
                rfl
               exact norm_ (by first | (simp only [putAll, Act.put, List.setIfInBounds_toArray, List.set_cons_zero, List.set_cons_succ]; done) | (simp only [putAll, Act.put, List.setIfInBounds_toArray, List.set_cons_zero, List.set_cons_succ]; rfl)) (hJ1_4_7 (v293, v296, v299) _ ⟨hHeld, (by (with_reducible repeat (first | apply Kd.R_alloc | apply Kd.R_drewN | apply Kd.R_drew)); exact Kd.R_mono HO297.out (fun _ hk => ⟨hk.2.1, ⟨hk.1, ⟨hk.2.2.1, hk.2.2.2⟩⟩⟩)), (by (with_reducible repeat (first | apply Kd.R_alloc | apply Kd.R_drewN | apply Kd.R_drew)); exact Kd.R_mono HO300.out (fun _ hk => ⟨hk.2, ⟨hk.1.1, ⟨hk.1.2.1, hk.1.2.2⟩⟩⟩)), (by (with_reducible repeat (first | apply Kd.R_alloc | apply Kd.R_drewN | apply Kd.R_drew)); exact Kd.R_mono HO_273001.out (fun _ hk => ⟨hk.2, ⟨hk.1.1, ⟨hk.1.2.1, hk.1.2.2⟩⟩⟩)), kq, kq, kq, kq, q_I130_0_1, q_K, q_B130_0⟩)
              ·skip
               refine box_step ?hg (N := 11) ?hd (cs := #[.int .i64 0, .slice none 0 0]) (t := 36) ?hr ?_; (case hd => rfl); (case hg => rfl); (case hr => first | (go_simp; done) | (go_simp; rfl))
               intro gb304 hg w46 hbox hb
               have n0_ := Aside0.mk (Kd.R_below (q_r (HO_273001.out)) hb)
               have n1_ := Aside0.mk (Kd.R_below (q_r (HO294.out)) hb)
               have n2_ := Aside0.mk (Kd.R_below (q_r (HO300.out)) hb)
               have n3_ := Aside0.mk (blk_below (q_b BK271.out) hb)
               have n4_ := Aside0.mk (blk_below (q_b BK272.out) hb)
               have n5_ := Aside0.mk (IsS130.below q_I130_0_1 hb)
               have n6_ := Aside0.mk (blk_below (q_b BK286.out) hb)
               have n7_ := Aside0.mk (blk_below (q_b BK291.out) hb)
               have n8_ := Aside0.mk (KeepBut.trans q_K (KeepBut.of_below hb g none) (.inl rfl))
               have n9_ := Aside0.mk (below_step q_B130_0 hb)
               have n10_ := Aside0.mk (hbox)
               have n11_ := Aside0.mk ((by rw [hg]; exact (keep_size (w := w) (g := g) (row := none) q_K) : w.heap.size ≤ gb304))
               have n12_ := Aside0.mk ((Nat.le_trans HW0.out (by rw [hg]; exact (keep_size (w := w) (g := g) (row := none) q_K) : w.heap.size ≤ gb304) : w0.heap.size ≤ gb304))
               have n13_ := Aside0.mk ((q_n hg (q_b BK271.out) : gb271 ≠ gb304))
               have n14_ := Aside0.mk ((q_m hg (q_b BK271.out) : gb304 ≠ gb271))
               have n15_ := Aside0.mk ((q_n hg (q_b BK272.out) : gb272 ≠ gb304))
               have n16_ := Aside0.mk ((q_m hg (q_b BK272.out) : gb304 ≠ gb272))
               have n17_ := Aside0.mk ((q_n hg (q_b BK286.out) : gb286 ≠ gb304))
               have n18_ := Aside0.mk ((q_m hg (q_b BK286.out) : gb304 ≠ gb286))
               have n19_ := Aside0.mk ((q_n hg (q_b BK291.out) : gb291 ≠ gb304))
               have n20_ := Aside0.mk ((q_m hg (q_b BK291.out) : gb304 ≠ gb291))
               have n21_ := Aside0.mk ((by rw [hg]; exact Nat.ne_of_lt (IsS130.lt (show IsS130 w0 _ g s0_0 t290 from q_I130_0_1)) : g ≠ gb304))
               have n22_ := Aside0.mk ((by rw [hg]; exact Nat.ne_of_gt (IsS130.lt (show IsS130 w0 _ g s0_0 t290 from q_I130_0_1)) : gb304 ≠ g))
               clear HO_273001
               clear HO294
               clear HO300
               clear BK271
               clear BK272
               clear HI0
               clear BK286
               clear BK291
               clear HK
               clear HB
               have HO_273001 := n0_
               have HO294 := n1_
               have HO300 := n2_
               have BK271 := n3_
               have BK272 := n4_
               have HI0 := n5_
               have BK286 := n6_
               have BK291 := n7_
               have HK := n8_
               have HB := n9_
               have BK304 := n10_
               have GW304 := n11_
               have GE304 := n12_
               have NB271_304 := n13_
               have NB304_271 := n14_
               have NB272_304 := n15_
               have NB304_272 := n16_
               have NB286_304 := n17_
               have NB304_286 := n18_
               have NB291_304 := n19_
               have NB304_291 := n20_
               have NB0_304 := n21_
               have NB304_0 := n22_
               clear n0_ n1_ n2_ n3_ n4_ n5_ n6_ n7_ n8_ n9_ n10_ n11_ n12_ n13_ n14_ n15_ n16_ n17_ n18_ n19_ n20_ n21_ n22_
               clear hb hbox hg
               refine hK.out _ _ ⟨q_z BK272.out 0, q_z BK272.out 1, q_z BK286.out 0, q_z BK286.out 1, q_z BK286.out 2, q_z BK286.out 3, q_z BK291.out 0, q_z BK291.out 1, q_z BK291.out 2, q_z BK291.out 3⟩ (fun hHeld => ?_)
               clear hK K
               refine norm_ (a' := ?_) ?_ ?_
               rotate_left
               ·show Act.put _ (some 11) _ = _
                simp only [Act.put, List.setIfInBounds_toArray, List.set_cons_zero, List.set_cons_succ, i64_w, i32_w]
                rfl
               exact norm_ (by first | (simp only [putAll, Act.put, List.setIfInBounds_toArray, List.set_cons_zero, List.set_cons_succ]; done) | (simp only [putAll, Act.put, List.setIfInBounds_toArray, List.set_cons_zero, List.set_cons_succ]; rfl)) (hJ1_7_10 (v293, v299, gb304) _ ⟨hHeld, (q_r (HO294.out)), (q_r (HO300.out)), (q_r (HO_273001.out)), kq, kq, kq, kq, kq, GW304.out, GE304.out, NB0_304.out, NB304_0.out, NB271_304.out, NB304_271.out, NB272_304.out, NB304_272.out, NB286_304.out, NB304_286.out, NB291_304.out, NB304_291.out, q_I130_0_1, q_K, q_B130_0⟩)
            ·skip
             rintro ⟨v293, v296⟩ w44 ⟨hS_, h0_, h1_, h2_, h3_, h4_, h5_, h6_, h7_, h8_⟩
             have n0_ : Aside0 (Kd.R k89 89 w44 w.heap.size (fun k_ => some k_ ≠ (.slice Ao38 x273001_1.length co38 : Value).ownBlock ∧ k_ ≠ gb286 ∧ k_ ≠ gb291) v296 y295) := ⟨h0_⟩
             have n1_ : Aside0 (Kd.R k89 89 w44 w.heap.size (fun k_ => some k_ ≠ (v296 : Value).ownBlock ∧ k_ ≠ gb286 ∧ k_ ≠ gb291) (.slice Ao38 x273001_1.length co38) x273001_1) := ⟨h1_⟩
             have n2_ : Aside0 (w44.heap[gb271]? = some (.cells #[.int .i64 0, .slice none 0 0] 36 (0, 0))) := ⟨h2_⟩
             have n3_ : Aside0 (w44.heap[gb272]? = some (.cells #[.int .i64 x273000_1, .slice Ao38 x273001_1.length co38] 36 (0, 0))) := ⟨h3_⟩
             have n4_ : Aside0 (w44.heap[gb286]? = some (.cells #[.int .i64 t282, .int .i64 t284, .int .i64 t278, .int .i64 (wrap64 (-(wrap64 (1 + t280))))] 89 (0, 0))) := ⟨h4_⟩
             have n5_ : Aside0 (w44.heap[gb291]? = some (.cells #[.int .i64 t287, .int .i64 t289, .int .i64 t278, .int .i64 (wrap64 (1 + t280))] 89 (0, 0))) := ⟨h5_⟩
             have n6_ : Aside0 (IsS130 w0 w44 g s0_0 t290) := ⟨h6_⟩
             have n7_ : Aside0 (KeepBut w w44 g none) := ⟨h7_⟩
             have n8_ : Aside0 (Below w0.heap.size w0 w44) := ⟨h8_⟩
             clear HO_273001
             clear BK271
             clear BK272
             clear BK286
             clear BK291
             clear HI0
             clear HK
             clear HB
             clear h0_ h1_ h2_ h3_ h4_ h5_ h6_ h7_ h8_
             have HO297 := n0_
             have HO_273001 := n1_
             have BK271 := n2_
             have BK272 := n3_
             have BK286 := n4_
             have BK291 := n5_
             have HI0 := n6_
             have HK := n7_
             have HB := n8_
             clear n0_ n1_ n2_ n3_ n4_ n5_ n6_ n7_ n8_
             have hHeld : w44.cell? ⟨gb272, 0, none⟩ = some (.int .i64 x273000_1) ∧ w44.cell? ⟨gb272, 1, none⟩ = some (.slice Ao38 x273001_1.length co38) ∧ w44.cell? ⟨gb286, 0, none⟩ = some (.int .i64 t282) ∧ w44.cell? ⟨gb286, 1, none⟩ = some (.int .i64 t284) ∧ w44.cell? ⟨gb286, 2, none⟩ = some (.int .i64 t278) ∧ w44.cell? ⟨gb286, 3, none⟩ = some (.int .i64 (wrap64 (-(wrap64 (1 + t280))))) ∧ w44.cell? ⟨gb291, 0, none⟩ = some (.int .i64 t287) ∧ w44.cell? ⟨gb291, 1, none⟩ = some (.int .i64 t289) ∧ w44.cell? ⟨gb291, 2, none⟩ = some (.int .i64 t278) ∧ w44.cell? ⟨gb291, 3, none⟩ = some (.int .i64 (wrap64 (1 + t280))) := hS_
             refine norm_ (a' := ?_) ?_ ?_
             rotate_left
             ·simp only [putAll, Act.put, List.setIfInBounds_toArray, List.set_cons_zero, List.set_cons_succ]
              rfl
             refine two_ (i := 7) (j := 10) (Ni := some 48) (Nj := some 11) #[true, true, true, true, true, true, true, true, false, false, false, false] #[true, true, true, true, true, true, true, false, false, false, true, false] rfl rfl rfl rfl (two_of HT_.out (by kernel_rfl)) (by decide) (by decide) (fun K hK => ?_) (fun K hK => ?_)
             ·skip
              refine Kd.R_lit_step k89 _ 89 ?hg (N := 48) ?hd (xs := ([(⟨t282, t284, t278, wrap64 (-(wrap64 (1 + t280)))⟩ : S89), (⟨t287, t289, t278, wrap64 (1 + t280)⟩ : S89)] : List (S89))) (inner := [.int .i64 t282, .int .i64 t284, .int .i64 t278, .int .i64 (wrap64 (-(wrap64 (1 + t280)))), .int .i64 t287, .int .i64 t289, .int .i64 t278, .int .i64 (wrap64 (1 + t280))]) (ok := fun _ => True) (okp := fun _ => True) ?hr ?hp (fun _ hk => hk) trivial (Below.refl _ _) (Nat.le_refl _) (by simp) ?_; (case hd => rfl); (case hg => rfl); (case hr => first | (go_simp; done) | (go_simp; rfl)); (case hp => exact (Reps.c4 (show Kd.M k89 _ _ _ (⟨t282, t284, t278, wrap64 (-(wrap64 (1 + t280)))⟩ : S89) [.int .i64 t282, .int .i64 t284, .int .i64 t278, .int .i64 (wrap64 (-(wrap64 (1 + t280))))] from (k89_mkM _ _ _ (⟨t282, t284, t278, wrap64 (-(wrap64 (1 + t280)))⟩ : S89) )) (Reps.c4 (show Kd.M k89 _ _ _ (⟨t287, t289, t278, wrap64 (1 + t280)⟩ : S89) [.int .i64 t287, .int .i64 t289, .int .i64 t278, .int .i64 (wrap64 (1 + t280))] from (k89_mkM _ _ _ (⟨t287, t289, t278, wrap64 (1 + t280)⟩ : S89) )) (Reps.none _ _))))
              intro v299 w45 ho46 hb hg_ hnew_
              clear hg_ hnew_
              (first | rw [← Ny298.out] at ho46 | (simp only [Int.reduceToNat] at ho46; rw [← Ny298.out] at ho46))
              have n0_ := Aside0.mk (Kd.R_elder' (q_r (HO_273001.out)) (Kd.R_base ho46) hb)
              have n1_ := Aside0.mk (Kd.R_elder' (q_r (HO297.out)) (Kd.R_base ho46) hb)
              have n2_ := Aside0.mk (Kd.R_lower (Kd.R_newB (Kd.R_newB (Kd.R_new' (Kd.R_new' ho46 (Kd.R_lt (q_r (HO_273001.out)))) (Kd.R_lt (q_r (HO297.out)))) (q_b BK286.out)) (q_b BK291.out)) (keep_size (w := w) (g := g) (row := none) q_K))
              have n3_ := Aside0.mk (blk_below (q_b BK271.out) hb)
              have n4_ := Aside0.mk (blk_below (q_b BK272.out) hb)
              have n5_ := Aside0.mk (IsS130.below q_I130_0_1 hb)
              have n6_ := Aside0.mk (blk_below (q_b BK286.out) hb)
              have n7_ := Aside0.mk (blk_below (q_b BK291.out) hb)
              have n8_ := Aside0.mk (KeepBut.trans q_K (KeepBut.of_below hb g none) (.inl rfl))
              have n9_ := Aside0.mk (below_step q_B130_0 hb)
              clear HO_273001
              clear HO297
              clear BK271
              clear BK272
              clear HI0
              clear BK286
              clear BK291
              clear HK
              clear HB
              have HO_273001 := n0_
              have HO297 := n1_
              have HO300 := n2_
              have BK271 := n3_
              have BK272 := n4_
              have HI0 := n5_
              have BK286 := n6_
              have BK291 := n7_
              have HK := n8_
              have HB := n9_
              clear n0_ n1_ n2_ n3_ n4_ n5_ n6_ n7_ n8_ n9_
              clear hb ho46
              refine hK.out _ _ ⟨q_z BK272.out 0, q_z BK272.out 1, q_z BK286.out 0, q_z BK286.out 1, q_z BK286.out 2, q_z BK286.out 3, q_z BK291.out 0, q_z BK291.out 1, q_z BK291.out 2, q_z BK291.out 3⟩ (fun hHeld => ?_)
              clear hK K
              refine norm_ (a' := ?_) ?_ ?_
              rotate_left
              ·show Act.put _ (some 48) _ = _
               simp only [Act.put, List.setIfInBounds_toArray, List.set_cons_zero, List.set_cons_succ, i64_w, i32_w]
               rfl
              exact norm_ (by first | (simp only [putAll, Act.put, List.setIfInBounds_toArray, List.set_cons_zero, List.set_cons_succ]; done) | (simp only [putAll, Act.put, List.setIfInBounds_toArray, List.set_cons_zero, List.set_cons_succ]; rfl)) (hJ1_4_7 (v293, v296, v299) _ ⟨hHeld, (by (with_reducible repeat (first | apply Kd.R_alloc | apply Kd.R_drewN | apply Kd.R_drew)); exact Kd.R_mono HO297.out (fun _ hk => ⟨hk.2, ⟨hk.1.1, ⟨hk.1.2.1, hk.1.2.2⟩⟩⟩)), (by (with_reducible repeat (first | apply Kd.R_alloc | apply Kd.R_drewN | apply Kd.R_drew)); exact Kd.R_mono HO300.out (fun _ hk => ⟨hk.1.1.2, ⟨hk.1.1.1.2, ⟨hk.1.2, hk.2⟩⟩⟩)), (by (with_reducible repeat (first | apply Kd.R_alloc | apply Kd.R_drewN | apply Kd.R_drew)); exact Kd.R_mono HO_273001.out (fun _ hk => ⟨hk.1.1, ⟨hk.2, ⟨hk.1.2.1, hk.1.2.2⟩⟩⟩)), kq, kq, kq, kq, q_I130_0_1, q_K, q_B130_0⟩)
             ·skip
              refine box_step ?hg (N := 11) ?hd (cs := #[.int .i64 0, .slice none 0 0]) (t := 36) ?hr ?_; (case hd => rfl); (case hg => rfl); (case hr => first | (go_simp; done) | (go_simp; rfl))
              intro gb304 hg w45 hbox hb
              have n0_ := Aside0.mk (Kd.R_below (q_r (HO_273001.out)) hb)
              have n1_ := Aside0.mk (Kd.R_below (q_r (HO297.out)) hb)
              have n2_ := Aside0.mk (blk_below (q_b BK271.out) hb)
              have n3_ := Aside0.mk (blk_below (q_b BK272.out) hb)
              have n4_ := Aside0.mk (IsS130.below q_I130_0_1 hb)
              have n5_ := Aside0.mk (blk_below (q_b BK286.out) hb)
              have n6_ := Aside0.mk (blk_below (q_b BK291.out) hb)
              have n7_ := Aside0.mk (KeepBut.trans q_K (KeepBut.of_below hb g none) (.inl rfl))
              have n8_ := Aside0.mk (below_step q_B130_0 hb)
              have n9_ := Aside0.mk (hbox)
              have n10_ := Aside0.mk ((by rw [hg]; exact (keep_size (w := w) (g := g) (row := none) q_K) : w.heap.size ≤ gb304))
              have n11_ := Aside0.mk ((Nat.le_trans HW0.out (by rw [hg]; exact (keep_size (w := w) (g := g) (row := none) q_K) : w.heap.size ≤ gb304) : w0.heap.size ≤ gb304))
              have n12_ := Aside0.mk ((q_n hg (q_b BK271.out) : gb271 ≠ gb304))
              have n13_ := Aside0.mk ((q_m hg (q_b BK271.out) : gb304 ≠ gb271))
              have n14_ := Aside0.mk ((q_n hg (q_b BK272.out) : gb272 ≠ gb304))
              have n15_ := Aside0.mk ((q_m hg (q_b BK272.out) : gb304 ≠ gb272))
              have n16_ := Aside0.mk ((q_n hg (q_b BK286.out) : gb286 ≠ gb304))
              have n17_ := Aside0.mk ((q_m hg (q_b BK286.out) : gb304 ≠ gb286))
              have n18_ := Aside0.mk ((q_n hg (q_b BK291.out) : gb291 ≠ gb304))
              have n19_ := Aside0.mk ((q_m hg (q_b BK291.out) : gb304 ≠ gb291))
              have n20_ := Aside0.mk ((by rw [hg]; exact Nat.ne_of_lt (IsS130.lt (show IsS130 w0 _ g s0_0 t290 from q_I130_0_1)) : g ≠ gb304))
              have n21_ := Aside0.mk ((by rw [hg]; exact Nat.ne_of_gt (IsS130.lt (show IsS130 w0 _ g s0_0 t290 from q_I130_0_1)) : gb304 ≠ g))
              clear HO_273001
              clear HO297
              clear BK271
              clear BK272
              clear HI0
              clear BK286
              clear BK291
              clear HK
              clear HB
              have HO_273001 := n0_
              have HO297 := n1_
              have BK271 := n2_
              have BK272 := n3_
              have HI0 := n4_
              have BK286 := n5_
              have BK291 := n6_
              have HK := n7_
              have HB := n8_
              have BK304 := n9_
              have GW304 := n10_
              have GE304 := n11_
              have NB271_304 := n12_
              have NB304_271 := n13_
              have NB272_304 := n14_
              have NB304_272 := n15_
              have NB286_304 := n16_
              have NB304_286 := n17_
              have NB291_304 := n18_
              have NB304_291 := n19_
              have NB0_304 := n20_
              have NB304_0 := n21_
              clear n0_ n1_ n2_ n3_ n4_ n5_ n6_ n7_ n8_ n9_ n10_ n11_ n12_ n13_ n14_ n15_ n16_ n17_ n18_ n19_ n20_ n21_
              clear hb hbox hg
              refine hK.out _ _ ⟨q_z BK272.out 0, q_z BK272.out 1, q_z BK286.out 0, q_z BK286.out 1, q_z BK286.out 2, q_z BK286.out 3, q_z BK291.out 0, q_z BK291.out 1, q_z BK291.out 2, q_z BK291.out 3⟩ (fun hHeld => ?_)
              clear hK K
              refine norm_ (a' := ?_) ?_ ?_
              rotate_left
              ·show Act.put _ (some 11) _ = _
               simp only [Act.put, List.setIfInBounds_toArray, List.set_cons_zero, List.set_cons_succ, i64_w, i32_w]
               rfl
              exact norm_ (by first | (simp only [putAll, Act.put, List.setIfInBounds_toArray, List.set_cons_zero, List.set_cons_succ]; done) | (simp only [putAll, Act.put, List.setIfInBounds_toArray, List.set_cons_zero, List.set_cons_succ]; rfl)) (hJ1_4_10 (v293, v296, gb304) _ ⟨hHeld, (q_r (HO297.out)), (q_r (HO_273001.out)), kq, kq, kq, kq, kq, GW304.out, GE304.out, NB0_304.out, NB304_0.out, NB271_304.out, NB304_271.out, NB272_304.out, NB304_272.out, NB286_304.out, NB304_286.out, NB291_304.out, NB304_291.out, q_I130_0_1, q_K, q_B130_0⟩)
           ·skip
            rintro ⟨v293, v299, gb304⟩ w46 ⟨hS_, h0_, h1_, h2_, h3_, h4_, h5_, h6_, h7_, h8_, h9_, h10_, h11_, h12_, h13_, h14_, h15_, h16_, h17_, h18_, h19_, h20_, h21_, h22_⟩
            have n0_ : Aside0 (Kd.R k89 89 w46 w.heap.size (fun k_ => some k_ ≠ (v299 : Value).ownBlock ∧ some k_ ≠ (.slice Ao38 x273001_1.length co38 : Value).ownBlock ∧ k_ ≠ gb286 ∧ k_ ≠ gb291) v293 y292) := ⟨h0_⟩
            have n1_ : Aside0 (Kd.R k89 89 w46 w.heap.size (fun k_ => some k_ ≠ (v293 : Value).ownBlock ∧ some k_ ≠ (.slice Ao38 x273001_1.length co38 : Value).ownBlock ∧ k_ ≠ gb286 ∧ k_ ≠ gb291) v299 y298) := ⟨h1_⟩
            have n2_ : Aside0 (Kd.R k89 89 w46 w.heap.size (fun k_ => some k_ ≠ (v293 : Value).ownBlock ∧ some k_ ≠ (v299 : Value).ownBlock ∧ k_ ≠ gb286 ∧ k_ ≠ gb291) (.slice Ao38 x273001_1.length co38) x273001_1) := ⟨h2_⟩
            have n3_ : Aside0 (w46.heap[gb271]? = some (.cells #[.int .i64 0, .slice none 0 0] 36 (0, 0))) := ⟨h3_⟩
            have n4_ : Aside0 (w46.heap[gb272]? = some (.cells #[.int .i64 x273000_1, .slice Ao38 x273001_1.length co38] 36 (0, 0))) := ⟨h4_⟩
            have n5_ : Aside0 (w46.heap[gb286]? = some (.cells #[.int .i64 t282, .int .i64 t284, .int .i64 t278, .int .i64 (wrap64 (-(wrap64 (1 + t280))))] 89 (0, 0))) := ⟨h5_⟩
            have n6_ : Aside0 (w46.heap[gb291]? = some (.cells #[.int .i64 t287, .int .i64 t289, .int .i64 t278, .int .i64 (wrap64 (1 + t280))] 89 (0, 0))) := ⟨h6_⟩
            have n7_ : Aside0 (w46.heap[gb304]? = some (.cells #[.int .i64 0, .slice none 0 0] 36 (0, 0))) := ⟨h7_⟩
            have n8_ : Aside0 (w.heap.size ≤ gb304) := ⟨h8_⟩
            have n9_ : Aside0 (w0.heap.size ≤ gb304) := ⟨h9_⟩
            have n10_ : Aside0 (g ≠ gb304) := ⟨h10_⟩
            have n11_ : Aside0 (gb304 ≠ g) := ⟨h11_⟩
            have n12_ : Aside0 (gb271 ≠ gb304) := ⟨h12_⟩
            have n13_ : Aside0 (gb304 ≠ gb271) := ⟨h13_⟩
            have n14_ : Aside0 (gb272 ≠ gb304) := ⟨h14_⟩
            have n15_ : Aside0 (gb304 ≠ gb272) := ⟨h15_⟩
            have n16_ : Aside0 (gb286 ≠ gb304) := ⟨h16_⟩
            have n17_ : Aside0 (gb304 ≠ gb286) := ⟨h17_⟩
            have n18_ : Aside0 (gb291 ≠ gb304) := ⟨h18_⟩
            have n19_ : Aside0 (gb304 ≠ gb291) := ⟨h19_⟩
            have n20_ : Aside0 (IsS130 w0 w46 g s0_0 t290) := ⟨h20_⟩
            have n21_ : Aside0 (KeepBut w w46 g none) := ⟨h21_⟩
            have n22_ : Aside0 (Below w0.heap.size w0 w46) := ⟨h22_⟩
            clear HO_273001
            clear BK271
            clear BK272
            clear BK286
            clear BK291
            clear HI0
            clear HK
            clear HB
            clear h0_ h1_ h2_ h3_ h4_ h5_ h6_ h7_ h8_ h9_ h10_ h11_ h12_ h13_ h14_ h15_ h16_ h17_ h18_ h19_ h20_ h21_ h22_
            have HO294 := n0_
            have HO300 := n1_
            have HO_273001 := n2_
            have BK271 := n3_
            have BK272 := n4_
            have BK286 := n5_
            have BK291 := n6_
            have BK304 := n7_
            have GW304 := n8_
            have GE304 := n9_
            have NB0_304 := n10_
            have NB304_0 := n11_
            have NB271_304 := n12_
            have NB304_271 := n13_
            have NB272_304 := n14_
            have NB304_272 := n15_
            have NB286_304 := n16_
            have NB304_286 := n17_
            have NB291_304 := n18_
            have NB304_291 := n19_
            have HI0 := n20_
            have HK := n21_
            have HB := n22_
            clear n0_ n1_ n2_ n3_ n4_ n5_ n6_ n7_ n8_ n9_ n10_ n11_ n12_ n13_ n14_ n15_ n16_ n17_ n18_ n19_ n20_ n21_ n22_
            have hHeld : w46.cell? ⟨gb272, 0, none⟩ = some (.int .i64 x273000_1) ∧ w46.cell? ⟨gb272, 1, none⟩ = some (.slice Ao38 x273001_1.length co38) ∧ w46.cell? ⟨gb286, 0, none⟩ = some (.int .i64 t282) ∧ w46.cell? ⟨gb286, 1, none⟩ = some (.int .i64 t284) ∧ w46.cell? ⟨gb286, 2, none⟩ = some (.int .i64 t278) ∧ w46.cell? ⟨gb286, 3, none⟩ = some (.int .i64 (wrap64 (-(wrap64 (1 + t280))))) ∧ w46.cell? ⟨gb291, 0, none⟩ = some (.int .i64 t287) ∧ w46.cell? ⟨gb291, 1, none⟩ = some (.int .i64 t289) ∧ w46.cell? ⟨gb291, 2, none⟩ = some (.int .i64 t278) ∧ w46.cell? ⟨gb291, 3, none⟩ = some (.int .i64 (wrap64 (1 + t280))) := hS_
            refine norm_ (a' := ?_) ?_ ?_
            rotate_left
            ·simp only [putAll, Act.put, List.setIfInBounds_toArray, List.set_cons_zero, List.set_cons_succ]
             rfl
            refine one_ (i := 4) (N := some 45) #[true, true, true, true, true, true, true, true, false, false, true, false] rfl rfl (one_of HT_.out (by kernel_rfl)) (by decide) (fun K hK => ?_)
            refine Kd.R_append_rows_step k89 w.heap.size (by rfl) (.tmp 42) (.tmp 44) 34 89 (.agg #[(.int .i64 0), (.int .i64 0), (.int .i64 0), (.int .i64 0)]) 32 rfl Try.underlying34 info89 rfl (by decide) (by omega) v293 y292 x273001_1 _ _ _ (fun k_ => some k_ ≠ (.slice Ao38 x273001_1.length co38 : Value).ownBlock ∧ some k_ ≠ (v299 : Value).ownBlock ∧ k_ ≠ gb286 ∧ k_ ≠ gb291) (fun _ => False) rfl rfl ?aO ?aR (fun _ _ h => h) (fun _ h => h.elim) ?aF (Below.refl _ _) ?aS ?aL ?_
            (case aR => repeat (first | exact (Kd.R_reads' HO_273001.out).2.2 | (with_reducible refine Kd.C_alloc ?_ _) | (with_reducible refine Kd.C_drewN ?_ _) | (with_reducible refine Kd.C_drew ?_)))
            (case aF => exact (fun k_ hk => ⟨Kd.fresh' (Kd.R_lt (q_r (HO_273001.out))) k_ hk, Kd.fresh' (Kd.R_lt (q_r (HO300.out))) k_ hk, Kd.freshB (q_b BK286.out) k_ hk, Kd.freshB (q_b BK291.out) k_ hk⟩))
            (case aO => exact (by (with_reducible repeat (first | apply Kd.R_alloc | apply Kd.R_drewN | apply Kd.R_drew)); exact Kd.R_mono HO294.out (fun _ hk => ⟨hk.2.1, ⟨hk.1, ⟨hk.2.2.1, hk.2.2.2⟩⟩⟩)))
            (case aS => exact (keep_size (w := w) (g := g) (row := none) q_K))
            (case aL => have := LMc17.out; omega)
            intro v296 w47 ho hb hg hat
            rw [← Ny295.out] at ho
            have n0_ := Aside0.mk (Kd.R_after (ok := (fun k_ => some k_ ≠ (v299 : Value).ownBlock ∧ k_ ≠ gb286 ∧ k_ ≠ gb291)) (by (with_reducible repeat (first | apply Kd.R_alloc | apply Kd.R_drewN | apply Kd.R_drew)); exact Kd.R_mono HO_273001.out (fun _ hk => ⟨⟨hk.2.1, ⟨hk.2.2.1, hk.2.2.2⟩⟩, hk.1⟩)) hg hat)
            have n1_ := Aside0.mk (blk_grown (q_b BK271.out) hg (Kd.R_ne HO294.out BK271.out (by decide)))
            have n2_ := Aside0.mk (blk_grown (q_b BK272.out) hg (Kd.R_ne HO294.out BK272.out (by decide)))
            have n3_ := Aside0.mk (IsS130.grown q_I130_0_1 hg (IsS130.own_ne HI0.out HO294.out (by decide)))
            have n4_ := Aside0.mk (blk_grown (q_b BK286.out) hg (Kd.R_away HO294.out (fun _ hk => hk.2.2.1)))
            have n5_ := Aside0.mk (blk_grown (q_b BK291.out) hg (Kd.R_away HO294.out (fun _ hk => hk.2.2.2)))
            have n6_ := Aside0.mk (Kd.R_after (ok := (fun k_ => some k_ ≠ (.slice Ao38 x273001_1.length co38 : Value).ownBlock ∧ k_ ≠ gb286 ∧ k_ ≠ gb291)) (by (with_reducible repeat (first | apply Kd.R_alloc | apply Kd.R_drewN | apply Kd.R_drew)); exact Kd.R_mono HO300.out (fun _ hk => ⟨⟨hk.2.1, ⟨hk.2.2.1, hk.2.2.2⟩⟩, hk.1⟩)) hg hat)
            have n7_ := Aside0.mk (blk_grown (q_b BK304.out) hg (Kd.R_ne HO294.out BK304.out (by decide)))
            have n8_ := Aside0.mk (below_weaken q_B130_0 HL.out hb)
            have n9_ := Aside0.mk (KeepBut.trans q_K (KeepBut.of_grown hg g) (Kd.R_base2 HO294.out))
            have n10_ := Aside0.mk (ho)
            clear HO_273001
            clear BK271
            clear BK272
            clear HI0
            clear BK286
            clear BK291
            clear HO300
            clear BK304
            clear HB
            clear HK
            clear HO294
            have HO_273001 := n0_
            have BK271 := n1_
            have BK272 := n2_
            have HI0 := n3_
            have BK286 := n4_
            have BK291 := n5_
            have HO300 := n6_
            have BK304 := n7_
            have HB := n8_
            have HK := n9_
            have HO297 := n10_
            clear n0_ n1_ n2_ n3_ n4_ n5_ n6_ n7_ n8_ n9_ n10_
            clear ho hb hg hat
            refine hK.out _ _ ⟨q_z BK272.out 0, q_z BK272.out 1, q_z BK286.out 0, q_z BK286.out 1, q_z BK286.out 2, q_z BK286.out 3, q_z BK291.out 0, q_z BK291.out 1, q_z BK291.out 2, q_z BK291.out 3⟩ (fun hHeld => ?_)
            clear hK K
            refine norm_ (a' := ?_) ?_ ?_
            rotate_left
            ·show Act.put _ (some 45) _ = _
             simp only [Act.put, List.setIfInBounds_toArray, List.set_cons_zero, List.set_cons_succ, i64_w, i32_w]
             rfl
            exact norm_ (by first | (simp only [putAll, Act.put, List.setIfInBounds_toArray, List.set_cons_zero, List.set_cons_succ]; done) | (simp only [putAll, Act.put, List.setIfInBounds_toArray, List.set_cons_zero, List.set_cons_succ]; rfl)) (hJ1_4_7_10 (v293, v296, v299, gb304) _ ⟨hHeld, (by (with_reducible repeat (first | apply Kd.R_alloc | apply Kd.R_drewN | apply Kd.R_drew)); exact Kd.R_mono HO297.out (fun _ hk => ⟨hk.2.1, ⟨hk.1, ⟨hk.2.2.1, hk.2.2.2⟩⟩⟩)), (by (with_reducible repeat (first | apply Kd.R_alloc | apply Kd.R_drewN | apply Kd.R_drew)); exact Kd.R_mono HO300.out (fun _ hk => ⟨hk.2, ⟨hk.1.1, ⟨hk.1.2.1, hk.1.2.2⟩⟩⟩)), (by (with_reducible repeat (first | apply Kd.R_alloc | apply Kd.R_drewN | apply Kd.R_drew)); exact Kd.R_mono HO_273001.out (fun _ hk => ⟨hk.2, ⟨hk.1.1, ⟨hk.1.2.1, hk.1.2.2⟩⟩⟩)), kq, kq, kq, kq, kq, GW304.out, GE304.out, NB0_304.out, NB304_0.out, NB271_304.out, NB304_271.out, NB272_304.out, NB304_272.out, NB286_304.out, NB304_286.out, NB291_304.out, NB304_291.out, q_I130_0_1, q_K, q_B130_0⟩)
          ·skip
           rintro ⟨v293, v296, gb304⟩ w45 ⟨hS_, h0_, h1_, h2_, h3_, h4_, h5_, h6_, h7_, h8_, h9_, h10_, h11_, h12_, h13_, h14_, h15_, h16_, h17_, h18_, h19_, h20_, h21_⟩
           have n0_ : Aside0 (Kd.R k89 89 w45 w.heap.size (fun k_ => some k_ ≠ (.slice Ao38 x273001_1.length co38 : Value).ownBlock ∧ k_ ≠ gb286 ∧ k_ ≠ gb291) v296 y295) := ⟨h0_⟩
           have n1_ : Aside0 (Kd.R k89 89 w45 w.heap.size (fun k_ => some k_ ≠ (v296 : Value).ownBlock ∧ k_ ≠ gb286 ∧ k_ ≠ gb291) (.slice Ao38 x273001_1.length co38) x273001_1) := ⟨h1_⟩
           have n2_ : Aside0 (w45.heap[gb271]? = some (.cells #[.int .i64 0, .slice none 0 0] 36 (0, 0))) := ⟨h2_⟩
           have n3_ : Aside0 (w45.heap[gb272]? = some (.cells #[.int .i64 x273000_1, .slice Ao38 x273001_1.length co38] 36 (0, 0))) := ⟨h3_⟩
           have n4_ : Aside0 (w45.heap[gb286]? = some (.cells #[.int .i64 t282, .int .i64 t284, .int .i64 t278, .int .i64 (wrap64 (-(wrap64 (1 + t280))))] 89 (0, 0))) := ⟨h4_⟩
           have n5_ : Aside0 (w45.heap[gb291]? = some (.cells #[.int .i64 t287, .int .i64 t289, .int .i64 t278, .int .i64 (wrap64 (1 + t280))] 89 (0, 0))) := ⟨h5_⟩
           have n6_ : Aside0 (w45.heap[gb304]? = some (.cells #[.int .i64 0, .slice none 0 0] 36 (0, 0))) := ⟨h6_⟩
           have n7_ : Aside0 (w.heap.size ≤ gb304) := ⟨h7_⟩
           have n8_ : Aside0 (w0.heap.size ≤ gb304) := ⟨h8_⟩
           have n9_ : Aside0 (g ≠ gb304) := ⟨h9_⟩
           have n10_ : Aside0 (gb304 ≠ g) := ⟨h10_⟩
           have n11_ : Aside0 (gb271 ≠ gb304) := ⟨h11_⟩
           have n12_ : Aside0 (gb304 ≠ gb271) := ⟨h12_⟩
           have n13_ : Aside0 (gb272 ≠ gb304) := ⟨h13_⟩
           have n14_ : Aside0 (gb304 ≠ gb272) := ⟨h14_⟩
           have n15_ : Aside0 (gb286 ≠ gb304) := ⟨h15_⟩
           have n16_ : Aside0 (gb304 ≠ gb286) := ⟨h16_⟩
           have n17_ : Aside0 (gb291 ≠ gb304) := ⟨h17_⟩
           have n18_ : Aside0 (gb304 ≠ gb291) := ⟨h18_⟩
           have n19_ : Aside0 (IsS130 w0 w45 g s0_0 t290) := ⟨h19_⟩
           have n20_ : Aside0 (KeepBut w w45 g none) := ⟨h20_⟩
           have n21_ : Aside0 (Below w0.heap.size w0 w45) := ⟨h21_⟩
           clear HO_273001
           clear BK271
           clear BK272
           clear BK286
           clear BK291
           clear HI0
           clear HK
           clear HB
           clear h0_ h1_ h2_ h3_ h4_ h5_ h6_ h7_ h8_ h9_ h10_ h11_ h12_ h13_ h14_ h15_ h16_ h17_ h18_ h19_ h20_ h21_
           have HO297 := n0_
           have HO_273001 := n1_
           have BK271 := n2_
           have BK272 := n3_
           have BK286 := n4_
           have BK291 := n5_
           have BK304 := n6_
           have GW304 := n7_
           have GE304 := n8_
           have NB0_304 := n9_
           have NB304_0 := n10_
           have NB271_304 := n11_
           have NB304_271 := n12_
           have NB272_304 := n13_
           have NB304_272 := n14_
           have NB286_304 := n15_
           have NB304_286 := n16_
           have NB291_304 := n17_
           have NB304_291 := n18_
           have HI0 := n19_
           have HK := n20_
           have HB := n21_
           clear n0_ n1_ n2_ n3_ n4_ n5_ n6_ n7_ n8_ n9_ n10_ n11_ n12_ n13_ n14_ n15_ n16_ n17_ n18_ n19_ n20_ n21_
           have hHeld : w45.cell? ⟨gb272, 0, none⟩ = some (.int .i64 x273000_1) ∧ w45.cell? ⟨gb272, 1, none⟩ = some (.slice Ao38 x273001_1.length co38) ∧ w45.cell? ⟨gb286, 0, none⟩ = some (.int .i64 t282) ∧ w45.cell? ⟨gb286, 1, none⟩ = some (.int .i64 t284) ∧ w45.cell? ⟨gb286, 2, none⟩ = some (.int .i64 t278) ∧ w45.cell? ⟨gb286, 3, none⟩ = some (.int .i64 (wrap64 (-(wrap64 (1 + t280))))) ∧ w45.cell? ⟨gb291, 0, none⟩ = some (.int .i64 t287) ∧ w45.cell? ⟨gb291, 1, none⟩ = some (.int .i64 t289) ∧ w45.cell? ⟨gb291, 2, none⟩ = some (.int .i64 t278) ∧ w45.cell? ⟨gb291, 3, none⟩ = some (.int .i64 (wrap64 (1 + t280))) := hS_
           refine norm_ (a' := ?_) ?_ ?_
           rotate_left
           ·simp only [putAll, Act.put, List.setIfInBounds_toArray, List.set_cons_zero, List.set_cons_succ]
            rfl
           refine one_ (i := 7) (N := some 48) #[true, true, true, true, true, true, true, true, false, false, true, false] rfl rfl (one_of HT_.out (by kernel_rfl)) (by decide) (fun K hK => ?_)
           refine Kd.R_lit_step k89 _ 89 ?hg (N := 48) ?hd (xs := ([(⟨t282, t284, t278, wrap64 (-(wrap64 (1 + t280)))⟩ : S89), (⟨t287, t289, t278, wrap64 (1 + t280)⟩ : S89)] : List (S89))) (inner := [.int .i64 t282, .int .i64 t284, .int .i64 t278, .int .i64 (wrap64 (-(wrap64 (1 + t280)))), .int .i64 t287, .int .i64 t289, .int .i64 t278, .int .i64 (wrap64 (1 + t280))]) (ok := fun _ => True) (okp := fun _ => True) ?hr ?hp (fun _ hk => hk) trivial (Below.refl _ _) (Nat.le_refl _) (by simp) ?_; (case hd => rfl); (case hg => rfl); (case hr => first | (go_simp; done) | (go_simp; rfl)); (case hp => exact (Reps.c4 (show Kd.M k89 _ _ _ (⟨t282, t284, t278, wrap64 (-(wrap64 (1 + t280)))⟩ : S89) [.int .i64 t282, .int .i64 t284, .int .i64 t278, .int .i64 (wrap64 (-(wrap64 (1 + t280))))] from (k89_mkM _ _ _ (⟨t282, t284, t278, wrap64 (-(wrap64 (1 + t280)))⟩ : S89) )) (Reps.c4 (show Kd.M k89 _ _ _ (⟨t287, t289, t278, wrap64 (1 + t280)⟩ : S89) [.int .i64 t287, .int .i64 t289, .int .i64 t278, .int .i64 (wrap64 (1 + t280))] from (k89_mkM _ _ _ (⟨t287, t289, t278, wrap64 (1 + t280)⟩ : S89) )) (Reps.none _ _))))
           intro v299 w46 ho47 hb hg_ hnew_
           clear hg_ hnew_
           (first | rw [← Ny298.out] at ho47 | (simp only [Int.reduceToNat] at ho47; rw [← Ny298.out] at ho47))
           have n0_ := Aside0.mk (Kd.R_elder' (q_r (HO_273001.out)) (Kd.R_base ho47) hb)
           have n1_ := Aside0.mk (Kd.R_elder' (q_r (HO297.out)) (Kd.R_base ho47) hb)
           have n2_ := Aside0.mk (Kd.R_lower (Kd.R_newB (Kd.R_newB (Kd.R_new' (Kd.R_new' ho47 (Kd.R_lt (q_r (HO_273001.out)))) (Kd.R_lt (q_r (HO297.out)))) (q_b BK286.out)) (q_b BK291.out)) (keep_size (w := w) (g := g) (row := none) q_K))
           have n3_ := Aside0.mk (blk_below (q_b BK271.out) hb)
           have n4_ := Aside0.mk (blk_below (q_b BK272.out) hb)
           have n5_ := Aside0.mk (IsS130.below q_I130_0_1 hb)
           have n6_ := Aside0.mk (blk_below (q_b BK286.out) hb)
           have n7_ := Aside0.mk (blk_below (q_b BK291.out) hb)
           have n8_ := Aside0.mk (blk_below (q_b BK304.out) hb)
           have n9_ := Aside0.mk (KeepBut.trans q_K (KeepBut.of_below hb g none) (.inl rfl))
           have n10_ := Aside0.mk (below_step q_B130_0 hb)
           clear HO_273001
           clear HO297
           clear BK271
           clear BK272
           clear HI0
           clear BK286
           clear BK291
           clear BK304
           clear HK
           clear HB
           have HO_273001 := n0_
           have HO297 := n1_
           have HO300 := n2_
           have BK271 := n3_
           have BK272 := n4_
           have HI0 := n5_
           have BK286 := n6_
           have BK291 := n7_
           have BK304 := n8_
           have HK := n9_
           have HB := n10_
           clear n0_ n1_ n2_ n3_ n4_ n5_ n6_ n7_ n8_ n9_ n10_
           clear hb ho47
           refine hK.out _ _ ⟨q_z BK272.out 0, q_z BK272.out 1, q_z BK286.out 0, q_z BK286.out 1, q_z BK286.out 2, q_z BK286.out 3, q_z BK291.out 0, q_z BK291.out 1, q_z BK291.out 2, q_z BK291.out 3⟩ (fun hHeld => ?_)
           clear hK K
           refine norm_ (a' := ?_) ?_ ?_
           rotate_left
           ·show Act.put _ (some 48) _ = _
            simp only [Act.put, List.setIfInBounds_toArray, List.set_cons_zero, List.set_cons_succ, i64_w, i32_w]
            rfl
           exact norm_ (by first | (simp only [putAll, Act.put, List.setIfInBounds_toArray, List.set_cons_zero, List.set_cons_succ]; done) | (simp only [putAll, Act.put, List.setIfInBounds_toArray, List.set_cons_zero, List.set_cons_succ]; rfl)) (hJ1_4_7_10 (v293, v296, v299, gb304) _ ⟨hHeld, (by (with_reducible repeat (first | apply Kd.R_alloc | apply Kd.R_drewN | apply Kd.R_drew)); exact Kd.R_mono HO297.out (fun _ hk => ⟨hk.2, ⟨hk.1.1, ⟨hk.1.2.1, hk.1.2.2⟩⟩⟩)), (by (with_reducible repeat (first | apply Kd.R_alloc | apply Kd.R_drewN | apply Kd.R_drew)); exact Kd.R_mono HO300.out (fun _ hk => ⟨hk.1.1.2, ⟨hk.1.1.1.2, ⟨hk.1.2, hk.2⟩⟩⟩)), (by (with_reducible repeat (first | apply Kd.R_alloc | apply Kd.R_drewN | apply Kd.R_drew)); exact Kd.R_mono HO_273001.out (fun _ hk => ⟨hk.1.1, ⟨hk.2, ⟨hk.1.2.1, hk.1.2.2⟩⟩⟩)), kq, kq, kq, kq, kq, GW304.out, GE304.out, NB0_304.out, NB304_0.out, NB271_304.out, NB304_271.out, NB272_304.out, NB304_272.out, NB286_304.out, NB304_286.out, NB291_304.out, NB304_291.out, q_I130_0_1, q_K, q_B130_0⟩)
         ·skip
          rintro ⟨v293, v296, v299⟩ w46 ⟨hS_, h0_, h1_, h2_, h3_, h4_, h5_, h6_, h7_, h8_, h9_⟩
          have n0_ : Aside0 (Kd.R k89 89 w46 w.heap.size (fun k_ => some k_ ≠ (v299 : Value).ownBlock ∧ some k_ ≠ (.slice Ao38 x273001_1.length co38 : Value).ownBlock ∧ k_ ≠ gb286 ∧ k_ ≠ gb291) v296 y295) := ⟨h0_⟩
          have n1_ : Aside0 (Kd.R k89 89 w46 w.heap.size (fun k_ => some k_ ≠ (v296 : Value).ownBlock ∧ some k_ ≠ (.slice Ao38 x273001_1.length co38 : Value).ownBlock ∧ k_ ≠ gb286 ∧ k_ ≠ gb291) v299 y298) := ⟨h1_⟩
          have n2_ : Aside0 (Kd.R k89 89 w46 w.heap.size (fun k_ => some k_ ≠ (v296 : Value).ownBlock ∧ some k_ ≠ (v299 : Value).ownBlock ∧ k_ ≠ gb286 ∧ k_ ≠ gb291) (.slice Ao38 x273001_1.length co38) x273001_1) := ⟨h2_⟩
          have n3_ : Aside0 (w46.heap[gb271]? = some (.cells #[.int .i64 0, .slice none 0 0] 36 (0, 0))) := ⟨h3_⟩
          have n4_ : Aside0 (w46.heap[gb272]? = some (.cells #[.int .i64 x273000_1, .slice Ao38 x273001_1.length co38] 36 (0, 0))) := ⟨h4_⟩
          have n5_ : Aside0 (w46.heap[gb286]? = some (.cells #[.int .i64 t282, .int .i64 t284, .int .i64 t278, .int .i64 (wrap64 (-(wrap64 (1 + t280))))] 89 (0, 0))) := ⟨h5_⟩
          have n6_ : Aside0 (w46.heap[gb291]? = some (.cells #[.int .i64 t287, .int .i64 t289, .int .i64 t278, .int .i64 (wrap64 (1 + t280))] 89 (0, 0))) := ⟨h6_⟩
          have n7_ : Aside0 (IsS130 w0 w46 g s0_0 t290) := ⟨h7_⟩
          have n8_ : Aside0 (KeepBut w w46 g none) := ⟨h8_⟩
          have n9_ : Aside0 (Below w0.heap.size w0 w46) := ⟨h9_⟩
          clear HO_273001
          clear BK271
          clear BK272
          clear BK286
          clear BK291
          clear HI0
          clear HK
          clear HB
          clear h0_ h1_ h2_ h3_ h4_ h5_ h6_ h7_ h8_ h9_
          have HO297 := n0_
          have HO300 := n1_
          have HO_273001 := n2_
          have BK271 := n3_
          have BK272 := n4_
          have BK286 := n5_
          have BK291 := n6_
          have HI0 := n7_
          have HK := n8_
          have HB := n9_
          clear n0_ n1_ n2_ n3_ n4_ n5_ n6_ n7_ n8_ n9_
          have hHeld : w46.cell? ⟨gb272, 0, none⟩ = some (.int .i64 x273000_1) ∧ w46.cell? ⟨gb272, 1, none⟩ = some (.slice Ao38 x273001_1.length co38) ∧ w46.cell? ⟨gb286, 0, none⟩ = some (.int .i64 t282) ∧ w46.cell? ⟨gb286, 1, none⟩ = some (.int .i64 t284) ∧ w46.cell? ⟨gb286, 2, none⟩ = some (.int .i64 t278) ∧ w46.cell? ⟨gb286, 3, none⟩ = some (.int .i64 (wrap64 (-(wrap64 (1 + t280))))) ∧ w46.cell? ⟨gb291, 0, none⟩ = some (.int .i64 t287) ∧ w46.cell? ⟨gb291, 1, none⟩ = some (.int .i64 t289) ∧ w46.cell? ⟨gb291, 2, none⟩ = some (.int .i64 t278) ∧ w46.cell? ⟨gb291, 3, none⟩ = some (.int .i64 (wrap64 (1 + t280))) := hS_
          obtain ⟨Ao48, co48, eo48⟩ := Kd.R_slice HO300.out
          (first | subst eo48 | (injection eo48 with f1_ f2_ f3_; have f4_ := f1_.symm; have f5_ := f3_.symm; clear f1_ f2_ f3_; subst f4_; subst f5_))
          refine norm_ (a' := ?_) ?_ ?_
          rotate_left
          ·simp only [putAll, Act.put, List.setIfInBounds_toArray, List.set_cons_zero, List.set_cons_succ]
           rfl
          refine two_ (i := 8) (j := 10) (Ni := some 49) (Nj := some 11) #[true, true, true, true, true, true, true, true, true, false, false, false] #[true, true, true, true, true, true, true, true, false, false, true, false] rfl rfl rfl rfl (two_of HT_.out (by kernel_rfl)) (by decide) (by decide) (fun K hK => ?_) (fun K hK => ?_)
          ·skip
           refine Kd.R_append_rows_step k89 w.heap.size (by rfl) (.tmp 45) (.tmp 48) 34 89 (.agg #[(.int .i64 0), (.int .i64 0), (.int .i64 0), (.int .i64 0)]) 32 rfl Try.underlying34 info89 rfl (by decide) (by omega) v296 y295 y298 _ _ _ (fun k_ => some k_ ≠ (.slice Ao38 x273001_1.length co38 : Value).ownBlock ∧ some k_ ≠ (.slice Ao48 y298.length co48 : Value).ownBlock ∧ k_ ≠ gb286 ∧ k_ ≠ gb291) (fun _ => False) rfl rfl ?aO ?aR (fun _ _ h => h) (fun _ h => h.elim) ?aF (Below.refl _ _) ?aS ?aL ?_
           (case aR => repeat (first | exact (Kd.R_reads' HO300.out).2.2 | (with_reducible refine Kd.C_alloc ?_ _) | (with_reducible refine Kd.C_drewN ?_ _) | (with_reducible refine Kd.C_drew ?_)))
           (case aF => exact (fun k_ hk => ⟨Kd.fresh' (Kd.R_lt (q_r (HO_273001.out))) k_ hk, Kd.fresh' (Kd.R_lt (q_r (HO300.out))) k_ hk, Kd.freshB (q_b BK286.out) k_ hk, Kd.freshB (q_b BK291.out) k_ hk⟩))
           (case aO => exact (by (with_reducible repeat (first | apply Kd.R_alloc | apply Kd.R_drewN | apply Kd.R_drew)); exact Kd.R_mono HO297.out (fun _ hk => ⟨hk.2.1, ⟨hk.1, ⟨hk.2.2.1, hk.2.2.2⟩⟩⟩)))
           (case aS => exact (keep_size (w := w) (g := g) (row := none) q_K))
           (case aL => have := LMc18.out; omega)
           intro v302 w47 ho hb hg hat
           rw [← Ny301.out] at ho
           have n0_ := Aside0.mk (Kd.R_after (ok := (fun k_ => some k_ ≠ (.slice Ao48 y298.length co48 : Value).ownBlock ∧ k_ ≠ gb286 ∧ k_ ≠ gb291)) (by (with_reducible repeat (first | apply Kd.R_alloc | apply Kd.R_drewN | apply Kd.R_drew)); exact Kd.R_mono HO_273001.out (fun _ hk => ⟨⟨hk.2.1, ⟨hk.2.2.1, hk.2.2.2⟩⟩, hk.1⟩)) hg hat)
           have n1_ := Aside0.mk (blk_grown (q_b BK271.out) hg (Kd.R_ne HO297.out BK271.out (by decide)))
           have n2_ := Aside0.mk (blk_grown (q_b BK272.out) hg (Kd.R_ne HO297.out BK272.out (by decide)))
           have n3_ := Aside0.mk (IsS130.grown q_I130_0_1 hg (IsS130.own_ne HI0.out HO297.out (by decide)))
           have n4_ := Aside0.mk (blk_grown (q_b BK286.out) hg (Kd.R_away HO297.out (fun _ hk => hk.2.2.1)))
           have n5_ := Aside0.mk (blk_grown (q_b BK291.out) hg (Kd.R_away HO297.out (fun _ hk => hk.2.2.2)))
           have n6_ := Aside0.mk (Kd.R_after (ok := (fun k_ => some k_ ≠ (.slice Ao38 x273001_1.length co38 : Value).ownBlock ∧ k_ ≠ gb286 ∧ k_ ≠ gb291)) (by (with_reducible repeat (first | apply Kd.R_alloc | apply Kd.R_drewN | apply Kd.R_drew)); exact Kd.R_mono HO300.out (fun _ hk => ⟨⟨hk.2.1, ⟨hk.2.2.1, hk.2.2.2⟩⟩, hk.1⟩)) hg hat)
           have n7_ := Aside0.mk (below_weaken q_B130_0 HL.out hb)
           have n8_ := Aside0.mk (KeepBut.trans q_K (KeepBut.of_grown hg g) (Kd.R_base2 HO297.out))
           have n9_ := Aside0.mk (ho)
           clear HO_273001
           clear BK271
           clear BK272
           clear HI0
           clear BK286
           clear BK291
           clear HO300
           clear HB
           clear HK
           clear HO297
           have HO_273001 := n0_
           have BK271 := n1_
           have BK272 := n2_
           have HI0 := n3_
           have BK286 := n4_
           have BK291 := n5_
           have HO300 := n6_
           have HB := n7_
           have HK := n8_
           have HO303 := n9_
           clear n0_ n1_ n2_ n3_ n4_ n5_ n6_ n7_ n8_ n9_
           clear ho hb hg hat
           obtain ⟨Ao49, co49, eo49⟩ := Kd.R_slice HO303.out
           (first | subst eo49 | (injection eo49 with f1_ f2_ f3_; have f4_ := f1_.symm; have f5_ := f3_.symm; clear f1_ f2_ f3_; subst f4_; subst f5_))
           refine hK.out _ _ ⟨q_z BK272.out 0, q_z BK272.out 1, q_z BK286.out 0, q_z BK286.out 1, q_z BK286.out 2, q_z BK286.out 3, q_z BK291.out 0, q_z BK291.out 1, q_z BK291.out 2, q_z BK291.out 3⟩ (fun hHeld => ?_)
           clear hK K
           refine norm_ (a' := ?_) ?_ ?_
           rotate_left
           ·show Act.put _ (some 49) _ = _
            simp only [Act.put, List.setIfInBounds_toArray, List.set_cons_zero, List.set_cons_succ, i64_w, i32_w]
            rfl
           refine q_p 9 (some 50) #[true, true, true, true, true, true, true, true, true, true, false, false] HT_.out ?_
           exact norm_ (by first | (simp only [putAll, Act.put, List.setIfInBounds_toArray, List.set_cons_zero, List.set_cons_succ]; done) | (simp only [putAll, Act.put, List.setIfInBounds_toArray, List.set_cons_zero, List.set_cons_succ]; rfl)) (hJ1_4_7_8 (v293, v296, .slice Ao48 y298.length co48, .slice Ao49 y301.length co49) _ ⟨hHeld, (by (with_reducible repeat (first | apply Kd.R_alloc | apply Kd.R_drewN | apply Kd.R_drew)); exact Kd.R_mono HO300.out (fun _ hk => ⟨hk.2, ⟨hk.1.1, ⟨hk.1.2.1, hk.1.2.2⟩⟩⟩)), (by (with_reducible repeat (first | apply Kd.R_alloc | apply Kd.R_drewN | apply Kd.R_drew)); exact Kd.R_mono HO303.out (fun _ hk => ⟨hk.2.1, ⟨hk.1, ⟨hk.2.2.1, hk.2.2.2⟩⟩⟩)), (by (with_reducible repeat (first | apply Kd.R_alloc | apply Kd.R_drewN | apply Kd.R_drew)); exact Kd.R_mono HO_273001.out (fun _ hk => ⟨hk.1.1, ⟨hk.2, ⟨hk.1.2.1, hk.1.2.2⟩⟩⟩)), kq, kq, kq, kq, q_I130_0_1, q_K, q_B130_0⟩)
          ·skip
           refine box_step ?hg (N := 11) ?hd (cs := #[.int .i64 0, .slice none 0 0]) (t := 36) ?hr ?_; (case hd => rfl); (case hg => rfl); (case hr => first | (go_simp; done) | (go_simp; rfl))
           intro gb304 hg w47 hbox hb
           have n0_ := Aside0.mk (Kd.R_below (q_r (HO_273001.out)) hb)
           have n1_ := Aside0.mk (Kd.R_below (q_r (HO297.out)) hb)
           have n2_ := Aside0.mk (Kd.R_below (q_r (HO300.out)) hb)
           have n3_ := Aside0.mk (blk_below (q_b BK271.out) hb)
           have n4_ := Aside0.mk (blk_below (q_b BK272.out) hb)
           have n5_ := Aside0.mk (IsS130.below q_I130_0_1 hb)
           have n6_ := Aside0.mk (blk_below (q_b BK286.out) hb)
           have n7_ := Aside0.mk (blk_below (q_b BK291.out) hb)
           have n8_ := Aside0.mk (KeepBut.trans q_K (KeepBut.of_below hb g none) (.inl rfl))
           have n9_ := Aside0.mk (below_step q_B130_0 hb)
           have n10_ := Aside0.mk (hbox)
           have n11_ := Aside0.mk ((by rw [hg]; exact (keep_size (w := w) (g := g) (row := none) q_K) : w.heap.size ≤ gb304))
           have n12_ := Aside0.mk ((Nat.le_trans HW0.out (by rw [hg]; exact (keep_size (w := w) (g := g) (row := none) q_K) : w.heap.size ≤ gb304) : w0.heap.size ≤ gb304))
           have n13_ := Aside0.mk ((q_n hg (q_b BK271.out) : gb271 ≠ gb304))
           have n14_ := Aside0.mk ((q_m hg (q_b BK271.out) : gb304 ≠ gb271))
           have n15_ := Aside0.mk ((q_n hg (q_b BK272.out) : gb272 ≠ gb304))
           have n16_ := Aside0.mk ((q_m hg (q_b BK272.out) : gb304 ≠ gb272))
           have n17_ := Aside0.mk ((q_n hg (q_b BK286.out) : gb286 ≠ gb304))
           have n18_ := Aside0.mk ((q_m hg (q_b BK286.out) : gb304 ≠ gb286))
           have n19_ := Aside0.mk ((q_n hg (q_b BK291.out) : gb291 ≠ gb304))
           have n20_ := Aside0.mk ((q_m hg (q_b BK291.out) : gb304 ≠ gb291))
           have n21_ := Aside0.mk ((by rw [hg]; exact Nat.ne_of_lt (IsS130.lt (show IsS130 w0 _ g s0_0 t290 from q_I130_0_1)) : g ≠ gb304))
           have n22_ := Aside0.mk ((by rw [hg]; exact Nat.ne_of_gt (IsS130.lt (show IsS130 w0 _ g s0_0 t290 from q_I130_0_1)) : gb304 ≠ g))
           clear HO_273001
           clear HO297
           clear HO300
           clear BK271
           clear BK272
           clear HI0
           clear BK286
           clear BK291
           clear HK
           clear HB
           have HO_273001 := n0_
           have HO297 := n1_
           have HO300 := n2_
           have BK271 := n3_
           have BK272 := n4_
           have HI0 := n5_
           have BK286 := n6_
           have BK291 := n7_
           have HK := n8_
           have HB := n9_
           have BK304 := n10_
           have GW304 := n11_
           have GE304 := n12_
           have NB271_304 := n13_
           have NB304_271 := n14_
           have NB272_304 := n15_
           have NB304_272 := n16_
           have NB286_304 := n17_
           have NB304_286 := n18_
           have NB291_304 := n19_
           have NB304_291 := n20_
           have NB0_304 := n21_
           have NB304_0 := n22_
           clear n0_ n1_ n2_ n3_ n4_ n5_ n6_ n7_ n8_ n9_ n10_ n11_ n12_ n13_ n14_ n15_ n16_ n17_ n18_ n19_ n20_ n21_ n22_
           clear hb hbox hg
           refine hK.out _ _ ⟨q_z BK272.out 0, q_z BK272.out 1, q_z BK286.out 0, q_z BK286.out 1, q_z BK286.out 2, q_z BK286.out 3, q_z BK291.out 0, q_z BK291.out 1, q_z BK291.out 2, q_z BK291.out 3⟩ (fun hHeld => ?_)
           clear hK K
           refine norm_ (a' := ?_) ?_ ?_
           rotate_left
           ·show Act.put _ (some 11) _ = _
            simp only [Act.put, List.setIfInBounds_toArray, List.set_cons_zero, List.set_cons_succ, i64_w, i32_w]
            rfl
           exact norm_ (by first | (simp only [putAll, Act.put, List.setIfInBounds_toArray, List.set_cons_zero, List.set_cons_succ]; done) | (simp only [putAll, Act.put, List.setIfInBounds_toArray, List.set_cons_zero, List.set_cons_succ]; rfl)) (hJ1_4_7_10 (v293, v296, (.slice Ao48 y298.length co48), gb304) _ ⟨hHeld, (q_r (HO297.out)), (q_r (HO300.out)), (q_r (HO_273001.out)), kq, kq, kq, kq, kq, GW304.out, GE304.out, NB0_304.out, NB304_0.out, NB271_304.out, NB304_271.out, NB272_304.out, NB304_272.out, NB286_304.out, NB304_286.out, NB291_304.out, NB304_291.out, q_I130_0_1, q_K, q_B130_0⟩)
        ·skip
         rintro ⟨v293, v296, v299, gb304⟩ w47 ⟨hS_, h0_, h1_, h2_, h3_, h4_, h5_, h6_, h7_, h8_, h9_, h10_, h11_, h12_, h13_, h14_, h15_, h16_, h17_, h18_, h19_, h20_, h21_, h22_⟩
         have n0_ : Aside0 (Kd.R k89 89 w47 w.heap.size (fun k_ => some k_ ≠ (v299 : Value).ownBlock ∧ some k_ ≠ (.slice Ao38 x273001_1.length co38 : Value).ownBlock ∧ k_ ≠ gb286 ∧ k_ ≠ gb291) v296 y295) := ⟨h0_⟩
         have n1_ : Aside0 (Kd.R k89 89 w47 w.heap.size (fun k_ => some k_ ≠ (v296 : Value).ownBlock ∧ some k_ ≠ (.slice Ao38 x273001_1.length co38 : Value).ownBlock ∧ k_ ≠ gb286 ∧ k_ ≠ gb291) v299 y298) := ⟨h1_⟩
         have n2_ : Aside0 (Kd.R k89 89 w47 w.heap.size (fun k_ => some k_ ≠ (v296 : Value).ownBlock ∧ some k_ ≠ (v299 : Value).ownBlock ∧ k_ ≠ gb286 ∧ k_ ≠ gb291) (.slice Ao38 x273001_1.length co38) x273001_1) := ⟨h2_⟩
         have n3_ : Aside0 (w47.heap[gb271]? = some (.cells #[.int .i64 0, .slice none 0 0] 36 (0, 0))) := ⟨h3_⟩
         have n4_ : Aside0 (w47.heap[gb272]? = some (.cells #[.int .i64 x273000_1, .slice Ao38 x273001_1.length co38] 36 (0, 0))) := ⟨h4_⟩
         have n5_ : Aside0 (w47.heap[gb286]? = some (.cells #[.int .i64 t282, .int .i64 t284, .int .i64 t278, .int .i64 (wrap64 (-(wrap64 (1 + t280))))] 89 (0, 0))) := ⟨h5_⟩
         have n6_ : Aside0 (w47.heap[gb291]? = some (.cells #[.int .i64 t287, .int .i64 t289, .int .i64 t278, .int .i64 (wrap64 (1 + t280))] 89 (0, 0))) := ⟨h6_⟩
         have n7_ : Aside0 (w47.heap[gb304]? = some (.cells #[.int .i64 0, .slice none 0 0] 36 (0, 0))) := ⟨h7_⟩
         have n8_ : Aside0 (w.heap.size ≤ gb304) := ⟨h8_⟩
         have n9_ : Aside0 (w0.heap.size ≤ gb304) := ⟨h9_⟩
         have n10_ : Aside0 (g ≠ gb304) := ⟨h10_⟩
         have n11_ : Aside0 (gb304 ≠ g) := ⟨h11_⟩
         have n12_ : Aside0 (gb271 ≠ gb304) := ⟨h12_⟩
         have n13_ : Aside0 (gb304 ≠ gb271) := ⟨h13_⟩
         have n14_ : Aside0 (gb272 ≠ gb304) := ⟨h14_⟩
         have n15_ : Aside0 (gb304 ≠ gb272) := ⟨h15_⟩
         have n16_ : Aside0 (gb286 ≠ gb304) := ⟨h16_⟩
         have n17_ : Aside0 (gb304 ≠ gb286) := ⟨h17_⟩
         have n18_ : Aside0 (gb291 ≠ gb304) := ⟨h18_⟩
         have n19_ : Aside0 (gb304 ≠ gb291) := ⟨h19_⟩
         have n20_ : Aside0 (IsS130 w0 w47 g s0_0 t290) := ⟨h20_⟩
         have n21_ : Aside0 (KeepBut w w47 g none) := ⟨h21_⟩
         have n22_ : Aside0 (Below w0.heap.size w0 w47) := ⟨h22_⟩
         clear HO_273001
         clear BK271
         clear BK272
         clear BK286
         clear BK291
         clear HI0
         clear HK
         clear HB
         clear h0_ h1_ h2_ h3_ h4_ h5_ h6_ h7_ h8_ h9_ h10_ h11_ h12_ h13_ h14_ h15_ h16_ h17_ h18_ h19_ h20_ h21_ h22_
         have HO297 := n0_
         have HO300 := n1_
         have HO_273001 := n2_
         have BK271 := n3_
         have BK272 := n4_
         have BK286 := n5_
         have BK291 := n6_
         have BK304 := n7_
         have GW304 := n8_
         have GE304 := n9_
         have NB0_304 := n10_
         have NB304_0 := n11_
         have NB271_304 := n12_
         have NB304_271 := n13_
         have NB272_304 := n14_
         have NB304_272 := n15_
         have NB286_304 := n16_
         have NB304_286 := n17_
         have NB291_304 := n18_
         have NB304_291 := n19_
         have HI0 := n20_
         have HK := n21_
         have HB := n22_
         clear n0_ n1_ n2_ n3_ n4_ n5_ n6_ n7_ n8_ n9_ n10_ n11_ n12_ n13_ n14_ n15_ n16_ n17_ n18_ n19_ n20_ n21_ n22_
         have hHeld : w47.cell? ⟨gb272, 0, none⟩ = some (.int .i64 x273000_1) ∧ w47.cell? ⟨gb272, 1, none⟩ = some (.slice Ao38 x273001_1.length co38) ∧ w47.cell? ⟨gb286, 0, none⟩ = some (.int .i64 t282) ∧ w47.cell? ⟨gb286, 1, none⟩ = some (.int .i64 t284) ∧ w47.cell? ⟨gb286, 2, none⟩ = some (.int .i64 t278) ∧ w47.cell? ⟨gb286, 3, none⟩ = some (.int .i64 (wrap64 (-(wrap64 (1 + t280))))) ∧ w47.cell? ⟨gb291, 0, none⟩ = some (.int .i64 t287) ∧ w47.cell? ⟨gb291, 1, none⟩ = some (.int .i64 t289) ∧ w47.cell? ⟨gb291, 2, none⟩ = some (.int .i64 t278) ∧ w47.cell? ⟨gb291, 3, none⟩ = some (.int .i64 (wrap64 (1 + t280))) := hS_
         obtain ⟨Ao49, co49, eo49⟩ := Kd.R_slice HO300.out
         (first | subst eo49 | (injection eo49 with f1_ f2_ f3_; have f4_ := f1_.symm; have f5_ := f3_.symm; clear f1_ f2_ f3_; subst f4_; subst f5_))
         refine norm_ (a' := ?_) ?_ ?_
         rotate_left
         ·simp only [putAll, Act.put, List.setIfInBounds_toArray, List.set_cons_zero, List.set_cons_succ]
          rfl
         refine one_ (i := 8) (N := some 49) #[true, true, true, true, true, true, true, true, true, false, true, false] rfl rfl (one_of HT_.out (by kernel_rfl)) (by decide) (fun K hK => ?_)
         refine Kd.R_append_rows_step k89 w.heap.size (by rfl) (.tmp 45) (.tmp 48) 34 89 (.agg #[(.int .i64 0), (.int .i64 0), (.int .i64 0), (.int .i64 0)]) 32 rfl Try.underlying34 info89 rfl (by decide) (by omega) v296 y295 y298 _ _ _ (fun k_ => some k_ ≠ (.slice Ao38 x273001_1.length co38 : Value).ownBlock ∧ some k_ ≠ (.slice Ao49 y298.length co49 : Value).ownBlock ∧ k_ ≠ gb286 ∧ k_ ≠ gb291) (fun _ => False) rfl rfl ?aO ?aR (fun _ _ h => h) (fun _ h => h.elim) ?aF (Below.refl _ _) ?aS ?aL ?_
         (case aR => repeat (first | exact (Kd.R_reads' HO300.out).2.2 | (with_reducible refine Kd.C_alloc ?_ _) | (with_reducible refine Kd.C_drewN ?_ _) | (with_reducible refine Kd.C_drew ?_)))
         (case aF => exact (fun k_ hk => ⟨Kd.fresh' (Kd.R_lt (q_r (HO_273001.out))) k_ hk, Kd.fresh' (Kd.R_lt (q_r (HO300.out))) k_ hk, Kd.freshB (q_b BK286.out) k_ hk, Kd.freshB (q_b BK291.out) k_ hk⟩))
         (case aO => exact (by (with_reducible repeat (first | apply Kd.R_alloc | apply Kd.R_drewN | apply Kd.R_drew)); exact Kd.R_mono HO297.out (fun _ hk => ⟨hk.2.1, ⟨hk.1, ⟨hk.2.2.1, hk.2.2.2⟩⟩⟩)))
         (case aS => exact (keep_size (w := w) (g := g) (row := none) q_K))
         (case aL => have := LMc18.out; omega)
         intro v302 w48 ho hb hg hat
         rw [← Ny301.out] at ho
         have n0_ := Aside0.mk (Kd.R_after (ok := (fun k_ => some k_ ≠ (.slice Ao49 y298.length co49 : Value).ownBlock ∧ k_ ≠ gb286 ∧ k_ ≠ gb291)) (by (with_reducible repeat (first | apply Kd.R_alloc | apply Kd.R_drewN | apply Kd.R_drew)); exact Kd.R_mono HO_273001.out (fun _ hk => ⟨⟨hk.2.1, ⟨hk.2.2.1, hk.2.2.2⟩⟩, hk.1⟩)) hg hat)
         have n1_ := Aside0.mk (blk_grown (q_b BK271.out) hg (Kd.R_ne HO297.out BK271.out (by decide)))
         have n2_ := Aside0.mk (blk_grown (q_b BK272.out) hg (Kd.R_ne HO297.out BK272.out (by decide)))
         have n3_ := Aside0.mk (IsS130.grown q_I130_0_1 hg (IsS130.own_ne HI0.out HO297.out (by decide)))
         have n4_ := Aside0.mk (blk_grown (q_b BK286.out) hg (Kd.R_away HO297.out (fun _ hk => hk.2.2.1)))
         have n5_ := Aside0.mk (blk_grown (q_b BK291.out) hg (Kd.R_away HO297.out (fun _ hk => hk.2.2.2)))
         have n6_ := Aside0.mk (Kd.R_after (ok := (fun k_ => some k_ ≠ (.slice Ao38 x273001_1.length co38 : Value).ownBlock ∧ k_ ≠ gb286 ∧ k_ ≠ gb291)) (by (with_reducible repeat (first | apply Kd.R_alloc | apply Kd.R_drewN | apply Kd.R_drew)); exact Kd.R_mono HO300.out (fun _ hk => ⟨⟨hk.2.1, ⟨hk.2.2.1, hk.2.2.2⟩⟩, hk.1⟩)) hg hat)
         have n7_ := Aside0.mk (blk_grown (q_b BK304.out) hg (Kd.R_ne HO297.out BK304.out (by decide)))
         have n8_ := Aside0.mk (below_weaken q_B130_0 HL.out hb)
         have n9_ := Aside0.mk (KeepBut.trans q_K (KeepBut.of_grown hg g) (Kd.R_base2 HO297.out))
         have n10_ := Aside0.mk (ho)
         clear HO_273001
         clear BK271
         clear BK272
         clear HI0
         clear BK286
         clear BK291
         clear HO300
         clear BK304
         clear HB
         clear HK
         clear HO297
         have HO_273001 := n0_
         have BK271 := n1_
         have BK272 := n2_
         have HI0 := n3_
         have BK286 := n4_
         have BK291 := n5_
         have HO300 := n6_
         have BK304 := n7_
         have HB := n8_
         have HK := n9_
         have HO303 := n10_
         clear n0_ n1_ n2_ n3_ n4_ n5_ n6_ n7_ n8_ n9_ n10_
         clear ho hb hg hat
         obtain ⟨Ao50, co50, eo50⟩ := Kd.R_slice HO303.out
         (first | subst eo50 | (injection eo50 with f1_ f2_ f3_; have f4_ := f1_.symm; have f5_ := f3_.symm; clear f1_ f2_ f3_; subst f4_; subst f5_))
         refine hK.out _ _ ⟨q_z BK272.out 0, q_z BK272.out 1, q_z BK286.out 0, q_z BK286.out 1, q_z BK286.out 2, q_z BK286.out 3, q_z BK291.out 0, q_z BK291.out 1, q_z BK291.out 2, q_z BK291.out 3⟩ (fun hHeld => ?_)
         clear hK K
         refine norm_ (a' := ?_) ?_ ?_
         rotate_left
         ·show Act.put _ (some 49) _ = _
          simp only [Act.put, List.setIfInBounds_toArray, List.set_cons_zero, List.set_cons_succ, i64_w, i32_w]
          rfl
         refine q_p 9 (some 50) #[true, true, true, true, true, true, true, true, true, true, true, false] HT_.out ?_
         exact norm_ (by first | (simp only [putAll, Act.put, List.setIfInBounds_toArray, List.set_cons_zero, List.set_cons_succ]; done) | (simp only [putAll, Act.put, List.setIfInBounds_toArray, List.set_cons_zero, List.set_cons_succ]; rfl)) (hJ1_4_7_8_10 (v293, v296, .slice Ao49 y298.length co49, .slice Ao50 y301.length co50, gb304) _ ⟨hHeld, (by (with_reducible repeat (first | apply Kd.R_alloc | apply Kd.R_drewN | apply Kd.R_drew)); exact Kd.R_mono HO300.out (fun _ hk => ⟨hk.2, ⟨hk.1.1, ⟨hk.1.2.1, hk.1.2.2⟩⟩⟩)), (by (with_reducible repeat (first | apply Kd.R_alloc | apply Kd.R_drewN | apply Kd.R_drew)); exact Kd.R_mono HO303.out (fun _ hk => ⟨hk.2.1, ⟨hk.1, ⟨hk.2.2.1, hk.2.2.2⟩⟩⟩)), (by (with_reducible repeat (first | apply Kd.R_alloc | apply Kd.R_drewN | apply Kd.R_drew)); exact Kd.R_mono HO_273001.out (fun _ hk => ⟨hk.1.1, ⟨hk.2, ⟨hk.1.2.1, hk.1.2.2⟩⟩⟩)), kq, kq, kq, kq, kq, GW304.out, GE304.out, NB0_304.out, NB304_0.out, NB271_304.out, NB304_271.out, NB272_304.out, NB304_272.out, NB286_304.out, NB304_286.out, NB291_304.out, NB304_291.out, q_I130_0_1, q_K, q_B130_0⟩)
       ·skip
        rintro ⟨v293, v296, v299, v302⟩ w49 ⟨hS_, h0_, h1_, h2_, h3_, h4_, h5_, h6_, h7_, h8_, h9_⟩
        have n0_ : Aside0 (Kd.R k89 89 w49 w.heap.size (fun k_ => some k_ ≠ (v302 : Value).ownBlock ∧ some k_ ≠ (.slice Ao38 x273001_1.length co38 : Value).ownBlock ∧ k_ ≠ gb286 ∧ k_ ≠ gb291) v299 y298) := ⟨h0_⟩
        have n1_ : Aside0 (Kd.R k89 89 w49 w.heap.size (fun k_ => some k_ ≠ (v299 : Value).ownBlock ∧ some k_ ≠ (.slice Ao38 x273001_1.length co38 : Value).ownBlock ∧ k_ ≠ gb286 ∧ k_ ≠ gb291) v302 y301) := ⟨h1_⟩
        have n2_ : Aside0 (Kd.R k89 89 w49 w.heap.size (fun k_ => some k_ ≠ (v299 : Value).ownBlock ∧ some k_ ≠ (v302 : Value).ownBlock ∧ k_ ≠ gb286 ∧ k_ ≠ gb291) (.slice Ao38 x273001_1.length co38) x273001_1) := ⟨h2_⟩
        have n3_ : Aside0 (w49.heap[gb271]? = some (.cells #[.int .i64 0, .slice none 0 0] 36 (0, 0))) := ⟨h3_⟩
        have n4_ : Aside0 (w49.heap[gb272]? = some (.cells #[.int .i64 x273000_1, .slice Ao38 x273001_1.length co38] 36 (0, 0))) := ⟨h4_⟩
        have n5_ : Aside0 (w49.heap[gb286]? = some (.cells #[.int .i64 t282, .int .i64 t284, .int .i64 t278, .int .i64 (wrap64 (-(wrap64 (1 + t280))))] 89 (0, 0))) := ⟨h5_⟩
        have n6_ : Aside0 (w49.heap[gb291]? = some (.cells #[.int .i64 t287, .int .i64 t289, .int .i64 t278, .int .i64 (wrap64 (1 + t280))] 89 (0, 0))) := ⟨h6_⟩
        have n7_ : Aside0 (IsS130 w0 w49 g s0_0 t290) := ⟨h7_⟩
        have n8_ : Aside0 (KeepBut w w49 g none) := ⟨h8_⟩
        have n9_ : Aside0 (Below w0.heap.size w0 w49) := ⟨h9_⟩
        clear HO_273001
        clear BK271
        clear BK272
        clear BK286
        clear BK291
        clear HI0
        clear HK
        clear HB
        clear h0_ h1_ h2_ h3_ h4_ h5_ h6_ h7_ h8_ h9_
        have HO300 := n0_
        have HO303 := n1_
        have HO_273001 := n2_
        have BK271 := n3_
        have BK272 := n4_
        have BK286 := n5_
        have BK291 := n6_
        have HI0 := n7_
        have HK := n8_
        have HB := n9_
        clear n0_ n1_ n2_ n3_ n4_ n5_ n6_ n7_ n8_ n9_
        have hHeld : w49.cell? ⟨gb272, 0, none⟩ = some (.int .i64 x273000_1) ∧ w49.cell? ⟨gb272, 1, none⟩ = some (.slice Ao38 x273001_1.length co38) ∧ w49.cell? ⟨gb286, 0, none⟩ = some (.int .i64 t282) ∧ w49.cell? ⟨gb286, 1, none⟩ = some (.int .i64 t284) ∧ w49.cell? ⟨gb286, 2, none⟩ = some (.int .i64 t278) ∧ w49.cell? ⟨gb286, 3, none⟩ = some (.int .i64 (wrap64 (-(wrap64 (1 + t280))))) ∧ w49.cell? ⟨gb291, 0, none⟩ = some (.int .i64 t287) ∧ w49.cell? ⟨gb291, 1, none⟩ = some (.int .i64 t289) ∧ w49.cell? ⟨gb291, 2, none⟩ = some (.int .i64 t278) ∧ w49.cell? ⟨gb291, 3, none⟩ = some (.int .i64 (wrap64 (1 + t280))) := hS_
        obtain ⟨Ao50, co50, eo50⟩ := Kd.R_slice HO303.out
        (first | subst eo50 | (injection eo50 with f1_ f2_ f3_; have f4_ := f1_.symm; have f5_ := f3_.symm; clear f1_ f2_ f3_; subst f4_; subst f5_))
        refine norm_ (a' := ?_) ?_ ?_
        rotate_left
        ·simp only [putAll, Act.put, List.setIfInBounds_toArray, List.set_cons_zero, List.set_cons_succ]
         rfl
        refine one_ (i := 10) (N := some 11) #[true, true, true, true, true, true, true, true, true, true, true, false] rfl rfl (one_of HT_.out (by kernel_rfl)) (by decide) (fun K hK => ?_)
        refine box_step ?hg (N := 11) ?hd (cs := #[.int .i64 0, .slice none 0 0]) (t := 36) ?hr ?_; (case hd => rfl); (case hg => rfl); (case hr => first | (go_simp; done) | (go_simp; rfl))
        intro gb304 hg w51 hbox hb
        have n0_ := Aside0.mk (Kd.R_below (q_r (HO_273001.out)) hb)
        have n1_ := Aside0.mk (Kd.R_below (q_r (HO300.out)) hb)
        have n2_ := Aside0.mk (Kd.R_below (q_r (HO303.out)) hb)
        have n3_ := Aside0.mk (blk_below (q_b BK271.out) hb)
        have n4_ := Aside0.mk (blk_below (q_b BK272.out) hb)
        have n5_ := Aside0.mk (IsS130.below q_I130_0_1 hb)
        have n6_ := Aside0.mk (blk_below (q_b BK286.out) hb)
        have n7_ := Aside0.mk (blk_below (q_b BK291.out) hb)
        have n8_ := Aside0.mk (KeepBut.trans q_K (KeepBut.of_below hb g none) (.inl rfl))
        have n9_ := Aside0.mk (below_step q_B130_0 hb)
        have n10_ := Aside0.mk (hbox)
        have n11_ := Aside0.mk ((by rw [hg]; exact (keep_size (w := w) (g := g) (row := none) q_K) : w.heap.size ≤ gb304))
        have n12_ := Aside0.mk ((Nat.le_trans HW0.out (by rw [hg]; exact (keep_size (w := w) (g := g) (row := none) q_K) : w.heap.size ≤ gb304) : w0.heap.size ≤ gb304))
        have n13_ := Aside0.mk ((q_n hg (q_b BK271.out) : gb271 ≠ gb304))
        have n14_ := Aside0.mk ((q_m hg (q_b BK271.out) : gb304 ≠ gb271))
        have n15_ := Aside0.mk ((q_n hg (q_b BK272.out) : gb272 ≠ gb304))
        have n16_ := Aside0.mk ((q_m hg (q_b BK272.out) : gb304 ≠ gb272))
        have n17_ := Aside0.mk ((q_n hg (q_b BK286.out) : gb286 ≠ gb304))
        have n18_ := Aside0.mk ((q_m hg (q_b BK286.out) : gb304 ≠ gb286))
        have n19_ := Aside0.mk ((q_n hg (q_b BK291.out) : gb291 ≠ gb304))
        have n20_ := Aside0.mk ((q_m hg (q_b BK291.out) : gb304 ≠ gb291))
        have n21_ := Aside0.mk ((by rw [hg]; exact Nat.ne_of_lt (IsS130.lt (show IsS130 w0 _ g s0_0 t290 from q_I130_0_1)) : g ≠ gb304))
        have n22_ := Aside0.mk ((by rw [hg]; exact Nat.ne_of_gt (IsS130.lt (show IsS130 w0 _ g s0_0 t290 from q_I130_0_1)) : gb304 ≠ g))
        clear HO_273001
        clear HO300
        clear HO303
        clear BK271
        clear BK272
        clear HI0
        clear BK286
        clear BK291
        clear HK
        clear HB
        have HO_273001 := n0_
        have HO300 := n1_
        have HO303 := n2_
        have BK271 := n3_
        have BK272 := n4_
        have HI0 := n5_
        have BK286 := n6_
        have BK291 := n7_
        have HK := n8_
        have HB := n9_
        have BK304 := n10_
        have GW304 := n11_
        have GE304 := n12_
        have NB271_304 := n13_
        have NB304_271 := n14_
        have NB272_304 := n15_
        have NB304_272 := n16_
        have NB286_304 := n17_
        have NB304_286 := n18_
        have NB291_304 := n19_
        have NB304_291 := n20_
        have NB0_304 := n21_
        have NB304_0 := n22_
        clear n0_ n1_ n2_ n3_ n4_ n5_ n6_ n7_ n8_ n9_ n10_ n11_ n12_ n13_ n14_ n15_ n16_ n17_ n18_ n19_ n20_ n21_ n22_
        clear hb hbox hg
        refine hK.out _ _ ⟨q_z BK272.out 0, q_z BK272.out 1, q_z BK286.out 0, q_z BK286.out 1, q_z BK286.out 2, q_z BK286.out 3, q_z BK291.out 0, q_z BK291.out 1, q_z BK291.out 2, q_z BK291.out 3⟩ (fun hHeld => ?_)
        clear hK K
        refine norm_ (a' := ?_) ?_ ?_
        rotate_left
        ·show Act.put _ (some 11) _ = _
         simp only [Act.put, List.setIfInBounds_toArray, List.set_cons_zero, List.set_cons_succ, i64_w, i32_w]
         rfl
        exact norm_ (by first | (simp only [putAll, Act.put, List.setIfInBounds_toArray, List.set_cons_zero, List.set_cons_succ]; done) | (simp only [putAll, Act.put, List.setIfInBounds_toArray, List.set_cons_zero, List.set_cons_succ]; rfl)) (hJ1_4_7_8_10 (v293, v296, v299, .slice Ao50 y301.length co50, gb304) _ ⟨hHeld, (q_r (HO300.out)), (q_r (HO303.out)), (q_r (HO_273001.out)), kq, kq, kq, kq, kq, GW304.out, GE304.out, NB0_304.out, NB304_0.out, NB271_304.out, NB304_271.out, NB272_304.out, NB304_272.out, NB286_304.out, NB304_286.out, NB291_304.out, NB304_291.out, q_I130_0_1, q_K, q_B130_0⟩)
      rintro ⟨v293, v296, v299, v302, gb304⟩ w50 ⟨hS_, h0_, h1_, h2_, h3_, h4_, h5_, h6_, h7_, h8_, h9_, h10_, h11_, h12_, h13_, h14_, h15_, h16_, h17_, h18_, h19_, h20_, h21_, h22_⟩
      have n0_ : Aside0 (Kd.R k89 89 w50 w.heap.size (fun k_ => some k_ ≠ (v302 : Value).ownBlock ∧ some k_ ≠ (.slice Ao38 x273001_1.length co38 : Value).ownBlock ∧ k_ ≠ gb286 ∧ k_ ≠ gb291) v299 y298) := ⟨h0_⟩
      have n1_ : Aside0 (Kd.R k89 89 w50 w.heap.size (fun k_ => some k_ ≠ (v299 : Value).ownBlock ∧ some k_ ≠ (.slice Ao38 x273001_1.length co38 : Value).ownBlock ∧ k_ ≠ gb286 ∧ k_ ≠ gb291) v302 y301) := ⟨h1_⟩
      have n2_ : Aside0 (Kd.R k89 89 w50 w.heap.size (fun k_ => some k_ ≠ (v299 : Value).ownBlock ∧ some k_ ≠ (v302 : Value).ownBlock ∧ k_ ≠ gb286 ∧ k_ ≠ gb291) (.slice Ao38 x273001_1.length co38) x273001_1) := ⟨h2_⟩
      have n3_ : Aside0 (w50.heap[gb271]? = some (.cells #[.int .i64 0, .slice none 0 0] 36 (0, 0))) := ⟨h3_⟩
      have n4_ : Aside0 (w50.heap[gb272]? = some (.cells #[.int .i64 x273000_1, .slice Ao38 x273001_1.length co38] 36 (0, 0))) := ⟨h4_⟩
      have n5_ : Aside0 (w50.heap[gb286]? = some (.cells #[.int .i64 t282, .int .i64 t284, .int .i64 t278, .int .i64 (wrap64 (-(wrap64 (1 + t280))))] 89 (0, 0))) := ⟨h5_⟩
      have n6_ : Aside0 (w50.heap[gb291]? = some (.cells #[.int .i64 t287, .int .i64 t289, .int .i64 t278, .int .i64 (wrap64 (1 + t280))] 89 (0, 0))) := ⟨h6_⟩
      have n7_ : Aside0 (w50.heap[gb304]? = some (.cells #[.int .i64 0, .slice none 0 0] 36 (0, 0))) := ⟨h7_⟩
      have n8_ : Aside0 (w.heap.size ≤ gb304) := ⟨h8_⟩
      have n9_ : Aside0 (w0.heap.size ≤ gb304) := ⟨h9_⟩
      have n10_ : Aside0 (g ≠ gb304) := ⟨h10_⟩
      have n11_ : Aside0 (gb304 ≠ g) := ⟨h11_⟩
      have n12_ : Aside0 (gb271 ≠ gb304) := ⟨h12_⟩
      have n13_ : Aside0 (gb304 ≠ gb271) := ⟨h13_⟩
      have n14_ : Aside0 (gb272 ≠ gb304) := ⟨h14_⟩
      have n15_ : Aside0 (gb304 ≠ gb272) := ⟨h15_⟩
      have n16_ : Aside0 (gb286 ≠ gb304) := ⟨h16_⟩
      have n17_ : Aside0 (gb304 ≠ gb286) := ⟨h17_⟩
      have n18_ : Aside0 (gb291 ≠ gb304) := ⟨h18_⟩
      have n19_ : Aside0 (gb304 ≠ gb291) := ⟨h19_⟩
      have n20_ : Aside0 (IsS130 w0 w50 g s0_0 t290) := ⟨h20_⟩
      have n21_ : Aside0 (KeepBut w w50 g none) := ⟨h21_⟩
      have n22_ : Aside0 (Below w0.heap.size w0 w50) := ⟨h22_⟩
      clear HO_273001
      clear BK271
      clear BK272
      clear BK286
      clear BK291
      clear HI0
      clear HK
      clear HB
      clear h0_ h1_ h2_ h3_ h4_ h5_ h6_ h7_ h8_ h9_ h10_ h11_ h12_ h13_ h14_ h15_ h16_ h17_ h18_ h19_ h20_ h21_ h22_
      have HO300 := n0_
      have HO303 := n1_
      have HO_273001 := n2_
      have BK271 := n3_
      have BK272 := n4_
      have BK286 := n5_
      have BK291 := n6_
      have BK304 := n7_
      have GW304 := n8_
      have GE304 := n9_
      have NB0_304 := n10_
      have NB304_0 := n11_
      have NB271_304 := n12_
      have NB304_271 := n13_
      have NB272_304 := n14_
      have NB304_272 := n15_
      have NB286_304 := n16_
      have NB304_286 := n17_
      have NB291_304 := n18_
      have NB304_291 := n19_
      have HI0 := n20_
      have HK := n21_
      have HB := n22_
      clear n0_ n1_ n2_ n3_ n4_ n5_ n6_ n7_ n8_ n9_ n10_ n11_ n12_ n13_ n14_ n15_ n16_ n17_ n18_ n19_ n20_ n21_ n22_
      have hHeld : w50.cell? ⟨gb272, 0, none⟩ = some (.int .i64 x273000_1) ∧ w50.cell? ⟨gb272, 1, none⟩ = some (.slice Ao38 x273001_1.length co38) ∧ w50.cell? ⟨gb286, 0, none⟩ = some (.int .i64 t282) ∧ w50.cell? ⟨gb286, 1, none⟩ = some (.int .i64 t284) ∧ w50.cell? ⟨gb286, 2, none⟩ = some (.int .i64 t278) ∧ w50.cell? ⟨gb286, 3, none⟩ = some (.int .i64 (wrap64 (-(wrap64 (1 + t280))))) ∧ w50.cell? ⟨gb291, 0, none⟩ = some (.int .i64 t287) ∧ w50.cell? ⟨gb291, 1, none⟩ = some (.int .i64 t289) ∧ w50.cell? ⟨gb291, 2, none⟩ = some (.int .i64 t278) ∧ w50.cell? ⟨gb291, 3, none⟩ = some (.int .i64 (wrap64 (1 + t280))) := hS_
      obtain ⟨Ao51, co51, eo51⟩ := Kd.R_slice HO303.out
      (first | subst eo51 | (injection eo51 with f1_ f2_ f3_; have f4_ := f1_.symm; have f5_ := f3_.symm; clear f1_ f2_ f3_; subst f4_; subst f5_))
      refine norm_ (a' := ?_) ?_ ?_
      rotate_left
      ·simp only [putAll, Act.put, List.setIfInBounds_toArray, List.set_cons_zero, List.set_cons_succ]
       rfl
      refine one_ (i := 11) (N := none) #[true, true, true, true, true, true, true, true, true, true, true, true] rfl rfl (one_of HT_.out (by kernel_rfl)) (by decide) (fun K hK => ?_)
      have hs52 : w50.cell? ⟨gb304, 0, none⟩ = some (.int .i64 0) := (blk_cell BK304.out 0).trans rfl
      have hfs52 := blk_frozen BK304.out 0
      have hns52_0 := NB271_304.out
      have hns52_1 := NB272_304.out
      have hns52_2 := NB286_304.out
      have hns52_3 := NB291_304.out
      have hms52_0 := NB304_271.out
      have hms52_1 := NB304_272.out
      have hms52_2 := NB304_286.out
      have hms52_3 := NB304_291.out
      have hs53 : w50.cell? ⟨gb304, 1, none⟩ = some (.slice none 0 0) := (blk_cell BK304.out 1).trans rfl
      have hfs53 := blk_frozen BK304.out 1
      have hns53_0 := NB271_304.out
      have hns53_1 := NB272_304.out
      have hns53_2 := NB286_304.out
      have hns53_3 := NB291_304.out
      have hms53_0 := NB304_271.out
      have hms53_1 := NB304_272.out
      have hms53_2 := NB304_286.out
      have hms53_3 := NB304_291.out
      refine skip_ (w1 := ?_) (by rfl) rfl ?_ ?_
      rotate_left
      ·go_simp
       rfl
      refine hK.out _ _ ⟨((cell_far (p := ⟨gb304, _, none⟩) NB272_304.out _).trans (((cell_far (p := ⟨gb304, _, none⟩) NB272_304.out _).trans (hHeld.1)))), ((cell_far (p := ⟨gb304, _, none⟩) NB272_304.out _).trans (((cell_far (p := ⟨gb304, _, none⟩) NB272_304.out _).trans (hHeld.2.1)))), ((cell_far (p := ⟨gb304, _, none⟩) NB286_304.out _).trans (((cell_far (p := ⟨gb304, _, none⟩) NB286_304.out _).trans (hHeld.2.2.1)))), ((cell_far (p := ⟨gb304, _, none⟩) NB286_304.out _).trans (((cell_far (p := ⟨gb304, _, none⟩) NB286_304.out _).trans (hHeld.2.2.2.1)))), ((cell_far (p := ⟨gb304, _, none⟩) NB286_304.out _).trans (((cell_far (p := ⟨gb304, _, none⟩) NB286_304.out _).trans (hHeld.2.2.2.2.1)))), ((cell_far (p := ⟨gb304, _, none⟩) NB286_304.out _).trans (((cell_far (p := ⟨gb304, _, none⟩) NB286_304.out _).trans (hHeld.2.2.2.2.2.1)))), ((cell_far (p := ⟨gb304, _, none⟩) NB291_304.out _).trans (((cell_far (p := ⟨gb304, _, none⟩) NB291_304.out _).trans (hHeld.2.2.2.2.2.2.1)))), ((cell_far (p := ⟨gb304, _, none⟩) NB291_304.out _).trans (((cell_far (p := ⟨gb304, _, none⟩) NB291_304.out _).trans (hHeld.2.2.2.2.2.2.2.1)))), ((cell_far (p := ⟨gb304, _, none⟩) NB291_304.out _).trans (((cell_far (p := ⟨gb304, _, none⟩) NB291_304.out _).trans (hHeld.2.2.2.2.2.2.2.2.1)))), ((cell_far (p := ⟨gb304, _, none⟩) NB291_304.out _).trans (((cell_far (p := ⟨gb304, _, none⟩) NB291_304.out _).trans (hHeld.2.2.2.2.2.2.2.2.2))))⟩ (fun hHeld => ?_)
      clear hK K
      refine done_ (done_of HT_.out (by kernel_rfl)) ?_
      have H := HQ_.out
      clear HQ_
      by_cases c20 : t305 = 0
      ·rw [if_pos c20] at H
       have c20b0 : (t305 == 0) = true := beq_iff_eq.mpr c20
       have c20b1 : (t305 != 0) = false := bne_eq_false_iff_eq.mpr c20
       clear c20
       have H' := Aside0.mk H
       clear H
       have hnb54 := NB304_271.out
       have hnc54 := NB271_304.out
       have hnb55 := NB304_272.out
       have hnc55 := NB272_304.out
       have hnb56 := NB304_286.out
       have hnc56 := NB286_304.out
       have hnb57 := NB304_291.out
       have hnc57 := NB291_304.out
       have hnb58 := NB304_0.out
       have hnc58 := NB0_304.out
       obtain ⟨hcz59_0, hcz59_1, hfz59_0, hfz59_1⟩ := q_2 BK304.out
       try go_wp2_with (first | ((with_reducible refine gate_callee (f := 25) rfl ?_); refine goesLq (some 52) rfl rfl Try.func25 (by kernel_rfl) rfl #[.agg #[.int .i64 a1, .slice Ao51 y301.length co51]] rfl ?_; (with_reducible refine (spec_ContractFault.calls k1 a1 _ _ y301 t305 _ ?side1 ?side2 A19.out).mono ?_); (case side1 => refine (Kd.R_reads' (e := 89) (base := w.heap.size) (ok := fun k_ => (some k_ ≠ (v299 : Value).ownBlock ∧ (some k_ ≠ (.slice Ao38 x273001_1.length co38 : Value).ownBlock ∧ (k_ ≠ gb286 ∧ k_ ≠ gb291)))) (n := y301.length) (c := co51) ?_).2.2; exact (by (with_reducible repeat (first | apply Kd.R_alloc | apply Kd.R_drewN | apply Kd.R_drew)); exact (Kd.R_mono (Kd.R_far (p := ⟨gb304, 1, none⟩) (Kd.R_far (p := ⟨gb304, 0, none⟩) (Kd.R_types HO303.out BK304.out (by decide)) (fun _ hk => hk.2) (.int .i64 a1)) (fun _ hk => hk.2) (.slice Ao51 y301.length co51)) (fun _ h_ => h_.1)))); (case side2 => exact (Kd.R_reads' HO303.out).2.1); rintro e w60 ⟨rfl, hb⟩; refine ⟨_, rfl, ?_⟩; have n0_ := Aside0.mk (Kd.R_below (by (with_reducible repeat (first | apply Kd.R_alloc | apply Kd.R_drewN | apply Kd.R_drew)); exact (Kd.R_mono (Kd.R_far (p := ⟨gb304, 1, none⟩) (Kd.R_far (p := ⟨gb304, 0, none⟩) (Kd.R_types HO_273001.out BK304.out (by decide)) (fun _ hk => hk.2) (.int .i64 a1)) (fun _ hk => hk.2) (.slice Ao51 y301.length co51)) (fun _ h_ => h_.1))) hb); have n1_ := Aside0.mk (Kd.R_below (by (with_reducible repeat (first | apply Kd.R_alloc | apply Kd.R_drewN | apply Kd.R_drew)); exact (Kd.R_mono (Kd.R_far (p := ⟨gb304, 1, none⟩) (Kd.R_far (p := ⟨gb304, 0, none⟩) (Kd.R_types HO300.out BK304.out (by decide)) (fun _ hk => hk.2) (.int .i64 a1)) (fun _ hk => hk.2) (.slice Ao51 y301.length co51)) (fun _ h_ => h_.1))) hb); have n2_ := Aside0.mk (Kd.R_below (by (with_reducible repeat (first | apply Kd.R_alloc | apply Kd.R_drewN | apply Kd.R_drew)); exact (Kd.R_mono (Kd.R_far (p := ⟨gb304, 1, none⟩) (Kd.R_far (p := ⟨gb304, 0, none⟩) (Kd.R_types HO303.out BK304.out (by decide)) (fun _ hk => hk.2) (.int .i64 a1)) (fun _ hk => hk.2) (.slice Ao51 y301.length co51)) (fun _ h_ => h_.1))) hb); have n3_ := Aside0.mk (blk_below (g := gb271) (o := .cells #[.int .i64 0, .slice none 0 0] 36 (0, 0)) (by (with_reducible repeat (first | refine blk_drewN ?_ _ | refine blk_drew ?_ | refine blk_alloc ?_ _)); refine blk_far ?_ NB271_304.out _; (with_reducible repeat (first | refine blk_drewN ?_ _ | refine blk_drew ?_ | refine blk_alloc ?_ _)); refine blk_far ?_ NB271_304.out _; (with_reducible repeat (first | refine blk_drewN ?_ _ | refine blk_drew ?_ | refine blk_alloc ?_ _)); exact BK271.out) hb); have n4_ := Aside0.mk (blk_below (g := gb272) (o := .cells #[.int .i64 x273000_1, .slice Ao38 x273001_1.length co38] 36 (0, 0)) (by (with_reducible repeat (first | refine blk_drewN ?_ _ | refine blk_drew ?_ | refine blk_alloc ?_ _)); refine blk_far ?_ NB272_304.out _; (with_reducible repeat (first | refine blk_drewN ?_ _ | refine blk_drew ?_ | refine blk_alloc ?_ _)); refine blk_far ?_ NB272_304.out _; (with_reducible repeat (first | refine blk_drewN ?_ _ | refine blk_drew ?_ | refine blk_alloc ?_ _)); exact BK272.out) hb); have n5_ := Aside0.mk (IsS130.below (show IsS130 w0 ((w50.setCell ⟨gb304, 0, none⟩ (.int .i64 a1)).setCell ⟨gb304, 1, none⟩ (.slice Ao51 y301.length co51)) g s0_0 t290 from q_I130_0_1) hb); have n6_ := Aside0.mk (blk_below (g := gb286) (o := .cells #[.int .i64 t282, .int .i64 t284, .int .i64 t278, .int .i64 (wrap64 (-(wrap64 (1 + t280))))] 89 (0, 0)) (by (with_reducible repeat (first | refine blk_drewN ?_ _ | refine blk_drew ?_ | refine blk_alloc ?_ _)); refine blk_far ?_ NB286_304.out _; (with_reducible repeat (first | refine blk_drewN ?_ _ | refine blk_drew ?_ | refine blk_alloc ?_ _)); refine blk_far ?_ NB286_304.out _; (with_reducible repeat (first | refine blk_drewN ?_ _ | refine blk_drew ?_ | refine blk_alloc ?_ _)); exact BK286.out) hb); have n7_ := Aside0.mk (blk_below (g := gb291) (o := .cells #[.int .i64 t287, .int .i64 t289, .int .i64 t278, .int .i64 (wrap64 (1 + t280))] 89 (0, 0)) (by (with_reducible repeat (first | refine blk_drewN ?_ _ | refine blk_drew ?_ | refine blk_alloc ?_ _)); refine blk_far ?_ NB291_304.out _; (with_reducible repeat (first | refine blk_drewN ?_ _ | refine blk_drew ?_ | refine blk_alloc ?_ _)); refine blk_far ?_ NB291_304.out _; (with_reducible repeat (first | refine blk_drewN ?_ _ | refine blk_drew ?_ | refine blk_alloc ?_ _)); exact BK291.out) hb); have n8_ := Aside0.mk (blk_below (g := gb304) (o := .cells #[.int .i64 a1, .slice Ao51 y301.length co51] 36 (0, 0)) (by (with_reducible repeat (first | refine blk_drewN ?_ _ | refine blk_drew ?_ | refine blk_alloc ?_ _)); refine blk_put (cs := #[.int .i64 a1, .slice none 0 0]) ?_ 1 _ rfl; (with_reducible repeat (first | refine blk_drewN ?_ _ | refine blk_drew ?_ | refine blk_alloc ?_ _)); refine blk_put (cs := #[.int .i64 0, .slice none 0 0]) ?_ 0 _ rfl; (with_reducible repeat (first | refine blk_drewN ?_ _ | refine blk_drew ?_ | refine blk_alloc ?_ _)); exact BK304.out) hb); have n9_ := Aside0.mk (KeepBut.trans q_K (KeepBut.of_below hb g none) (.inl rfl)); have n10_ := Aside0.mk (below_step q_B130_0 hb); revert n0_ n1_ n2_ n3_ n4_ n5_ n6_ n7_ n8_ n9_ n10_; clear HO_273001 HO300 HO303 BK271 BK272 HI0 BK286 BK291 BK304 HK HB; intro HO_273001 HO300 HO303 BK271 BK272 HI0 BK286 BK291 BK304 HK HB; (try clear hb); (try clear hb2); (try clear hk); (try clear hi); obtain ⟨hcz61_0, hcz61_1, hfz61_0, hfz61_1⟩ := q_2 BK304.out; have hnb62 := NB272_271.out; have hnc62 := NB271_272.out; have hnb63 := NB272_0.out; have hnc63 := NB0_272.out; obtain ⟨hcz64_0, hcz64_1, hfz64_0, hfz64_1⟩ := q_2 BK272.out))
       go_roundg k1
       case measure => have := HK1.out; omega
       case rel => exact ⟨(wrap64 (x6_1 - 1)), (t290), (a1), (y301), (.slice Ao51 y301.length co51), q_i, H', ⟨by have := HK1.out; omega⟩, ⟨by (with_reducible repeat (first | apply Kd.R_alloc | apply Kd.R_drewN | apply Kd.R_drew)); exact Kd.R_mono (Kd.R_far (p := ⟨gb272, 1, none⟩) (Kd.R_far (p := ⟨gb272, 0, none⟩) (Kd.R_types HO303.out BK272.out (by decide)) (fun _ hk => hk.2) (.int .i64 a1)) (fun _ hk => hk.2) (.slice Ao51 y301.length co51)) (fun _ hk => trivial)⟩, ⟨by (with_reducible repeat (first | refine blk_drewN ?_ _ | refine blk_drew ?_ | refine blk_alloc ?_ _)); refine blk_far ?_ NB271_272.out _; (with_reducible repeat (first | refine blk_drewN ?_ _ | refine blk_drew ?_ | refine blk_alloc ?_ _)); refine blk_far ?_ NB271_272.out _; (with_reducible repeat (first | refine blk_drewN ?_ _ | refine blk_drew ?_ | refine blk_alloc ?_ _)); exact BK271.out⟩, ⟨by (with_reducible repeat (first | refine blk_drewN ?_ _ | refine blk_drew ?_ | refine blk_alloc ?_ _)); refine blk_put (cs := #[.int .i64 a1, .slice Ao38 x273001_1.length co38]) ?_ 1 _ rfl; (with_reducible repeat (first | refine blk_drewN ?_ _ | refine blk_drew ?_ | refine blk_alloc ?_ _)); refine blk_put (cs := #[.int .i64 x273000_1, .slice Ao38 x273001_1.length co38]) ?_ 0 _ rfl; (with_reducible repeat (first | refine blk_drewN ?_ _ | refine blk_drew ?_ | refine blk_alloc ?_ _)); exact BK272.out⟩, ⟨q_I130_0_1⟩, ⟨q_K⟩, ⟨q_B130_0⟩⟩
      ·rw [if_neg c20] at H
       have c20b0 : (t305 == 0) = false := beq_eq_false_iff_ne.mpr c20
       have c20b1 : (t305 != 0) = true := bne_iff_ne.mpr c20
       have H' := Aside0.mk H
       clear H
       have hnb98 := NB304_271.out
       have hnc98 := NB271_304.out
       have hnb99 := NB304_272.out
       have hnc99 := NB272_304.out
       have hnb100 := NB304_286.out
       have hnc100 := NB286_304.out
       have hnb101 := NB304_291.out
       have hnc101 := NB291_304.out
       have hnb102 := NB304_0.out
       have hnc102 := NB0_304.out
       obtain ⟨hcz103_0, hcz103_1, hfz103_0, hfz103_1⟩ := q_2 BK304.out
       try go_wp2_with (first | ((with_reducible refine gate_callee (f := 25) rfl ?_); refine goesLq (some 52) rfl rfl Try.func25 (by kernel_rfl) rfl #[.agg #[.int .i64 a1, .slice Ao51 y301.length co51]] rfl ?_; (with_reducible refine (spec_ContractFault.calls k1 a1 _ _ y301 t305 _ ?side1 ?side2 A19.out).mono ?_); (case side1 => refine (Kd.R_reads' (e := 89) (base := w.heap.size) (ok := fun k_ => (some k_ ≠ (v299 : Value).ownBlock ∧ (some k_ ≠ (.slice Ao38 x273001_1.length co38 : Value).ownBlock ∧ (k_ ≠ gb286 ∧ k_ ≠ gb291)))) (n := y301.length) (c := co51) ?_).2.2; exact (by (with_reducible repeat (first | apply Kd.R_alloc | apply Kd.R_drewN | apply Kd.R_drew)); exact (Kd.R_mono (Kd.R_far (p := ⟨gb304, 1, none⟩) (Kd.R_far (p := ⟨gb304, 0, none⟩) (Kd.R_types HO303.out BK304.out (by decide)) (fun _ hk => hk.2) (.int .i64 a1)) (fun _ hk => hk.2) (.slice Ao51 y301.length co51)) (fun _ h_ => h_.1)))); (case side2 => exact (Kd.R_reads' HO303.out).2.1); rintro e w104 ⟨rfl, hb⟩; refine ⟨_, rfl, ?_⟩; have n0_ := Aside0.mk (Kd.R_below (by (with_reducible repeat (first | apply Kd.R_alloc | apply Kd.R_drewN | apply Kd.R_drew)); exact (Kd.R_mono (Kd.R_far (p := ⟨gb304, 1, none⟩) (Kd.R_far (p := ⟨gb304, 0, none⟩) (Kd.R_types HO_273001.out BK304.out (by decide)) (fun _ hk => hk.2) (.int .i64 a1)) (fun _ hk => hk.2) (.slice Ao51 y301.length co51)) (fun _ h_ => h_.1))) hb); have n1_ := Aside0.mk (Kd.R_below (by (with_reducible repeat (first | apply Kd.R_alloc | apply Kd.R_drewN | apply Kd.R_drew)); exact (Kd.R_mono (Kd.R_far (p := ⟨gb304, 1, none⟩) (Kd.R_far (p := ⟨gb304, 0, none⟩) (Kd.R_types HO300.out BK304.out (by decide)) (fun _ hk => hk.2) (.int .i64 a1)) (fun _ hk => hk.2) (.slice Ao51 y301.length co51)) (fun _ h_ => h_.1))) hb); have n2_ := Aside0.mk (Kd.R_below (by (with_reducible repeat (first | apply Kd.R_alloc | apply Kd.R_drewN | apply Kd.R_drew)); exact (Kd.R_mono (Kd.R_far (p := ⟨gb304, 1, none⟩) (Kd.R_far (p := ⟨gb304, 0, none⟩) (Kd.R_types HO303.out BK304.out (by decide)) (fun _ hk => hk.2) (.int .i64 a1)) (fun _ hk => hk.2) (.slice Ao51 y301.length co51)) (fun _ h_ => h_.1))) hb); have n3_ := Aside0.mk (blk_below (g := gb271) (o := .cells #[.int .i64 0, .slice none 0 0] 36 (0, 0)) (by (with_reducible repeat (first | refine blk_drewN ?_ _ | refine blk_drew ?_ | refine blk_alloc ?_ _)); refine blk_far ?_ NB271_304.out _; (with_reducible repeat (first | refine blk_drewN ?_ _ | refine blk_drew ?_ | refine blk_alloc ?_ _)); refine blk_far ?_ NB271_304.out _; (with_reducible repeat (first | refine blk_drewN ?_ _ | refine blk_drew ?_ | refine blk_alloc ?_ _)); exact BK271.out) hb); have n4_ := Aside0.mk (blk_below (g := gb272) (o := .cells #[.int .i64 x273000_1, .slice Ao38 x273001_1.length co38] 36 (0, 0)) (by (with_reducible repeat (first | refine blk_drewN ?_ _ | refine blk_drew ?_ | refine blk_alloc ?_ _)); refine blk_far ?_ NB272_304.out _; (with_reducible repeat (first | refine blk_drewN ?_ _ | refine blk_drew ?_ | refine blk_alloc ?_ _)); refine blk_far ?_ NB272_304.out _; (with_reducible repeat (first | refine blk_drewN ?_ _ | refine blk_drew ?_ | refine blk_alloc ?_ _)); exact BK272.out) hb); have n5_ := Aside0.mk (IsS130.below (show IsS130 w0 ((w50.setCell ⟨gb304, 0, none⟩ (.int .i64 a1)).setCell ⟨gb304, 1, none⟩ (.slice Ao51 y301.length co51)) g s0_0 t290 from q_I130_0_1) hb); have n6_ := Aside0.mk (blk_below (g := gb286) (o := .cells #[.int .i64 t282, .int .i64 t284, .int .i64 t278, .int .i64 (wrap64 (-(wrap64 (1 + t280))))] 89 (0, 0)) (by (with_reducible repeat (first | refine blk_drewN ?_ _ | refine blk_drew ?_ | refine blk_alloc ?_ _)); refine blk_far ?_ NB286_304.out _; (with_reducible repeat (first | refine blk_drewN ?_ _ | refine blk_drew ?_ | refine blk_alloc ?_ _)); refine blk_far ?_ NB286_304.out _; (with_reducible repeat (first | refine blk_drewN ?_ _ | refine blk_drew ?_ | refine blk_alloc ?_ _)); exact BK286.out) hb); have n7_ := Aside0.mk (blk_below (g := gb291) (o := .cells #[.int .i64 t287, .int .i64 t289, .int .i64 t278, .int .i64 (wrap64 (1 + t280))] 89 (0, 0)) (by (with_reducible repeat (first | refine blk_drewN ?_ _ | refine blk_drew ?_ | refine blk_alloc ?_ _)); refine blk_far ?_ NB291_304.out _; (with_reducible repeat (first | refine blk_drewN ?_ _ | refine blk_drew ?_ | refine blk_alloc ?_ _)); refine blk_far ?_ NB291_304.out _; (with_reducible repeat (first | refine blk_drewN ?_ _ | refine blk_drew ?_ | refine blk_alloc ?_ _)); exact BK291.out) hb); have n8_ := Aside0.mk (blk_below (g := gb304) (o := .cells #[.int .i64 a1, .slice Ao51 y301.length co51] 36 (0, 0)) (by (with_reducible repeat (first | refine blk_drewN ?_ _ | refine blk_drew ?_ | refine blk_alloc ?_ _)); refine blk_put (cs := #[.int .i64 a1, .slice none 0 0]) ?_ 1 _ rfl; (with_reducible repeat (first | refine blk_drewN ?_ _ | refine blk_drew ?_ | refine blk_alloc ?_ _)); refine blk_put (cs := #[.int .i64 0, .slice none 0 0]) ?_ 0 _ rfl; (with_reducible repeat (first | refine blk_drewN ?_ _ | refine blk_drew ?_ | refine blk_alloc ?_ _)); exact BK304.out) hb); have n9_ := Aside0.mk (KeepBut.trans q_K (KeepBut.of_below hb g none) (.inl rfl)); have n10_ := Aside0.mk (below_step q_B130_0 hb); revert n0_ n1_ n2_ n3_ n4_ n5_ n6_ n7_ n8_ n9_ n10_; clear HO_273001 HO300 HO303 BK271 BK272 HI0 BK286 BK291 BK304 HK HB; intro HO_273001 HO300 HO303 BK271 BK272 HI0 BK286 BK291 BK304 HK HB; (try clear hb); (try clear hb2); (try clear hk); (try clear hi)))
       go_roundg k1
       case measure => have := HK1.out; omega
       case rel => exact ⟨(wrap64 (x6_1 - 1)), (t290), (x273000_1), (x273001_1), (.slice Ao38 x273001_1.length co38), q_i, H', ⟨by have := HK1.out; omega⟩, ⟨q_r (Kd.R_mono HO_273001.out (fun _ hk => trivial))⟩, ⟨q_b BK271.out⟩, ⟨q_b BK272.out⟩, ⟨q_I130_0_1⟩, ⟨q_K⟩, ⟨q_B130_0⟩⟩
     ·rw [if_neg c18] at H
      exact absurd H (by simp)
    ·rw [if_neg c17] at H
     exact absurd H (by simp)
   ·rw [if_neg c10] at H
    have c10b0 := decide_eq_false c10
    clear c10
    by_cases c105 : (x273001_1.length : Int) = 0
    ·rw [if_pos c105] at H
     have c105b0 : ((x273001_1.length : Int) == 0) = true := beq_iff_eq.mpr c105
     have c105b1 : ((x273001_1.length : Int) != 0) = false := bne_eq_false_iff_eq.mpr c105
     clear c105
     obtain ⟨y275, hy275⟩ : ∃ y_ : List (S89), y_ = (([(⟨0, 0, 0, (-5)⟩ : S89), (⟨1, 0, 0, 5⟩ : S89)] : List (S89))) := ⟨_, rfl⟩
     replace H : (some (x273000_1, y275, x1001_1)) = some (r1, r2, r3) := q_h hy275 H
     have Ny275 := Aside0.mk hy275
     clear hy275
     simp only [Option.some.injEq, Prod.mk.injEq] at H
     obtain ⟨rfl, rfl, rfl⟩ := H
     have hnb106 := NB272_271.out
     have hnc106 := NB271_272.out
     have hnb107 := NB272_0.out
     have hnc107 := NB0_272.out
     obtain ⟨hcz108_0, hcz108_1, hfz108_0, hfz108_1⟩ := q_2 BK272.out
     obtain ⟨Ao109, co109, eo109⟩ := Kd.R_slice HO_273001.out
     subst eo109
     go_wp2_with (first | ((with_reducible refine gate_dst (N := 61) rfl ?_); refine Kd.R_lit k89 _ 89 ?hg (N := 61) ?hd (xs := ([(⟨0, 0, 0, (-5)⟩ : S89), (⟨1, 0, 0, 5⟩ : S89)] : List (S89))) (inner := [.int .i64 0, .int .i64 0, .int .i64 0, .int .i64 (-5), .int .i64 1, .int .i64 0, .int .i64 0, .int .i64 5]) (ok := fun _ => True) (okp := fun _ => True) ?hr ?hp (fun _ hk => hk) trivial (Below.refl _ _) (Nat.le_refl _) (by simp) ?_; (case hd => rfl); (case hg => rfl); (case hr => first | (go_simp; done) | (go_simp; rfl)); (case hp => exact (Reps.c4 (show Kd.M k89 _ _ _ (⟨0, 0, 0, (-5)⟩ : S89) [.int .i64 0, .int .i64 0, .int .i64 0, .int .i64 (-5)] from (k89_mkM _ _ _ (⟨0, 0, 0, (-5)⟩ : S89) )) (Reps.c4 (show Kd.M k89 _ _ _ (⟨1, 0, 0, 5⟩ : S89) [.int .i64 1, .int .i64 0, .int .i64 0, .int .i64 5] from (k89_mkM _ _ _ (⟨1, 0, 0, 5⟩ : S89) )) (Reps.none _ _)))); intro v276 w110 ho111 hb hg_ hnew_; clear hg_ hnew_; (first | rw [← Ny275.out] at ho111 | (simp only [Int.reduceToNat] at ho111; rw [← Ny275.out] at ho111)); have n0_ := Aside0.mk (Kd.R_elder' (q_r (HO_273001.out)) (Kd.R_base ho111) hb); have n1_ := Aside0.mk (Kd.R_lower (Kd.R_new' ho111 (Kd.R_lt (q_r (HO_273001.out)))) (keep_size (w := w) (g := g) (row := none) q_K)); have n2_ := Aside0.mk (blk_below (q_b BK271.out) hb); have n3_ := Aside0.mk (blk_below (q_b BK272.out) hb); have n4_ := Aside0.mk (IsS130.below q_I130_0_1 hb); have n5_ := Aside0.mk (KeepBut.trans q_K (KeepBut.of_below hb g none) (.inl rfl)); have n6_ := Aside0.mk (below_step q_B130_0 hb); revert n0_ n1_ n2_ n3_ n4_ n5_ n6_; clear HO_273001 BK271 BK272 HI0 HK HB; intro HO_273001 HO277 BK271 BK272 HI0 HK HB; clear hb ho111; obtain ⟨Ao112, co112, eo112⟩ := Kd.R_slice HO277.out; subst eo112; obtain ⟨hcz113_0, hcz113_1, hfz113_0, hfz113_1⟩ := q_2 BK272.out; have hnb114 := NB271_0.out; have hnc114 := NB0_271.out; obtain ⟨hcz115_0, hcz115_1, hfz115_0, hfz115_1⟩ := q_2 BK271.out))
     refine bodyPost_ret (results_cell_row rfl _ _ gb271 36 #[.int .i64 x273000_1, .slice Ao112 y275.length co112] (0, 0) _ rfl (by (with_reducible repeat (first | refine blk_drewN ?_ _ | refine blk_drew ?_ | refine blk_alloc ?_ _)); refine blk_put (cs := #[.int .i64 x273000_1, .slice none 0 0]) ?_ 1 _ rfl; (with_reducible repeat (first | refine blk_drewN ?_ _ | refine blk_drew ?_ | refine blk_alloc ?_ _)); refine blk_put (cs := #[.int .i64 0, .slice none 0 0]) ?_ 0 _ rfl; (with_reducible repeat (first | refine blk_drewN ?_ _ | refine blk_drew ?_ | refine blk_alloc ?_ _)); refine blk_far ?_ NB271_272.out _; (with_reducible repeat (first | refine blk_drewN ?_ _ | refine blk_drew ?_ | refine blk_alloc ?_ _)); exact BK271.out) Try.underlying36 rfl (by kernel_rfl)) rfl ?_
     exact ⟨_, q_e, by (with_reducible repeat (first | apply Kd.R_alloc | apply Kd.R_drewN | apply Kd.R_drew)); exact Kd.R_mono (Kd.R_far (p := ⟨gb271, 1, none⟩) (Kd.R_far (p := ⟨gb271, 0, none⟩) (Kd.R_far (p := ⟨gb272, 1, none⟩) (Kd.R_types (Kd.R_types HO277.out BK272.out (by decide)) BK271.out (by decide)) (fun _ hk => hk.1.2) (.slice Ao112 y275.length co112)) (fun _ hk => hk.2) (.int .i64 x273000_1)) (fun _ hk => hk.2) (.slice Ao112 y275.length co112)) (fun _ hk => trivial), q_I130_0_1, q_B130_0, q_K⟩
    ·rw [if_neg c105] at H
     have c105b0 : ((x273001_1.length : Int) == 0) = false := beq_eq_false_iff_ne.mpr c105
     have c105b1 : ((x273001_1.length : Int) != 0) = true := bne_iff_ne.mpr c105
     have c105b2 : ¬ (x273001_1 = []) := fun h_ => c105 (by rw [h_]; rfl)
     simp only [Option.some.injEq, Prod.mk.injEq] at H
     obtain ⟨rfl, rfl, rfl⟩ := H
     have hnb116 := NB272_271.out
     have hnc116 := NB271_272.out
     have hnb117 := NB272_0.out
     have hnc117 := NB0_272.out
     obtain ⟨hcz118_0, hcz118_1, hfz118_0, hfz118_1⟩ := q_2 BK272.out
     obtain ⟨Ao119, co119, eo119⟩ := Kd.R_slice HO_273001.out
     subst eo119
     have hnb120 := NB271_0.out
     have hnc120 := NB0_271.out
     obtain ⟨hcz121_0, hcz121_1, hfz121_0, hfz121_1⟩ := q_2 BK271.out
     go_wp2
     refine bodyPost_ret (results_cell_row rfl _ _ gb271 36 #[.int .i64 x273000_1, .slice Ao119 x273001_1.length co119] (0, 0) _ rfl (by (with_reducible repeat (first | refine blk_drewN ?_ _ | refine blk_drew ?_ | refine blk_alloc ?_ _)); refine blk_put (cs := #[.int .i64 x273000_1, .slice none 0 0]) ?_ 1 _ rfl; (with_reducible repeat (first | refine blk_drewN ?_ _ | refine blk_drew ?_ | refine blk_alloc ?_ _)); refine blk_put (cs := #[.int .i64 0, .slice none 0 0]) ?_ 0 _ rfl; (with_reducible repeat (first | refine blk_drewN ?_ _ | refine blk_drew ?_ | refine blk_alloc ?_ _)); exact BK271.out) Try.underlying36 rfl (by kernel_rfl)) rfl ?_
     exact ⟨_, q_e, by (with_reducible repeat (first | apply Kd.R_alloc | apply Kd.R_drewN | apply Kd.R_drew)); exact Kd.R_mono (Kd.R_far (p := ⟨gb271, 1, none⟩) (Kd.R_far (p := ⟨gb271, 0, none⟩) (Kd.R_types HO_273001.out BK271.out (by decide)) (fun _ hk => hk.2) (.int .i64 x273000_1)) (fun _ hk => hk.2) (.slice Ao119 x273001_1.length co119)) (fun _ hk => trivial), q_I130_0_1, q_B130_0, q_K⟩

end Go.Proofs.Ytooiamkaipdmpaa.PFnBytes
