/- The functions that a law reaches, each as a plain Lean function with the proof that the machine comes to its answer: written by program (the kit's print, turned by wip/gen). No conditions. -/
import Derived.Test.YtooiamkaipdmpaaPFnContractsx0
import Derived.Test.YtooiamkaipdmpaaPFnContractsx6
import Derived.Test.YtooiamkaipdmpaaPFnContractsx7
namespace Go.Proofs.Ytooiamkaipdmpaa.PFnContracts
open Go.RowKit Go.Proofs.YtooiamkaipdmpaaW.PrintWords Go.Proofs.YtooiamkaipdmpaaW.PrintLast Go.Proofs.YtooiamkaipdmpaaW.PrintMore
attribute [local go_sem] max2_int min2_int max_two min_two max_three min_three max_four min_four   -- for this text's walks alone
set_option linter.unusedVariables false
set_option linter.unusedSimpArgs false

/-! ### spec_l1Draw: function 122 -/
def spec_l1Draw.l0 : Nat → Int → Int → List Int → Int → Int → List (S89) → Option (Int × (List (S89)) × Int)
  | 0, _, _, _, _, _, _ => none
  | k + 1, x1, x6, x1000, x1001, x202000, x202001 => if x6 > 0 then ((spec_l1Next.f x1000 x1001 3).bind fun bt207 => ((spec_l1Next.f x1000 bt207.2 40).bind fun bt209 => ((spec_l1Next.f x1000 bt209.2 3).bind fun bt211 => ((spec_l1Next.f x1000 bt211.2 4).bind fun bt213 => ((spec_l1Next.f x1000 bt213.2 3).bind fun bt216 => ((spec_l1Next.f x1000 bt216.2 4).bind fun bt218 => ((some (([] : List (S89)) : List (S89))).bind fun y221 => (if y221.length + x202001.length < 4398046511104 then ((some (y221 ++ x202001 : List (S89))).bind fun y224 => ((some (([(⟨bt211.1, bt213.1, bt207.1, wrap64 (-(wrap64 (1 + bt209.1)))⟩ : S89), (⟨bt216.1, bt218.1, bt207.1, wrap64 (1 + bt209.1)⟩ : S89)] : List (S89)) : List (S89))).bind fun y227 => (if y224.length + y227.length < 4398046511104 then ((some (y224 ++ y227 : List (S89))).bind fun y230 => ((spec_ContractFault.f k x1 y230).bind fun t234 => (if t234 = 0 then (spec_l1Draw.l0 k x1 (wrap64 (x6 - 1)) x1000 bt218.2 x1 y230) else (spec_l1Draw.l0 k x1 (wrap64 (x6 - 1)) x1000 bt218.2 x202000 x202001)))) else (none)))) else (none))))))))) else (if (x202001.length : Int) = 0 then (some (x202000, (([(⟨0, 0, 0, (-5)⟩ : S89), (⟨1, 0, 0, 5⟩ : S89)] : List (S89))), x1001)) else (some (x202000, x202001, x1001)))
def spec_l1Draw.f (k : Nat) (s0_0 : List Int) (s0_1 : Int) (a1 : Int) : Option (Int × (List (S89)) × Int) := (spec_l1Next.f s0_0 s0_1 2).bind fun bt202 => (spec_l1Draw.l0 k a1 (wrap64 (1 + bt202.1)) s0_0 bt202.2 a1 ([] : List (S89)))
def spec_l1Draw.T9 : Bool × List (List Nat × List Nat) := (true, [([], []), ([], []), ([], []), ([2], [2]), ([1, 3], [1, 3]), ([], []), ([], []), ([5, 6], [5, 6]), ([4, 7, 4], [4, 7]), ([0, 8], [0, 8]), ([], []), ([10, 9, 8, 0, 1, 2, 3, 4, 5, 6, 7, 8, 9, 10], [9, 10])])
def spec_l1Draw.B9 : List Nat := [0, 0, 0, 4, 14, 0, 0, 96, 254, 511, 0, 2047]
theorem spec_l1Draw.tab9 : rtab .any (opsOf Try.f122 9) = spec_l1Draw.T9 := by kernel_rfl
theorem spec_l1Draw.bits9 : waitsOk spec_l1Draw.T9.2 spec_l1Draw.B9 = true := by kernel_rfl
set_option maxHeartbeats 8000000 in
set_option maxRecDepth 100000 in
theorem spec_l1Draw.calls (k : Nat) (g : Nat) (s0_0 : List Int) (s0_1 : Int) (a1 : Int) (r1 : Int) (r2 : List (S89)) (r3 : Int) (w0 w : World) (hI : IsS130 w0 w g s0_0 s0_1) (hB : Below w0.heap.size w0 w) (h : spec_l1Draw.f k s0_0 s0_1 a1 = some (r1, r2, r3)) :
  Calls Try.prog 122 #[.pointer (some ⟨g, 0, none⟩), .int .i64 a1] w fun e w' => ∃ v1_ : Value, e = .returned (.agg #[.int .i64 r1, v1_]) ∧ Kd.R k89 89 w' w.heap.size (fun _ => True) v1_ r2 ∧ IsS130 w0 w' g s0_0 r3 ∧ Below w0.heap.size w0 w' ∧ KeepBut w w' g none := by
 have hu36 := Try.underlying36
 have hu89 := Try.underlying89
 have HI0 := Aside0.mk hI
 have HK := Aside0.mk (KeepBut.refl w g none)
 have HL := Aside0.mk hB.size
 clear hI
 have HW0 := Aside0.mk hB.size
 have HB := Aside0.mk hB
 clear hB
 have H : ((spec_l1Next.f s0_0 s0_1 2).bind fun bt202 => (spec_l1Draw.l0 k a1 (wrap64 (1 + bt202.1)) s0_0 bt202.2 a1 ([] : List (S89)))) = some (r1, r2, r3) := h
 clear h
 replace H := Option.bind_eq_some_iff.mp H
 obtain ⟨⟨t202, t203⟩, A30, H⟩ := H
 replace H : (spec_l1Draw.l0 k a1 (wrap64 (1 + t202)) s0_0 t203 a1 ([] : List (S89))) = some (r1, r2, r3) := H
 have A3 := Aside0.mk A30
 clear A30
 have H' := Aside0.mk H
 clear H
 go_enter Try.func122, Try.ntmps122
 go_wp2_with (first | ((with_reducible refine gate_dst (N := 4) rfl ?_); refine q_box (N := 4) (cs := #[.int .i64 0, .slice none 0 0]) (t := 36) ?_; intro gb200 hg w4 hbox hb; have n0_ := Aside0.mk (IsS130.below q_I130_0_1 hb); have n1_ := Aside0.mk (KeepBut.trans q_K (KeepBut.of_below hb g none) (.inl rfl)); have n2_ := Aside0.mk (below_step q_B130_0 hb); have n3_ := Aside0.mk (hbox); have n4_ := Aside0.mk ((by rw [hg]; exact (keep_size (w := w) (g := g) (row := none) q_K) : w.heap.size ≤ gb200)); have n5_ := Aside0.mk ((Nat.le_trans HW0.out (by rw [hg]; exact (keep_size (w := w) (g := g) (row := none) q_K) : w.heap.size ≤ gb200) : w0.heap.size ≤ gb200)); have n6_ := Aside0.mk ((by rw [hg]; exact Nat.ne_of_lt (IsS130.lt (show IsS130 w0 _ g s0_0 s0_1 from q_I130_0_1)) : g ≠ gb200)); have n7_ := Aside0.mk ((by rw [hg]; exact Nat.ne_of_gt (IsS130.lt (show IsS130 w0 _ g s0_0 s0_1 from q_I130_0_1)) : gb200 ≠ g)); revert n0_ n1_ n2_ n3_ n4_ n5_ n6_ n7_; clear HI0 HK HB; intro HI0 HK HB BK200 GW200 GE200 NB0_200 NB200_0; clear hb hbox hg) | ((with_reducible refine gate_dst (N := 5) rfl ?_); refine q_box (N := 5) (cs := #[.int .i64 0, .slice none 0 0]) (t := 36) ?_; intro gb201 hg w5 hbox hb; have n0_ := Aside0.mk (IsS130.below q_I130_0_1 hb); have n1_ := Aside0.mk (blk_below (q_b BK200.out) hb); have n2_ := Aside0.mk (KeepBut.trans q_K (KeepBut.of_below hb g none) (.inl rfl)); have n3_ := Aside0.mk (below_step q_B130_0 hb); have n4_ := Aside0.mk (hbox); have n5_ := Aside0.mk ((by rw [hg]; exact (keep_size (w := w) (g := g) (row := none) q_K) : w.heap.size ≤ gb201)); have n6_ := Aside0.mk ((Nat.le_trans HW0.out (by rw [hg]; exact (keep_size (w := w) (g := g) (row := none) q_K) : w.heap.size ≤ gb201) : w0.heap.size ≤ gb201)); have n7_ := Aside0.mk ((q_n hg (q_b BK200.out) : gb200 ≠ gb201)); have n8_ := Aside0.mk ((q_m hg (q_b BK200.out) : gb201 ≠ gb200)); have n9_ := Aside0.mk ((by rw [hg]; exact Nat.ne_of_lt (IsS130.lt (show IsS130 w0 _ g s0_0 s0_1 from q_I130_0_1)) : g ≠ gb201)); have n10_ := Aside0.mk ((by rw [hg]; exact Nat.ne_of_gt (IsS130.lt (show IsS130 w0 _ g s0_0 s0_1 from q_I130_0_1)) : gb201 ≠ g)); revert n0_ n1_ n2_ n3_ n4_ n5_ n6_ n7_ n8_ n9_ n10_; clear HI0 BK200 HK HB; intro HI0 BK200 HK HB BK201 GW201 GE201 NB200_201 NB201_200 NB0_201 NB201_0; clear hb hbox hg; have hnb6 := NB201_200.out; have hnc6 := NB200_201.out; have hnb7 := NB201_0.out; have hnc7 := NB0_201.out; obtain ⟨hcz8_0, hcz8_1, hfz8_0, hfz8_1⟩ := q_2 BK201.out) | ((with_reducible refine gate_callee (f := 121) rfl ?_); refine goesLq (some 15) rfl rfl Try.func121 (by kernel_rfl) rfl #[.pointer (some ⟨g, 0, none⟩), .int .i64 2] rfl ?_; (with_reducible refine (spec_l1Next.calls g s0_0 s0_1 2 t202 t203 w0 _ ?side1 ?side2 A3.out).mono ?_); (case side1 => repeat (first | (with_reducible first | exact HI0.out | apply IsS130.alloc | apply IsS130.drewN | apply IsS130.drew | apply IsS130.set_1 | refine IsS130.far ?_ NB0_200.out _ | refine IsS130.far ?_ NB0_201.out _) | exact HI0.out)); (case side2 => repeat (first | (with_reducible first | exact HB.out | apply below_alloc | apply pw_below_drewN | apply below_drew1 | refine below_set ?_ (IsS130.ge HI0.out) | refine below_set ?_ GE200.out | refine below_set ?_ GE201.out) | exact HB.out)); rintro e w9 ⟨rfl, hi, hb, hk⟩; refine ⟨_, rfl, ?_⟩; have n0_ := Aside0.mk (KeepBut.blk hk (g' := gb200) (o := .cells #[.int .i64 0, .slice none 0 0] 36 (0, 0)) (by (with_reducible repeat (first | refine blk_drewN ?_ _ | refine blk_drew ?_ | refine blk_alloc ?_ _)); refine blk_far ?_ NB200_201.out _; (with_reducible repeat (first | refine blk_drewN ?_ _ | refine blk_drew ?_ | refine blk_alloc ?_ _)); refine blk_far ?_ NB200_201.out _; (with_reducible repeat (first | refine blk_drewN ?_ _ | refine blk_drew ?_ | refine blk_alloc ?_ _)); exact BK200.out) NB200_0.out (by simp)); have n1_ := Aside0.mk (KeepBut.blk hk (g' := gb201) (o := .cells #[.int .i64 a1, .slice none 0 0] 36 (0, 0)) (by (with_reducible repeat (first | refine blk_drewN ?_ _ | refine blk_drew ?_ | refine blk_alloc ?_ _)); refine blk_put (cs := #[.int .i64 a1, .slice none 0 0]) ?_ 1 _ rfl; (with_reducible repeat (first | refine blk_drewN ?_ _ | refine blk_drew ?_ | refine blk_alloc ?_ _)); refine blk_put (cs := #[.int .i64 0, .slice none 0 0]) ?_ 0 _ rfl; (with_reducible repeat (first | refine blk_drewN ?_ _ | refine blk_drew ?_ | refine blk_alloc ?_ _)); exact BK201.out) NB201_0.out (by simp)); have n2_ := Aside0.mk (KeepBut.trans q_K hk (.inl rfl)); have n3_ := Aside0.mk (hb); have n4_ := Aside0.mk (hi); revert n0_ n1_ n2_ n3_ n4_; clear BK200 BK201 HK HB HI0; intro BK200 BK201 HK HB HI0; (try clear hb); (try clear hb2); (try clear hk); (try clear hi)))
 go_loopg [6] k (fun kq v6 w' => ∃ (x6_1 : Int) (x1001_1 : Int) (x202000_1 : Int) (x202001_1 : List (S89)) (u202001 : Value), v6 = .int .i64 x6_1 ∧ Aside0 (spec_l1Draw.l0 kq a1 x6_1 s0_0 x1001_1 x202000_1 x202001_1 = some (r1, r2, r3)) ∧ Aside0 (kq ≤ k) ∧ Aside0 (Kd.R k89 89 w' w.heap.size (fun _ => True) u202001 x202001_1) ∧ Aside0 (w'.heap[gb200]? = some (.cells #[.int .i64 0, (.slice none 0 0)] 36 (0, 0))) ∧ Aside0 (w'.heap[gb201]? = some (.cells #[.int .i64 x202000_1, u202001] 36 (0, 0))) ∧ Aside0 (IsS130 w0 w' g s0_0 x1001_1) ∧ Aside0 (KeepBut w w' g none) ∧ Aside0 (Below w0.heap.size w0 w'))
 case atStart => exact ⟨(wrap64 (1 + t202)), (t203), (a1), (([] : List (S89))), (.slice none 0 0), q_i, H', ⟨Nat.le_refl _⟩, ⟨by first | exact Kd.R_nil _ _ _ _ _ | exact Kd.N_nil _ _ _ _ _ | exact Kd.V_nil _ _ _ _ _ | exact Kd.Q_nil _ _ _ _ _ | exact Kd.S_nil _ _ _ _ _⟩, ⟨q_b BK200.out⟩, ⟨q_b BK201.out⟩, ⟨q_I130_0_1⟩, ⟨q_K⟩, ⟨q_B130_0⟩⟩
 case round =>
  clear H'
  (try clear c1); (try clear p2); (try clear c6); (try clear p6); (try clear c7); (try clear hcz8_0); (try clear hcz8_1); (try clear hfz8_0); (try clear hfz8_1)
  obtain ⟨x6_1, x1001_1, x202000_1, x202001_1, u202001, rfl, HA, HK1, HO_202001, BK200, BK201, HI0, HK, HB⟩ := hrel
  cases gk with
  | zero => exact absurd HA.out (by simp [spec_l1Draw.l0])
  | succ k1 =>
   have H := HA.out
   clear HA
   simp only [spec_l1Draw.l0] at H
   by_cases c10 : x6_1 > 0
   ·rw [if_pos c10] at H
    have c10b0 := decide_eq_true c10
    clear c10
    replace H := Option.bind_eq_some_iff.mp H
    obtain ⟨⟨t207, t208⟩, A110, H⟩ := H
    replace H : ((spec_l1Next.f s0_0 t208 40).bind fun bt209 => ((spec_l1Next.f s0_0 bt209.2 3).bind fun bt211 => ((spec_l1Next.f s0_0 bt211.2 4).bind fun bt213 => ((spec_l1Next.f s0_0 bt213.2 3).bind fun bt216 => ((spec_l1Next.f s0_0 bt216.2 4).bind fun bt218 => ((some (([] : List (S89)) : List (S89))).bind fun y221 => (if y221.length + x202001_1.length < 4398046511104 then ((some (y221 ++ x202001_1 : List (S89))).bind fun y224 => ((some (([(⟨bt211.1, bt213.1, t207, wrap64 (-(wrap64 (1 + bt209.1)))⟩ : S89), (⟨bt216.1, bt218.1, t207, wrap64 (1 + bt209.1)⟩ : S89)] : List (S89)) : List (S89))).bind fun y227 => (if y224.length + y227.length < 4398046511104 then ((some (y224 ++ y227 : List (S89))).bind fun y230 => ((spec_ContractFault.f k1 a1 y230).bind fun t234 => (if t234 = 0 then (spec_l1Draw.l0 k1 a1 (wrap64 (x6_1 - 1)) s0_0 bt218.2 a1 y230) else (spec_l1Draw.l0 k1 a1 (wrap64 (x6_1 - 1)) s0_0 bt218.2 x202000_1 x202001_1)))) else (none)))) else (none)))))))) = some (r1, r2, r3) := H
    have A11 := Aside0.mk A110
    clear A110
    replace H := Option.bind_eq_some_iff.mp H
    obtain ⟨⟨t209, t210⟩, A120, H⟩ := H
    replace H : ((spec_l1Next.f s0_0 t210 3).bind fun bt211 => ((spec_l1Next.f s0_0 bt211.2 4).bind fun bt213 => ((spec_l1Next.f s0_0 bt213.2 3).bind fun bt216 => ((spec_l1Next.f s0_0 bt216.2 4).bind fun bt218 => ((some (([] : List (S89)) : List (S89))).bind fun y221 => (if y221.length + x202001_1.length < 4398046511104 then ((some (y221 ++ x202001_1 : List (S89))).bind fun y224 => ((some (([(⟨bt211.1, bt213.1, t207, wrap64 (-(wrap64 (1 + t209)))⟩ : S89), (⟨bt216.1, bt218.1, t207, wrap64 (1 + t209)⟩ : S89)] : List (S89)) : List (S89))).bind fun y227 => (if y224.length + y227.length < 4398046511104 then ((some (y224 ++ y227 : List (S89))).bind fun y230 => ((spec_ContractFault.f k1 a1 y230).bind fun t234 => (if t234 = 0 then (spec_l1Draw.l0 k1 a1 (wrap64 (x6_1 - 1)) s0_0 bt218.2 a1 y230) else (spec_l1Draw.l0 k1 a1 (wrap64 (x6_1 - 1)) s0_0 bt218.2 x202000_1 x202001_1)))) else (none)))) else (none))))))) = some (r1, r2, r3) := H
    have A12 := Aside0.mk A120
    clear A120
    replace H := Option.bind_eq_some_iff.mp H
    obtain ⟨⟨t211, t212⟩, A130, H⟩ := H
    replace H : ((spec_l1Next.f s0_0 t212 4).bind fun bt213 => ((spec_l1Next.f s0_0 bt213.2 3).bind fun bt216 => ((spec_l1Next.f s0_0 bt216.2 4).bind fun bt218 => ((some (([] : List (S89)) : List (S89))).bind fun y221 => (if y221.length + x202001_1.length < 4398046511104 then ((some (y221 ++ x202001_1 : List (S89))).bind fun y224 => ((some (([(⟨t211, bt213.1, t207, wrap64 (-(wrap64 (1 + t209)))⟩ : S89), (⟨bt216.1, bt218.1, t207, wrap64 (1 + t209)⟩ : S89)] : List (S89)) : List (S89))).bind fun y227 => (if y224.length + y227.length < 4398046511104 then ((some (y224 ++ y227 : List (S89))).bind fun y230 => ((spec_ContractFault.f k1 a1 y230).bind fun t234 => (if t234 = 0 then (spec_l1Draw.l0 k1 a1 (wrap64 (x6_1 - 1)) s0_0 bt218.2 a1 y230) else (spec_l1Draw.l0 k1 a1 (wrap64 (x6_1 - 1)) s0_0 bt218.2 x202000_1 x202001_1)))) else (none)))) else (none)))))) = some (r1, r2, r3) := H
    have A13 := Aside0.mk A130
    clear A130
    replace H := Option.bind_eq_some_iff.mp H
    obtain ⟨⟨t213, t214⟩, A140, H⟩ := H
    replace H : ((spec_l1Next.f s0_0 t214 3).bind fun bt216 => ((spec_l1Next.f s0_0 bt216.2 4).bind fun bt218 => ((some (([] : List (S89)) : List (S89))).bind fun y221 => (if y221.length + x202001_1.length < 4398046511104 then ((some (y221 ++ x202001_1 : List (S89))).bind fun y224 => ((some (([(⟨t211, t213, t207, wrap64 (-(wrap64 (1 + t209)))⟩ : S89), (⟨bt216.1, bt218.1, t207, wrap64 (1 + t209)⟩ : S89)] : List (S89)) : List (S89))).bind fun y227 => (if y224.length + y227.length < 4398046511104 then ((some (y224 ++ y227 : List (S89))).bind fun y230 => ((spec_ContractFault.f k1 a1 y230).bind fun t234 => (if t234 = 0 then (spec_l1Draw.l0 k1 a1 (wrap64 (x6_1 - 1)) s0_0 bt218.2 a1 y230) else (spec_l1Draw.l0 k1 a1 (wrap64 (x6_1 - 1)) s0_0 bt218.2 x202000_1 x202001_1)))) else (none)))) else (none))))) = some (r1, r2, r3) := H
    have A14 := Aside0.mk A140
    clear A140
    replace H := Option.bind_eq_some_iff.mp H
    obtain ⟨⟨t216, t217⟩, A150, H⟩ := H
    replace H : ((spec_l1Next.f s0_0 t217 4).bind fun bt218 => ((some (([] : List (S89)) : List (S89))).bind fun y221 => (if y221.length + x202001_1.length < 4398046511104 then ((some (y221 ++ x202001_1 : List (S89))).bind fun y224 => ((some (([(⟨t211, t213, t207, wrap64 (-(wrap64 (1 + t209)))⟩ : S89), (⟨t216, bt218.1, t207, wrap64 (1 + t209)⟩ : S89)] : List (S89)) : List (S89))).bind fun y227 => (if y224.length + y227.length < 4398046511104 then ((some (y224 ++ y227 : List (S89))).bind fun y230 => ((spec_ContractFault.f k1 a1 y230).bind fun t234 => (if t234 = 0 then (spec_l1Draw.l0 k1 a1 (wrap64 (x6_1 - 1)) s0_0 bt218.2 a1 y230) else (spec_l1Draw.l0 k1 a1 (wrap64 (x6_1 - 1)) s0_0 bt218.2 x202000_1 x202001_1)))) else (none)))) else (none)))) = some (r1, r2, r3) := H
    have A15 := Aside0.mk A150
    clear A150
    replace H := Option.bind_eq_some_iff.mp H
    obtain ⟨⟨t218, t219⟩, A160, H⟩ := H
    replace H : ((some (([] : List (S89)) : List (S89))).bind fun y221 => (if y221.length + x202001_1.length < 4398046511104 then ((some (y221 ++ x202001_1 : List (S89))).bind fun y224 => ((some (([(⟨t211, t213, t207, wrap64 (-(wrap64 (1 + t209)))⟩ : S89), (⟨t216, t218, t207, wrap64 (1 + t209)⟩ : S89)] : List (S89)) : List (S89))).bind fun y227 => (if y224.length + y227.length < 4398046511104 then ((some (y224 ++ y227 : List (S89))).bind fun y230 => ((spec_ContractFault.f k1 a1 y230).bind fun t234 => (if t234 = 0 then (spec_l1Draw.l0 k1 a1 (wrap64 (x6_1 - 1)) s0_0 t219 a1 y230) else (spec_l1Draw.l0 k1 a1 (wrap64 (x6_1 - 1)) s0_0 t219 x202000_1 x202001_1)))) else (none)))) else (none))) = some (r1, r2, r3) := H
    have A16 := Aside0.mk A160
    clear A160
    obtain ⟨y221, hy221⟩ : ∃ y_ : List (S89), y_ = (([] : List (S89))) := ⟨_, rfl⟩
    replace H : (if y221.length + x202001_1.length < 4398046511104 then ((some (y221 ++ x202001_1 : List (S89))).bind fun y224 => ((some (([(⟨t211, t213, t207, wrap64 (-(wrap64 (1 + t209)))⟩ : S89), (⟨t216, t218, t207, wrap64 (1 + t209)⟩ : S89)] : List (S89)) : List (S89))).bind fun y227 => (if y224.length + y227.length < 4398046511104 then ((some (y224 ++ y227 : List (S89))).bind fun y230 => ((spec_ContractFault.f k1 a1 y230).bind fun t234 => (if t234 = 0 then (spec_l1Draw.l0 k1 a1 (wrap64 (x6_1 - 1)) s0_0 t219 a1 y230) else (spec_l1Draw.l0 k1 a1 (wrap64 (x6_1 - 1)) s0_0 t219 x202000_1 x202001_1)))) else (none)))) else (none)) = some (r1, r2, r3) := q_h hy221 H
    have Ny221 := Aside0.mk hy221
    clear hy221
    by_cases c17 : y221.length + x202001_1.length < 4398046511104
    ·rw [if_pos c17] at H
     have LMc17 := Aside0.mk c17
     clear c17
     obtain ⟨y224, hy224⟩ : ∃ y_ : List (S89), y_ = (y221 ++ x202001_1) := ⟨_, rfl⟩
     replace H : ((some (([(⟨t211, t213, t207, wrap64 (-(wrap64 (1 + t209)))⟩ : S89), (⟨t216, t218, t207, wrap64 (1 + t209)⟩ : S89)] : List (S89)) : List (S89))).bind fun y227 => (if y224.length + y227.length < 4398046511104 then ((some (y224 ++ y227 : List (S89))).bind fun y230 => ((spec_ContractFault.f k1 a1 y230).bind fun t234 => (if t234 = 0 then (spec_l1Draw.l0 k1 a1 (wrap64 (x6_1 - 1)) s0_0 t219 a1 y230) else (spec_l1Draw.l0 k1 a1 (wrap64 (x6_1 - 1)) s0_0 t219 x202000_1 x202001_1)))) else (none))) = some (r1, r2, r3) := q_h hy224 H
     have Ny224 := Aside0.mk hy224
     clear hy224
     obtain ⟨y227, hy227⟩ : ∃ y_ : List (S89), y_ = (([(⟨t211, t213, t207, wrap64 (-(wrap64 (1 + t209)))⟩ : S89), (⟨t216, t218, t207, wrap64 (1 + t209)⟩ : S89)] : List (S89))) := ⟨_, rfl⟩
     replace H : (if y224.length + y227.length < 4398046511104 then ((some (y224 ++ y227 : List (S89))).bind fun y230 => ((spec_ContractFault.f k1 a1 y230).bind fun t234 => (if t234 = 0 then (spec_l1Draw.l0 k1 a1 (wrap64 (x6_1 - 1)) s0_0 t219 a1 y230) else (spec_l1Draw.l0 k1 a1 (wrap64 (x6_1 - 1)) s0_0 t219 x202000_1 x202001_1)))) else (none)) = some (r1, r2, r3) := q_h hy227 H
     have Ny227 := Aside0.mk hy227
     clear hy227
     by_cases c18 : y224.length + y227.length < 4398046511104
     ·rw [if_pos c18] at H
      have LMc18 := Aside0.mk c18
      clear c18
      obtain ⟨y230, hy230⟩ : ∃ y_ : List (S89), y_ = (y224 ++ y227) := ⟨_, rfl⟩
      replace H : ((spec_ContractFault.f k1 a1 y230).bind fun t234 => (if t234 = 0 then (spec_l1Draw.l0 k1 a1 (wrap64 (x6_1 - 1)) s0_0 t219 a1 y230) else (spec_l1Draw.l0 k1 a1 (wrap64 (x6_1 - 1)) s0_0 t219 x202000_1 x202001_1))) = some (r1, r2, r3) := q_h hy230 H
      have Ny230 := Aside0.mk hy230
      clear hy230
      replace H := Option.bind_eq_some_iff.mp H
      obtain ⟨t234, A190, H⟩ := H
      replace H : (if t234 = 0 then (spec_l1Draw.l0 k1 a1 (wrap64 (x6_1 - 1)) s0_0 t219 a1 y230) else (spec_l1Draw.l0 k1 a1 (wrap64 (x6_1 - 1)) s0_0 t219 x202000_1 x202001_1)) = some (r1, r2, r3) := H
      have A19 := Aside0.mk A190
      clear A190
      have HQ_ := Aside0.mk H
      clear H
      try go_wp2_with (first | ((with_reducible refine gate_callee (f := 121) rfl ?_); refine goesLq (some 22) rfl rfl Try.func121 (by kernel_rfl) rfl #[.pointer (some ⟨g, 0, none⟩), .int .i64 3] rfl ?_; (with_reducible refine (spec_l1Next.calls g s0_0 x1001_1 3 t207 t208 w0 _ ?side1 ?side2 A11.out).mono ?_); (case side1 => repeat (first | (with_reducible first | exact HI0.out | apply IsS130.alloc | apply IsS130.drewN | apply IsS130.drew | apply IsS130.set_1 | refine IsS130.far ?_ NB0_200.out _ | refine IsS130.far ?_ NB0_201.out _) | exact HI0.out)); (case side2 => repeat (first | (with_reducible first | exact HB.out | apply below_alloc | apply pw_below_drewN | apply below_drew1 | refine below_set ?_ (IsS130.ge HI0.out) | refine below_set ?_ GE200.out | refine below_set ?_ GE201.out) | exact HB.out)); rintro e w21 ⟨rfl, hi, hb, hk⟩; refine ⟨_, rfl, ?_⟩; have n0_ := Aside0.mk (Kd.R_mono (Kd.R_keep (IsS130.apart (show IsS130 w0 _ g s0_0 x1001_1 from q_I130_0_1) (q_r (HO_202001.out)) (by decide)) hk (fun _ h => h.2)) (fun _ h => h.1)); have n1_ := Aside0.mk (KeepBut.blk hk (g' := gb200) (o := .cells #[.int .i64 0, .slice none 0 0] 36 (0, 0)) kq NB200_0.out (by simp)); have n2_ := Aside0.mk (KeepBut.blk hk (g' := gb201) (o := .cells #[.int .i64 x202000_1, u202001] 36 (0, 0)) kq NB201_0.out (by simp)); have n3_ := Aside0.mk (KeepBut.trans q_K hk (.inl rfl)); have n4_ := Aside0.mk (hb); have n5_ := Aside0.mk (hi); revert n0_ n1_ n2_ n3_ n4_ n5_; clear HO_202001 BK200 BK201 HK HB HI0; intro HO_202001 BK200 BK201 HK HB HI0; (try clear hb); (try clear hb2); (try clear hk); (try clear hi)) | ((with_reducible refine gate_callee (f := 121) rfl ?_); refine goesLq (some 24) rfl rfl Try.func121 (by kernel_rfl) rfl #[.pointer (some ⟨g, 0, none⟩), .int .i64 40] rfl ?_; (with_reducible refine (spec_l1Next.calls g s0_0 t208 40 t209 t210 w0 _ ?side1 ?side2 A12.out).mono ?_); (case side1 => repeat (first | (with_reducible first | exact HI0.out | apply IsS130.alloc | apply IsS130.drewN | apply IsS130.drew | apply IsS130.set_1 | refine IsS130.far ?_ NB0_200.out _ | refine IsS130.far ?_ NB0_201.out _) | exact HI0.out)); (case side2 => repeat (first | (with_reducible first | exact HB.out | apply below_alloc | apply pw_below_drewN | apply below_drew1 | refine below_set ?_ (IsS130.ge HI0.out) | refine below_set ?_ GE200.out | refine below_set ?_ GE201.out) | exact HB.out)); rintro e w22 ⟨rfl, hi, hb, hk⟩; refine ⟨_, rfl, ?_⟩; have n0_ := Aside0.mk (Kd.R_mono (Kd.R_keep (IsS130.apart (show IsS130 w0 _ g s0_0 t208 from q_I130_0_1) (q_r (HO_202001.out)) (by decide)) hk (fun _ h => h.2)) (fun _ h => h.1)); have n1_ := Aside0.mk (KeepBut.blk hk (g' := gb200) (o := .cells #[.int .i64 0, .slice none 0 0] 36 (0, 0)) kq NB200_0.out (by simp)); have n2_ := Aside0.mk (KeepBut.blk hk (g' := gb201) (o := .cells #[.int .i64 x202000_1, u202001] 36 (0, 0)) kq NB201_0.out (by simp)); have n3_ := Aside0.mk (KeepBut.trans q_K hk (.inl rfl)); have n4_ := Aside0.mk (hb); have n5_ := Aside0.mk (hi); revert n0_ n1_ n2_ n3_ n4_ n5_; clear HO_202001 BK200 BK201 HK HB HI0; intro HO_202001 BK200 BK201 HK HB HI0; (try clear hb); (try clear hb2); (try clear hk); (try clear hi)) | ((with_reducible refine gate_callee (f := 121) rfl ?_); refine goesLq (some 27) rfl rfl Try.func121 (by kernel_rfl) rfl #[.pointer (some ⟨g, 0, none⟩), .int .i64 3] rfl ?_; (with_reducible refine (spec_l1Next.calls g s0_0 t210 3 t211 t212 w0 _ ?side1 ?side2 A13.out).mono ?_); (case side1 => repeat (first | (with_reducible first | exact HI0.out | apply IsS130.alloc | apply IsS130.drewN | apply IsS130.drew | apply IsS130.set_1 | refine IsS130.far ?_ NB0_200.out _ | refine IsS130.far ?_ NB0_201.out _) | exact HI0.out)); (case side2 => repeat (first | (with_reducible first | exact HB.out | apply below_alloc | apply pw_below_drewN | apply below_drew1 | refine below_set ?_ (IsS130.ge HI0.out) | refine below_set ?_ GE200.out | refine below_set ?_ GE201.out) | exact HB.out)); rintro e w23 ⟨rfl, hi, hb, hk⟩; refine ⟨_, rfl, ?_⟩; have n0_ := Aside0.mk (Kd.R_mono (Kd.R_keep (IsS130.apart (show IsS130 w0 _ g s0_0 t210 from q_I130_0_1) (q_r (HO_202001.out)) (by decide)) hk (fun _ h => h.2)) (fun _ h => h.1)); have n1_ := Aside0.mk (KeepBut.blk hk (g' := gb200) (o := .cells #[.int .i64 0, .slice none 0 0] 36 (0, 0)) kq NB200_0.out (by simp)); have n2_ := Aside0.mk (KeepBut.blk hk (g' := gb201) (o := .cells #[.int .i64 x202000_1, u202001] 36 (0, 0)) kq NB201_0.out (by simp)); have n3_ := Aside0.mk (KeepBut.trans q_K hk (.inl rfl)); have n4_ := Aside0.mk (hb); have n5_ := Aside0.mk (hi); revert n0_ n1_ n2_ n3_ n4_ n5_; clear HO_202001 BK200 BK201 HK HB HI0; intro HO_202001 BK200 BK201 HK HB HI0; (try clear hb); (try clear hb2); (try clear hk); (try clear hi)) | ((with_reducible refine gate_callee (f := 121) rfl ?_); refine goesLq (some 29) rfl rfl Try.func121 (by kernel_rfl) rfl #[.pointer (some ⟨g, 0, none⟩), .int .i64 4] rfl ?_; (with_reducible refine (spec_l1Next.calls g s0_0 t212 4 t213 t214 w0 _ ?side1 ?side2 A14.out).mono ?_); (case side1 => repeat (first | (with_reducible first | exact HI0.out | apply IsS130.alloc | apply IsS130.drewN | apply IsS130.drew | apply IsS130.set_1 | refine IsS130.far ?_ NB0_200.out _ | refine IsS130.far ?_ NB0_201.out _) | exact HI0.out)); (case side2 => repeat (first | (with_reducible first | exact HB.out | apply below_alloc | apply pw_below_drewN | apply below_drew1 | refine below_set ?_ (IsS130.ge HI0.out) | refine below_set ?_ GE200.out | refine below_set ?_ GE201.out) | exact HB.out)); rintro e w24 ⟨rfl, hi, hb, hk⟩; refine ⟨_, rfl, ?_⟩; have n0_ := Aside0.mk (Kd.R_mono (Kd.R_keep (IsS130.apart (show IsS130 w0 _ g s0_0 t212 from q_I130_0_1) (q_r (HO_202001.out)) (by decide)) hk (fun _ h => h.2)) (fun _ h => h.1)); have n1_ := Aside0.mk (KeepBut.blk hk (g' := gb200) (o := .cells #[.int .i64 0, .slice none 0 0] 36 (0, 0)) kq NB200_0.out (by simp)); have n2_ := Aside0.mk (KeepBut.blk hk (g' := gb201) (o := .cells #[.int .i64 x202000_1, u202001] 36 (0, 0)) kq NB201_0.out (by simp)); have n3_ := Aside0.mk (KeepBut.trans q_K hk (.inl rfl)); have n4_ := Aside0.mk (hb); have n5_ := Aside0.mk (hi); revert n0_ n1_ n2_ n3_ n4_ n5_; clear HO_202001 BK200 BK201 HK HB HI0; intro HO_202001 BK200 BK201 HK HB HI0; (try clear hb); (try clear hb2); (try clear hk); (try clear hi)) | ((with_reducible refine gate_dst (N := 9) rfl ?_); refine q_box (N := 9) (cs := #[.int .i64 0, .int .i64 0, .int .i64 0, .int .i64 0]) (t := 89) ?_; intro gb215 hg w25 hbox hb; have n0_ := Aside0.mk (Kd.R_below (Kd.R_elderB (q_r (HO_202001.out)) gb215 (Nat.le_of_eq hg.symm)) hb); have n1_ := Aside0.mk (blk_below (q_b BK200.out) hb); have n2_ := Aside0.mk (blk_below (q_b BK201.out) hb); have n3_ := Aside0.mk (IsS130.below q_I130_0_1 hb); have n4_ := Aside0.mk (KeepBut.trans q_K (KeepBut.of_below hb g none) (.inl rfl)); have n5_ := Aside0.mk (below_step q_B130_0 hb); have n6_ := Aside0.mk (hbox); have n7_ := Aside0.mk ((by rw [hg]; exact (keep_size (w := w) (g := g) (row := none) q_K) : w.heap.size ≤ gb215)); have n8_ := Aside0.mk ((Nat.le_trans HW0.out (by rw [hg]; exact (keep_size (w := w) (g := g) (row := none) q_K) : w.heap.size ≤ gb215) : w0.heap.size ≤ gb215)); have n9_ := Aside0.mk ((q_n hg (q_b BK200.out) : gb200 ≠ gb215)); have n10_ := Aside0.mk ((q_m hg (q_b BK200.out) : gb215 ≠ gb200)); have n11_ := Aside0.mk ((q_n hg (q_b BK201.out) : gb201 ≠ gb215)); have n12_ := Aside0.mk ((q_m hg (q_b BK201.out) : gb215 ≠ gb201)); have n13_ := Aside0.mk ((by rw [hg]; exact Nat.ne_of_lt (IsS130.lt (show IsS130 w0 _ g s0_0 t214 from q_I130_0_1)) : g ≠ gb215)); have n14_ := Aside0.mk ((by rw [hg]; exact Nat.ne_of_gt (IsS130.lt (show IsS130 w0 _ g s0_0 t214 from q_I130_0_1)) : gb215 ≠ g)); revert n0_ n1_ n2_ n3_ n4_ n5_ n6_ n7_ n8_ n9_ n10_ n11_ n12_ n13_ n14_; clear HO_202001 BK200 BK201 HI0 HK HB; intro HO_202001 BK200 BK201 HI0 HK HB BK215 GW215 GE215 NB200_215 NB215_200 NB201_215 NB215_201 NB0_215 NB215_0; clear hb hbox hg; have hnb26 := NB215_200.out; have hnc26 := NB200_215.out; have hnb27 := NB215_201.out; have hnc27 := NB201_215.out; have hnb28 := NB215_0.out; have hnc28 := NB0_215.out; obtain ⟨hcz29_0, hcz29_1, hcz29_2, hcz29_3, hfz29_0, hfz29_1, hfz29_2, hfz29_3⟩ := q_4 BK215.out) | ((with_reducible refine gate_callee (f := 121) rfl ?_); refine goesLq (some 35) rfl rfl Try.func121 (by kernel_rfl) rfl #[.pointer (some ⟨g, 0, none⟩), .int .i64 3] rfl ?_; (with_reducible refine (spec_l1Next.calls g s0_0 t214 3 t216 t217 w0 _ ?side1 ?side2 A15.out).mono ?_); (case side1 => repeat (first | (with_reducible first | exact HI0.out | apply IsS130.alloc | apply IsS130.drewN | apply IsS130.drew | apply IsS130.set_1 | refine IsS130.far ?_ NB0_200.out _ | refine IsS130.far ?_ NB0_201.out _ | refine IsS130.far ?_ NB0_215.out _) | exact HI0.out)); (case side2 => repeat (first | (with_reducible first | exact HB.out | apply below_alloc | apply pw_below_drewN | apply below_drew1 | refine below_set ?_ (IsS130.ge HI0.out) | refine below_set ?_ GE200.out | refine below_set ?_ GE201.out | refine below_set ?_ GE215.out) | exact HB.out)); rintro e w30 ⟨rfl, hi, hb, hk⟩; refine ⟨_, rfl, ?_⟩; have n0_ := Aside0.mk (Kd.R_mono (Kd.R_keep (IsS130.apart (show IsS130 w0 _ g s0_0 t214 from q_I130_0_1) (by (with_reducible repeat (first | apply Kd.R_alloc | apply Kd.R_drewN | apply Kd.R_drew)); exact (Kd.R_mono (Kd.R_far (p := ⟨gb215, 3, none⟩) (Kd.R_far (p := ⟨gb215, 2, none⟩) (Kd.R_far (p := ⟨gb215, 1, none⟩) (Kd.R_far (p := ⟨gb215, 0, none⟩) (Kd.R_mono HO_202001.out (fun k_ hk => (⟨hk, hk.2⟩ : _ ∧ k_ ≠ gb215))) (fun _ hk => hk.2) (.int .i64 t211)) (fun _ hk => hk.2) (.int .i64 t213)) (fun _ hk => hk.2) (.int .i64 t207)) (fun _ hk => hk.2) (.int .i64 (wrap64 (-(wrap64 (1 + t209)))))) (fun _ h_ => h_.1))) (by decide)) hk (fun _ h => h.2)) (fun _ h => h.1)); have n1_ := Aside0.mk (KeepBut.blk hk (g' := gb200) (o := .cells #[.int .i64 0, .slice none 0 0] 36 (0, 0)) (by (with_reducible repeat (first | refine blk_drewN ?_ _ | refine blk_drew ?_ | refine blk_alloc ?_ _)); refine blk_far ?_ NB200_215.out _; (with_reducible repeat (first | refine blk_drewN ?_ _ | refine blk_drew ?_ | refine blk_alloc ?_ _)); refine blk_far ?_ NB200_215.out _; (with_reducible repeat (first | refine blk_drewN ?_ _ | refine blk_drew ?_ | refine blk_alloc ?_ _)); refine blk_far ?_ NB200_215.out _; (with_reducible repeat (first | refine blk_drewN ?_ _ | refine blk_drew ?_ | refine blk_alloc ?_ _)); refine blk_far ?_ NB200_215.out _; (with_reducible repeat (first | refine blk_drewN ?_ _ | refine blk_drew ?_ | refine blk_alloc ?_ _)); exact BK200.out) NB200_0.out (by simp)); have n2_ := Aside0.mk (KeepBut.blk hk (g' := gb201) (o := .cells #[.int .i64 x202000_1, u202001] 36 (0, 0)) (by (with_reducible repeat (first | refine blk_drewN ?_ _ | refine blk_drew ?_ | refine blk_alloc ?_ _)); refine blk_far ?_ NB201_215.out _; (with_reducible repeat (first | refine blk_drewN ?_ _ | refine blk_drew ?_ | refine blk_alloc ?_ _)); refine blk_far ?_ NB201_215.out _; (with_reducible repeat (first | refine blk_drewN ?_ _ | refine blk_drew ?_ | refine blk_alloc ?_ _)); refine blk_far ?_ NB201_215.out _; (with_reducible repeat (first | refine blk_drewN ?_ _ | refine blk_drew ?_ | refine blk_alloc ?_ _)); refine blk_far ?_ NB201_215.out _; (with_reducible repeat (first | refine blk_drewN ?_ _ | refine blk_drew ?_ | refine blk_alloc ?_ _)); exact BK201.out) NB201_0.out (by simp)); have n3_ := Aside0.mk (KeepBut.blk hk (g' := gb215) (o := .cells #[.int .i64 t211, .int .i64 t213, .int .i64 t207, .int .i64 (wrap64 (-(wrap64 (1 + t209))))] 89 (0, 0)) (by (with_reducible repeat (first | refine blk_drewN ?_ _ | refine blk_drew ?_ | refine blk_alloc ?_ _)); refine blk_put (cs := #[.int .i64 t211, .int .i64 t213, .int .i64 t207, .int .i64 0]) ?_ 3 _ rfl; (with_reducible repeat (first | refine blk_drewN ?_ _ | refine blk_drew ?_ | refine blk_alloc ?_ _)); refine blk_put (cs := #[.int .i64 t211, .int .i64 t213, .int .i64 0, .int .i64 0]) ?_ 2 _ rfl; (with_reducible repeat (first | refine blk_drewN ?_ _ | refine blk_drew ?_ | refine blk_alloc ?_ _)); refine blk_put (cs := #[.int .i64 t211, .int .i64 0, .int .i64 0, .int .i64 0]) ?_ 1 _ rfl; (with_reducible repeat (first | refine blk_drewN ?_ _ | refine blk_drew ?_ | refine blk_alloc ?_ _)); refine blk_put (cs := #[.int .i64 0, .int .i64 0, .int .i64 0, .int .i64 0]) ?_ 0 _ rfl; (with_reducible repeat (first | refine blk_drewN ?_ _ | refine blk_drew ?_ | refine blk_alloc ?_ _)); exact BK215.out) NB215_0.out (by simp)); have n4_ := Aside0.mk (KeepBut.trans q_K hk (.inl rfl)); have n5_ := Aside0.mk (hb); have n6_ := Aside0.mk (hi); revert n0_ n1_ n2_ n3_ n4_ n5_ n6_; clear HO_202001 BK200 BK201 BK215 HK HB HI0; intro HO_202001 BK200 BK201 BK215 HK HB HI0; (try clear hb); (try clear hb2); (try clear hk); (try clear hi)) | ((with_reducible refine gate_callee (f := 121) rfl ?_); refine goesLq (some 37) rfl rfl Try.func121 (by kernel_rfl) rfl #[.pointer (some ⟨g, 0, none⟩), .int .i64 4] rfl ?_; (with_reducible refine (spec_l1Next.calls g s0_0 t217 4 t218 t219 w0 _ ?side1 ?side2 A16.out).mono ?_); (case side1 => repeat (first | (with_reducible first | exact HI0.out | apply IsS130.alloc | apply IsS130.drewN | apply IsS130.drew | apply IsS130.set_1 | refine IsS130.far ?_ NB0_200.out _ | refine IsS130.far ?_ NB0_201.out _ | refine IsS130.far ?_ NB0_215.out _) | exact HI0.out)); (case side2 => repeat (first | (with_reducible first | exact HB.out | apply below_alloc | apply pw_below_drewN | apply below_drew1 | refine below_set ?_ (IsS130.ge HI0.out) | refine below_set ?_ GE200.out | refine below_set ?_ GE201.out | refine below_set ?_ GE215.out) | exact HB.out)); rintro e w31 ⟨rfl, hi, hb, hk⟩; refine ⟨_, rfl, ?_⟩; have n0_ := Aside0.mk (Kd.R_mono (Kd.R_keep (IsS130.apart (show IsS130 w0 _ g s0_0 t217 from q_I130_0_1) (q_r (HO_202001.out)) (by decide)) hk (fun _ h => h.2)) (fun _ h => h.1)); have n1_ := Aside0.mk (KeepBut.blk hk (g' := gb200) (o := .cells #[.int .i64 0, .slice none 0 0] 36 (0, 0)) kq NB200_0.out (by simp)); have n2_ := Aside0.mk (KeepBut.blk hk (g' := gb201) (o := .cells #[.int .i64 x202000_1, u202001] 36 (0, 0)) kq NB201_0.out (by simp)); have n3_ := Aside0.mk (KeepBut.blk hk (g' := gb215) (o := .cells #[.int .i64 t211, .int .i64 t213, .int .i64 t207, .int .i64 (wrap64 (-(wrap64 (1 + t209))))] 89 (0, 0)) kq NB215_0.out (by simp)); have n4_ := Aside0.mk (KeepBut.trans q_K hk (.inl rfl)); have n5_ := Aside0.mk (hb); have n6_ := Aside0.mk (hi); revert n0_ n1_ n2_ n3_ n4_ n5_ n6_; clear HO_202001 BK200 BK201 BK215 HK HB HI0; intro HO_202001 BK200 BK201 BK215 HK HB HI0; (try clear hb); (try clear hb2); (try clear hk); (try clear hi)) | ((with_reducible refine gate_dst (N := 10) rfl ?_); refine q_box (N := 10) (cs := #[.int .i64 0, .int .i64 0, .int .i64 0, .int .i64 0]) (t := 89) ?_; intro gb220 hg w32 hbox hb; have n0_ := Aside0.mk (Kd.R_below (Kd.R_elderB (q_r (HO_202001.out)) gb220 (Nat.le_of_eq hg.symm)) hb); have n1_ := Aside0.mk (blk_below (q_b BK200.out) hb); have n2_ := Aside0.mk (blk_below (q_b BK201.out) hb); have n3_ := Aside0.mk (IsS130.below q_I130_0_1 hb); have n4_ := Aside0.mk (blk_below (q_b BK215.out) hb); have n5_ := Aside0.mk (KeepBut.trans q_K (KeepBut.of_below hb g none) (.inl rfl)); have n6_ := Aside0.mk (below_step q_B130_0 hb); have n7_ := Aside0.mk (hbox); have n8_ := Aside0.mk ((by rw [hg]; exact (keep_size (w := w) (g := g) (row := none) q_K) : w.heap.size ≤ gb220)); have n9_ := Aside0.mk ((Nat.le_trans HW0.out (by rw [hg]; exact (keep_size (w := w) (g := g) (row := none) q_K) : w.heap.size ≤ gb220) : w0.heap.size ≤ gb220)); have n10_ := Aside0.mk ((q_n hg (q_b BK200.out) : gb200 ≠ gb220)); have n11_ := Aside0.mk ((q_m hg (q_b BK200.out) : gb220 ≠ gb200)); have n12_ := Aside0.mk ((q_n hg (q_b BK201.out) : gb201 ≠ gb220)); have n13_ := Aside0.mk ((q_m hg (q_b BK201.out) : gb220 ≠ gb201)); have n14_ := Aside0.mk ((q_n hg (q_b BK215.out) : gb215 ≠ gb220)); have n15_ := Aside0.mk ((q_m hg (q_b BK215.out) : gb220 ≠ gb215)); have n16_ := Aside0.mk ((by rw [hg]; exact Nat.ne_of_lt (IsS130.lt (show IsS130 w0 _ g s0_0 t219 from q_I130_0_1)) : g ≠ gb220)); have n17_ := Aside0.mk ((by rw [hg]; exact Nat.ne_of_gt (IsS130.lt (show IsS130 w0 _ g s0_0 t219 from q_I130_0_1)) : gb220 ≠ g)); revert n0_ n1_ n2_ n3_ n4_ n5_ n6_ n7_ n8_ n9_ n10_ n11_ n12_ n13_ n14_ n15_ n16_ n17_; clear HO_202001 BK200 BK201 HI0 BK215 HK HB; intro HO_202001 BK200 BK201 HI0 BK215 HK HB BK220 GW220 GE220 NB200_220 NB220_200 NB201_220 NB220_201 NB215_220 NB220_215 NB0_220 NB220_0; clear hb hbox hg; have hnb33 := NB220_200.out; have hnc33 := NB200_220.out; have hnb34 := NB220_201.out; have hnc34 := NB201_220.out; have hnb35 := NB220_215.out; have hnc35 := NB215_220.out; have hnb36 := NB220_0.out; have hnc36 := NB0_220.out; obtain ⟨hcz37_0, hcz37_1, hcz37_2, hcz37_3, hfz37_0, hfz37_1, hfz37_2, hfz37_3⟩ := q_4 BK220.out; obtain ⟨Ao38, co38, eo38⟩ := Kd.R_slice HO_202001.out; subst eo38))
      have n0_ : Aside0 (Kd.R k89 89 ((((w32.setCell ⟨gb220, 0, none⟩ (.int .i64 t216)).setCell ⟨gb220, 1, none⟩ (.int .i64 t218)).setCell ⟨gb220, 2, none⟩ (.int .i64 t207)).setCell ⟨gb220, 3, none⟩ (.int .i64 (wrap64 (1 + t209)))) w.heap.size (fun k_ => k_ ≠ gb215 ∧ k_ ≠ gb220) (.slice Ao38 x202001_1.length co38) x202001_1) := ⟨by (with_reducible repeat (first | apply Kd.R_alloc | apply Kd.R_drewN | apply Kd.R_drew)); exact Kd.R_mono (Kd.R_far (p := ⟨gb220, 3, none⟩) (Kd.R_far (p := ⟨gb220, 2, none⟩) (Kd.R_far (p := ⟨gb220, 1, none⟩) (Kd.R_far (p := ⟨gb220, 0, none⟩) (Kd.R_mono HO_202001.out (fun k_ hk => (⟨hk, hk.2⟩ : _ ∧ k_ ≠ gb220))) (fun _ hk => hk.2) (.int .i64 t216)) (fun _ hk => hk.2) (.int .i64 t218)) (fun _ hk => hk.2) (.int .i64 t207)) (fun _ hk => hk.2) (.int .i64 (wrap64 (1 + t209)))) (fun _ hk => ⟨hk.1.1.2, hk.1.2⟩)⟩
      have n1_ : Aside0 (((((w32.setCell ⟨gb220, 0, none⟩ (.int .i64 t216)).setCell ⟨gb220, 1, none⟩ (.int .i64 t218)).setCell ⟨gb220, 2, none⟩ (.int .i64 t207)).setCell ⟨gb220, 3, none⟩ (.int .i64 (wrap64 (1 + t209)))).heap[gb200]? = some (.cells #[.int .i64 0, .slice none 0 0] 36 (0, 0))) := ⟨by (with_reducible repeat (first | refine blk_drewN ?_ _ | refine blk_drew ?_ | refine blk_alloc ?_ _)); refine blk_far ?_ NB200_220.out _; (with_reducible repeat (first | refine blk_drewN ?_ _ | refine blk_drew ?_ | refine blk_alloc ?_ _)); refine blk_far ?_ NB200_220.out _; (with_reducible repeat (first | refine blk_drewN ?_ _ | refine blk_drew ?_ | refine blk_alloc ?_ _)); refine blk_far ?_ NB200_220.out _; (with_reducible repeat (first | refine blk_drewN ?_ _ | refine blk_drew ?_ | refine blk_alloc ?_ _)); refine blk_far ?_ NB200_220.out _; (with_reducible repeat (first | refine blk_drewN ?_ _ | refine blk_drew ?_ | refine blk_alloc ?_ _)); exact BK200.out⟩
      have n2_ : Aside0 (((((w32.setCell ⟨gb220, 0, none⟩ (.int .i64 t216)).setCell ⟨gb220, 1, none⟩ (.int .i64 t218)).setCell ⟨gb220, 2, none⟩ (.int .i64 t207)).setCell ⟨gb220, 3, none⟩ (.int .i64 (wrap64 (1 + t209)))).heap[gb201]? = some (.cells #[.int .i64 x202000_1, .slice Ao38 x202001_1.length co38] 36 (0, 0))) := ⟨by (with_reducible repeat (first | refine blk_drewN ?_ _ | refine blk_drew ?_ | refine blk_alloc ?_ _)); refine blk_far ?_ NB201_220.out _; (with_reducible repeat (first | refine blk_drewN ?_ _ | refine blk_drew ?_ | refine blk_alloc ?_ _)); refine blk_far ?_ NB201_220.out _; (with_reducible repeat (first | refine blk_drewN ?_ _ | refine blk_drew ?_ | refine blk_alloc ?_ _)); refine blk_far ?_ NB201_220.out _; (with_reducible repeat (first | refine blk_drewN ?_ _ | refine blk_drew ?_ | refine blk_alloc ?_ _)); refine blk_far ?_ NB201_220.out _; (with_reducible repeat (first | refine blk_drewN ?_ _ | refine blk_drew ?_ | refine blk_alloc ?_ _)); exact BK201.out⟩
      have n3_ : Aside0 (((((w32.setCell ⟨gb220, 0, none⟩ (.int .i64 t216)).setCell ⟨gb220, 1, none⟩ (.int .i64 t218)).setCell ⟨gb220, 2, none⟩ (.int .i64 t207)).setCell ⟨gb220, 3, none⟩ (.int .i64 (wrap64 (1 + t209)))).heap[gb215]? = some (.cells #[.int .i64 t211, .int .i64 t213, .int .i64 t207, .int .i64 (wrap64 (-(wrap64 (1 + t209))))] 89 (0, 0))) := ⟨by (with_reducible repeat (first | refine blk_drewN ?_ _ | refine blk_drew ?_ | refine blk_alloc ?_ _)); refine blk_far ?_ NB215_220.out _; (with_reducible repeat (first | refine blk_drewN ?_ _ | refine blk_drew ?_ | refine blk_alloc ?_ _)); refine blk_far ?_ NB215_220.out _; (with_reducible repeat (first | refine blk_drewN ?_ _ | refine blk_drew ?_ | refine blk_alloc ?_ _)); refine blk_far ?_ NB215_220.out _; (with_reducible repeat (first | refine blk_drewN ?_ _ | refine blk_drew ?_ | refine blk_alloc ?_ _)); refine blk_far ?_ NB215_220.out _; (with_reducible repeat (first | refine blk_drewN ?_ _ | refine blk_drew ?_ | refine blk_alloc ?_ _)); exact BK215.out⟩
      have n4_ : Aside0 (((((w32.setCell ⟨gb220, 0, none⟩ (.int .i64 t216)).setCell ⟨gb220, 1, none⟩ (.int .i64 t218)).setCell ⟨gb220, 2, none⟩ (.int .i64 t207)).setCell ⟨gb220, 3, none⟩ (.int .i64 (wrap64 (1 + t209)))).heap[gb220]? = some (.cells #[.int .i64 t216, .int .i64 t218, .int .i64 t207, .int .i64 (wrap64 (1 + t209))] 89 (0, 0))) := ⟨by (with_reducible repeat (first | refine blk_drewN ?_ _ | refine blk_drew ?_ | refine blk_alloc ?_ _)); refine blk_put (cs := #[.int .i64 t216, .int .i64 t218, .int .i64 t207, .int .i64 0]) ?_ 3 _ rfl; (with_reducible repeat (first | refine blk_drewN ?_ _ | refine blk_drew ?_ | refine blk_alloc ?_ _)); refine blk_put (cs := #[.int .i64 t216, .int .i64 t218, .int .i64 0, .int .i64 0]) ?_ 2 _ rfl; (with_reducible repeat (first | refine blk_drewN ?_ _ | refine blk_drew ?_ | refine blk_alloc ?_ _)); refine blk_put (cs := #[.int .i64 t216, .int .i64 0, .int .i64 0, .int .i64 0]) ?_ 1 _ rfl; (with_reducible repeat (first | refine blk_drewN ?_ _ | refine blk_drew ?_ | refine blk_alloc ?_ _)); refine blk_put (cs := #[.int .i64 0, .int .i64 0, .int .i64 0, .int .i64 0]) ?_ 0 _ rfl; (with_reducible repeat (first | refine blk_drewN ?_ _ | refine blk_drew ?_ | refine blk_alloc ?_ _)); exact BK220.out⟩
      have n5_ : Aside0 (IsS130 w0 ((((w32.setCell ⟨gb220, 0, none⟩ (.int .i64 t216)).setCell ⟨gb220, 1, none⟩ (.int .i64 t218)).setCell ⟨gb220, 2, none⟩ (.int .i64 t207)).setCell ⟨gb220, 3, none⟩ (.int .i64 (wrap64 (1 + t209)))) g s0_0 t219) := ⟨q_I130_0_1⟩
      have n6_ : Aside0 (KeepBut w ((((w32.setCell ⟨gb220, 0, none⟩ (.int .i64 t216)).setCell ⟨gb220, 1, none⟩ (.int .i64 t218)).setCell ⟨gb220, 2, none⟩ (.int .i64 t207)).setCell ⟨gb220, 3, none⟩ (.int .i64 (wrap64 (1 + t209)))) g none) := ⟨q_K⟩
      have n7_ : Aside0 (Below w0.heap.size w0 ((((w32.setCell ⟨gb220, 0, none⟩ (.int .i64 t216)).setCell ⟨gb220, 1, none⟩ (.int .i64 t218)).setCell ⟨gb220, 2, none⟩ (.int .i64 t207)).setCell ⟨gb220, 3, none⟩ (.int .i64 (wrap64 (1 + t209))))) := ⟨q_B130_0⟩
      (try clear HO_202001)
      (try clear BK200)
      (try clear BK201)
      (try clear BK215)
      (try clear BK220)
      (try clear HI0)
      (try clear HK)
      (try clear HB)
      generalize ((((w32.setCell ⟨gb220, 0, none⟩ (.int .i64 t216)).setCell ⟨gb220, 1, none⟩ (.int .i64 t218)).setCell ⟨gb220, 2, none⟩ (.int .i64 t207)).setCell ⟨gb220, 3, none⟩ (.int .i64 (wrap64 (1 + t209)))) = w39 at n0_ n1_ n2_ n3_ n4_ n5_ n6_ n7_ ⊢
      have HO_202001 := n0_
      have BK200 := n1_
      have BK201 := n2_
      have BK215 := n3_
      have BK220 := n4_
      have HI0 := n5_
      have HK := n6_
      have HB := n7_
      clear n0_ n1_ n2_ n3_ n4_ n5_ n6_ n7_
      have n0_ := Aside0.mk (Kd.R_drew HO_202001.out)
      have n1_ := Aside0.mk (blk_drew BK200.out)
      have n2_ := Aside0.mk (blk_drew BK201.out)
      have n3_ := Aside0.mk (blk_drew BK215.out)
      have n4_ := Aside0.mk (blk_drew BK220.out)
      have n5_ := Aside0.mk (IsS130.drew HI0.out)
      have n6_ := Aside0.mk (keep_drew HK.out)
      have n7_ := Aside0.mk (below_drew1 HB.out)
      clear HO_202001
      clear BK200
      clear BK201
      clear BK215
      clear BK220
      clear HI0
      clear HK
      clear HB
      have HO_202001 := n0_
      have BK200 := n1_
      have BK201 := n2_
      have BK215 := n3_
      have BK220 := n4_
      have HI0 := n5_
      have HK := n6_
      have HB := n7_
      clear n0_ n1_ n2_ n3_ n4_ n5_ n6_ n7_
      refine start_ (n := 12) (S := fun w' => w'.cell? ⟨gb201, 0, none⟩ = some (.int .i64 x202000_1) ∧ w'.cell? ⟨gb201, 1, none⟩ = some (.slice Ao38 x202001_1.length co38) ∧ w'.cell? ⟨gb215, 0, none⟩ = some (.int .i64 t211) ∧ w'.cell? ⟨gb215, 1, none⟩ = some (.int .i64 t213) ∧ w'.cell? ⟨gb215, 2, none⟩ = some (.int .i64 t207) ∧ w'.cell? ⟨gb215, 3, none⟩ = some (.int .i64 (wrap64 (-(wrap64 (1 + t209))))) ∧ w'.cell? ⟨gb220, 0, none⟩ = some (.int .i64 t216) ∧ w'.cell? ⟨gb220, 1, none⟩ = some (.int .i64 t218) ∧ w'.cell? ⟨gb220, 2, none⟩ = some (.int .i64 t207) ∧ w'.cell? ⟨gb220, 3, none⟩ = some (.int .i64 (wrap64 (1 + t209)))) (ds := []) #[false, false, false, false, false, false, false, false, false, false, false, false] (by kernel_rfl) rfl rfl ⟨q_z BK201.out 0, q_z BK201.out 1, q_z BK215.out 0, q_z BK215.out 1, q_z BK215.out 2, q_z BK215.out 3, q_z BK220.out 0, q_z BK220.out 1, q_z BK220.out 2, q_z BK220.out 3⟩ (fun hHeld => ?_); refine with_tabW spec_l1Draw.tab9 spec_l1Draw.bits9 (fun HT_ HW_ => ?_)
      generalize w39.drew = w40 at HO_202001 BK200 BK201 BK215 BK220 HI0 HK HB hHeld ⊢
      refine q_p 0 (some 41) #[true, false, false, false, false, false, false, false, false, false, false, false] HT_.out ?_
      refine q_p 2 (some 43) #[true, false, true, false, false, false, false, false, false, false, false, false] HT_.out ?_
      refine q_t 3 (some 44) #[true, false, true, true, false, false, false, false, false, false, false, false] HT_.out HW_.out hHeld ?_
      refine q_t 5 (some 46) #[true, false, true, true, false, true, false, false, false, false, false, false] HT_.out HW_.out hHeld ?_
      refine q_t 6 (some 47) #[true, false, true, true, false, true, true, false, false, false, false, false] HT_.out HW_.out hHeld ?_
      refine join_ (σ := Value × Value × Value × Value × Nat) 1 #[true, true, true, true, true, true, true, true, true, true, true, false] (fun s_ => [(42, s_.1), (45, s_.2.1), (48, s_.2.2.1), (49, s_.2.2.2.1), (11, .pointer (some ⟨s_.2.2.2.2, 0, none⟩)), (50, .agg #[.int .i64 a1, s_.2.2.2.1])]) (fun s_ w' => (w'.cell? ⟨gb201, 0, none⟩ = some (.int .i64 x202000_1) ∧ w'.cell? ⟨gb201, 1, none⟩ = some (.slice Ao38 x202001_1.length co38) ∧ w'.cell? ⟨gb215, 0, none⟩ = some (.int .i64 t211) ∧ w'.cell? ⟨gb215, 1, none⟩ = some (.int .i64 t213) ∧ w'.cell? ⟨gb215, 2, none⟩ = some (.int .i64 t207) ∧ w'.cell? ⟨gb215, 3, none⟩ = some (.int .i64 (wrap64 (-(wrap64 (1 + t209))))) ∧ w'.cell? ⟨gb220, 0, none⟩ = some (.int .i64 t216) ∧ w'.cell? ⟨gb220, 1, none⟩ = some (.int .i64 t218) ∧ w'.cell? ⟨gb220, 2, none⟩ = some (.int .i64 t207) ∧ w'.cell? ⟨gb220, 3, none⟩ = some (.int .i64 (wrap64 (1 + t209)))) ∧ (Kd.R k89 89 w' w.heap.size (fun k_ => some k_ ≠ (s_.2.2.2.1 : Value).ownBlock ∧ some k_ ≠ (.slice Ao38 x202001_1.length co38 : Value).ownBlock ∧ k_ ≠ gb215 ∧ k_ ≠ gb220) s_.2.2.1 y227) ∧ (Kd.R k89 89 w' w.heap.size (fun k_ => some k_ ≠ (s_.2.2.1 : Value).ownBlock ∧ some k_ ≠ (.slice Ao38 x202001_1.length co38 : Value).ownBlock ∧ k_ ≠ gb215 ∧ k_ ≠ gb220) s_.2.2.2.1 y230) ∧ (Kd.R k89 89 w' w.heap.size (fun k_ => some k_ ≠ (s_.2.2.1 : Value).ownBlock ∧ some k_ ≠ (s_.2.2.2.1 : Value).ownBlock ∧ k_ ≠ gb215 ∧ k_ ≠ gb220) (.slice Ao38 x202001_1.length co38) x202001_1) ∧ (w'.heap[gb200]? = some (.cells #[.int .i64 0, .slice none 0 0] 36 (0, 0))) ∧ (w'.heap[gb201]? = some (.cells #[.int .i64 x202000_1, .slice Ao38 x202001_1.length co38] 36 (0, 0))) ∧ (w'.heap[gb215]? = some (.cells #[.int .i64 t211, .int .i64 t213, .int .i64 t207, .int .i64 (wrap64 (-(wrap64 (1 + t209))))] 89 (0, 0))) ∧ (w'.heap[gb220]? = some (.cells #[.int .i64 t216, .int .i64 t218, .int .i64 t207, .int .i64 (wrap64 (1 + t209))] 89 (0, 0))) ∧ (w'.heap[s_.2.2.2.2]? = some (.cells #[.int .i64 0, .slice none 0 0] 36 (0, 0))) ∧ (w.heap.size ≤ s_.2.2.2.2) ∧ (w0.heap.size ≤ s_.2.2.2.2) ∧ (g ≠ s_.2.2.2.2) ∧ (s_.2.2.2.2 ≠ g) ∧ (gb200 ≠ s_.2.2.2.2) ∧ (s_.2.2.2.2 ≠ gb200) ∧ (gb201 ≠ s_.2.2.2.2) ∧ (s_.2.2.2.2 ≠ gb201) ∧ (gb215 ≠ s_.2.2.2.2) ∧ (s_.2.2.2.2 ≠ gb215) ∧ (gb220 ≠ s_.2.2.2.2) ∧ (s_.2.2.2.2 ≠ gb220) ∧ (IsS130 w0 w' g s0_0 t219) ∧ (KeepBut w w' g none) ∧ (Below w0.heap.size w0 w')) ?_ ?_
      rotate_left
      ·intro hJ1_4_7_8_10
       refine join_ (σ := Value × Value × Value × Value) 2 #[true, true, true, true, true, true, true, true, true, true, false, false] (fun s_ => [(42, s_.1), (45, s_.2.1), (48, s_.2.2.1), (49, s_.2.2.2), (50, .agg #[.int .i64 a1, s_.2.2.2])]) (fun s_ w' => (w'.cell? ⟨gb201, 0, none⟩ = some (.int .i64 x202000_1) ∧ w'.cell? ⟨gb201, 1, none⟩ = some (.slice Ao38 x202001_1.length co38) ∧ w'.cell? ⟨gb215, 0, none⟩ = some (.int .i64 t211) ∧ w'.cell? ⟨gb215, 1, none⟩ = some (.int .i64 t213) ∧ w'.cell? ⟨gb215, 2, none⟩ = some (.int .i64 t207) ∧ w'.cell? ⟨gb215, 3, none⟩ = some (.int .i64 (wrap64 (-(wrap64 (1 + t209))))) ∧ w'.cell? ⟨gb220, 0, none⟩ = some (.int .i64 t216) ∧ w'.cell? ⟨gb220, 1, none⟩ = some (.int .i64 t218) ∧ w'.cell? ⟨gb220, 2, none⟩ = some (.int .i64 t207) ∧ w'.cell? ⟨gb220, 3, none⟩ = some (.int .i64 (wrap64 (1 + t209)))) ∧ (Kd.R k89 89 w' w.heap.size (fun k_ => some k_ ≠ (s_.2.2.2 : Value).ownBlock ∧ some k_ ≠ (.slice Ao38 x202001_1.length co38 : Value).ownBlock ∧ k_ ≠ gb215 ∧ k_ ≠ gb220) s_.2.2.1 y227) ∧ (Kd.R k89 89 w' w.heap.size (fun k_ => some k_ ≠ (s_.2.2.1 : Value).ownBlock ∧ some k_ ≠ (.slice Ao38 x202001_1.length co38 : Value).ownBlock ∧ k_ ≠ gb215 ∧ k_ ≠ gb220) s_.2.2.2 y230) ∧ (Kd.R k89 89 w' w.heap.size (fun k_ => some k_ ≠ (s_.2.2.1 : Value).ownBlock ∧ some k_ ≠ (s_.2.2.2 : Value).ownBlock ∧ k_ ≠ gb215 ∧ k_ ≠ gb220) (.slice Ao38 x202001_1.length co38) x202001_1) ∧ (w'.heap[gb200]? = some (.cells #[.int .i64 0, .slice none 0 0] 36 (0, 0))) ∧ (w'.heap[gb201]? = some (.cells #[.int .i64 x202000_1, .slice Ao38 x202001_1.length co38] 36 (0, 0))) ∧ (w'.heap[gb215]? = some (.cells #[.int .i64 t211, .int .i64 t213, .int .i64 t207, .int .i64 (wrap64 (-(wrap64 (1 + t209))))] 89 (0, 0))) ∧ (w'.heap[gb220]? = some (.cells #[.int .i64 t216, .int .i64 t218, .int .i64 t207, .int .i64 (wrap64 (1 + t209))] 89 (0, 0))) ∧ (IsS130 w0 w' g s0_0 t219) ∧ (KeepBut w w' g none) ∧ (Below w0.heap.size w0 w')) ?_ ?_
       rotate_left
       ·intro hJ1_4_7_8
        refine join_ (σ := Value × Value × Value × Nat) 3 #[true, true, true, true, true, true, true, true, false, false, true, false] (fun s_ => [(42, s_.1), (45, s_.2.1), (48, s_.2.2.1), (11, .pointer (some ⟨s_.2.2.2, 0, none⟩))]) (fun s_ w' => (w'.cell? ⟨gb201, 0, none⟩ = some (.int .i64 x202000_1) ∧ w'.cell? ⟨gb201, 1, none⟩ = some (.slice Ao38 x202001_1.length co38) ∧ w'.cell? ⟨gb215, 0, none⟩ = some (.int .i64 t211) ∧ w'.cell? ⟨gb215, 1, none⟩ = some (.int .i64 t213) ∧ w'.cell? ⟨gb215, 2, none⟩ = some (.int .i64 t207) ∧ w'.cell? ⟨gb215, 3, none⟩ = some (.int .i64 (wrap64 (-(wrap64 (1 + t209))))) ∧ w'.cell? ⟨gb220, 0, none⟩ = some (.int .i64 t216) ∧ w'.cell? ⟨gb220, 1, none⟩ = some (.int .i64 t218) ∧ w'.cell? ⟨gb220, 2, none⟩ = some (.int .i64 t207) ∧ w'.cell? ⟨gb220, 3, none⟩ = some (.int .i64 (wrap64 (1 + t209)))) ∧ (Kd.R k89 89 w' w.heap.size (fun k_ => some k_ ≠ (s_.2.2.1 : Value).ownBlock ∧ some k_ ≠ (.slice Ao38 x202001_1.length co38 : Value).ownBlock ∧ k_ ≠ gb215 ∧ k_ ≠ gb220) s_.2.1 y224) ∧ (Kd.R k89 89 w' w.heap.size (fun k_ => some k_ ≠ (s_.2.1 : Value).ownBlock ∧ some k_ ≠ (.slice Ao38 x202001_1.length co38 : Value).ownBlock ∧ k_ ≠ gb215 ∧ k_ ≠ gb220) s_.2.2.1 y227) ∧ (Kd.R k89 89 w' w.heap.size (fun k_ => some k_ ≠ (s_.2.1 : Value).ownBlock ∧ some k_ ≠ (s_.2.2.1 : Value).ownBlock ∧ k_ ≠ gb215 ∧ k_ ≠ gb220) (.slice Ao38 x202001_1.length co38) x202001_1) ∧ (w'.heap[gb200]? = some (.cells #[.int .i64 0, .slice none 0 0] 36 (0, 0))) ∧ (w'.heap[gb201]? = some (.cells #[.int .i64 x202000_1, .slice Ao38 x202001_1.length co38] 36 (0, 0))) ∧ (w'.heap[gb215]? = some (.cells #[.int .i64 t211, .int .i64 t213, .int .i64 t207, .int .i64 (wrap64 (-(wrap64 (1 + t209))))] 89 (0, 0))) ∧ (w'.heap[gb220]? = some (.cells #[.int .i64 t216, .int .i64 t218, .int .i64 t207, .int .i64 (wrap64 (1 + t209))] 89 (0, 0))) ∧ (w'.heap[s_.2.2.2]? = some (.cells #[.int .i64 0, .slice none 0 0] 36 (0, 0))) ∧ (w.heap.size ≤ s_.2.2.2) ∧ (w0.heap.size ≤ s_.2.2.2) ∧ (g ≠ s_.2.2.2) ∧ (s_.2.2.2 ≠ g) ∧ (gb200 ≠ s_.2.2.2) ∧ (s_.2.2.2 ≠ gb200) ∧ (gb201 ≠ s_.2.2.2) ∧ (s_.2.2.2 ≠ gb201) ∧ (gb215 ≠ s_.2.2.2) ∧ (s_.2.2.2 ≠ gb215) ∧ (gb220 ≠ s_.2.2.2) ∧ (s_.2.2.2 ≠ gb220) ∧ (IsS130 w0 w' g s0_0 t219) ∧ (KeepBut w w' g none) ∧ (Below w0.heap.size w0 w')) ?_ ?_
        rotate_left
        ·intro hJ1_4_7_10
         refine join_ (σ := Value × Value × Value) 4 #[true, true, true, true, true, true, true, true, false, false, false, false] (fun s_ => [(42, s_.1), (45, s_.2.1), (48, s_.2.2)]) (fun s_ w' => (w'.cell? ⟨gb201, 0, none⟩ = some (.int .i64 x202000_1) ∧ w'.cell? ⟨gb201, 1, none⟩ = some (.slice Ao38 x202001_1.length co38) ∧ w'.cell? ⟨gb215, 0, none⟩ = some (.int .i64 t211) ∧ w'.cell? ⟨gb215, 1, none⟩ = some (.int .i64 t213) ∧ w'.cell? ⟨gb215, 2, none⟩ = some (.int .i64 t207) ∧ w'.cell? ⟨gb215, 3, none⟩ = some (.int .i64 (wrap64 (-(wrap64 (1 + t209))))) ∧ w'.cell? ⟨gb220, 0, none⟩ = some (.int .i64 t216) ∧ w'.cell? ⟨gb220, 1, none⟩ = some (.int .i64 t218) ∧ w'.cell? ⟨gb220, 2, none⟩ = some (.int .i64 t207) ∧ w'.cell? ⟨gb220, 3, none⟩ = some (.int .i64 (wrap64 (1 + t209)))) ∧ (Kd.R k89 89 w' w.heap.size (fun k_ => some k_ ≠ (s_.2.2 : Value).ownBlock ∧ some k_ ≠ (.slice Ao38 x202001_1.length co38 : Value).ownBlock ∧ k_ ≠ gb215 ∧ k_ ≠ gb220) s_.2.1 y224) ∧ (Kd.R k89 89 w' w.heap.size (fun k_ => some k_ ≠ (s_.2.1 : Value).ownBlock ∧ some k_ ≠ (.slice Ao38 x202001_1.length co38 : Value).ownBlock ∧ k_ ≠ gb215 ∧ k_ ≠ gb220) s_.2.2 y227) ∧ (Kd.R k89 89 w' w.heap.size (fun k_ => some k_ ≠ (s_.2.1 : Value).ownBlock ∧ some k_ ≠ (s_.2.2 : Value).ownBlock ∧ k_ ≠ gb215 ∧ k_ ≠ gb220) (.slice Ao38 x202001_1.length co38) x202001_1) ∧ (w'.heap[gb200]? = some (.cells #[.int .i64 0, .slice none 0 0] 36 (0, 0))) ∧ (w'.heap[gb201]? = some (.cells #[.int .i64 x202000_1, .slice Ao38 x202001_1.length co38] 36 (0, 0))) ∧ (w'.heap[gb215]? = some (.cells #[.int .i64 t211, .int .i64 t213, .int .i64 t207, .int .i64 (wrap64 (-(wrap64 (1 + t209))))] 89 (0, 0))) ∧ (w'.heap[gb220]? = some (.cells #[.int .i64 t216, .int .i64 t218, .int .i64 t207, .int .i64 (wrap64 (1 + t209))] 89 (0, 0))) ∧ (IsS130 w0 w' g s0_0 t219) ∧ (KeepBut w w' g none) ∧ (Below w0.heap.size w0 w')) ?_ ?_
         rotate_left
         ·intro hJ1_4_7
          refine join_ (σ := Value × Value × Nat) 4 #[true, true, true, true, true, true, true, false, false, false, true, false] (fun s_ => [(42, s_.1), (45, s_.2.1), (11, .pointer (some ⟨s_.2.2, 0, none⟩))]) (fun s_ w' => (w'.cell? ⟨gb201, 0, none⟩ = some (.int .i64 x202000_1) ∧ w'.cell? ⟨gb201, 1, none⟩ = some (.slice Ao38 x202001_1.length co38) ∧ w'.cell? ⟨gb215, 0, none⟩ = some (.int .i64 t211) ∧ w'.cell? ⟨gb215, 1, none⟩ = some (.int .i64 t213) ∧ w'.cell? ⟨gb215, 2, none⟩ = some (.int .i64 t207) ∧ w'.cell? ⟨gb215, 3, none⟩ = some (.int .i64 (wrap64 (-(wrap64 (1 + t209))))) ∧ w'.cell? ⟨gb220, 0, none⟩ = some (.int .i64 t216) ∧ w'.cell? ⟨gb220, 1, none⟩ = some (.int .i64 t218) ∧ w'.cell? ⟨gb220, 2, none⟩ = some (.int .i64 t207) ∧ w'.cell? ⟨gb220, 3, none⟩ = some (.int .i64 (wrap64 (1 + t209)))) ∧ (Kd.R k89 89 w' w.heap.size (fun k_ => some k_ ≠ (.slice Ao38 x202001_1.length co38 : Value).ownBlock ∧ k_ ≠ gb215 ∧ k_ ≠ gb220) s_.2.1 y224) ∧ (Kd.R k89 89 w' w.heap.size (fun k_ => some k_ ≠ (s_.2.1 : Value).ownBlock ∧ k_ ≠ gb215 ∧ k_ ≠ gb220) (.slice Ao38 x202001_1.length co38) x202001_1) ∧ (w'.heap[gb200]? = some (.cells #[.int .i64 0, .slice none 0 0] 36 (0, 0))) ∧ (w'.heap[gb201]? = some (.cells #[.int .i64 x202000_1, .slice Ao38 x202001_1.length co38] 36 (0, 0))) ∧ (w'.heap[gb215]? = some (.cells #[.int .i64 t211, .int .i64 t213, .int .i64 t207, .int .i64 (wrap64 (-(wrap64 (1 + t209))))] 89 (0, 0))) ∧ (w'.heap[gb220]? = some (.cells #[.int .i64 t216, .int .i64 t218, .int .i64 t207, .int .i64 (wrap64 (1 + t209))] 89 (0, 0))) ∧ (w'.heap[s_.2.2]? = some (.cells #[.int .i64 0, .slice none 0 0] 36 (0, 0))) ∧ (w.heap.size ≤ s_.2.2) ∧ (w0.heap.size ≤ s_.2.2) ∧ (g ≠ s_.2.2) ∧ (s_.2.2 ≠ g) ∧ (gb200 ≠ s_.2.2) ∧ (s_.2.2 ≠ gb200) ∧ (gb201 ≠ s_.2.2) ∧ (s_.2.2 ≠ gb201) ∧ (gb215 ≠ s_.2.2) ∧ (s_.2.2 ≠ gb215) ∧ (gb220 ≠ s_.2.2) ∧ (s_.2.2 ≠ gb220) ∧ (IsS130 w0 w' g s0_0 t219) ∧ (KeepBut w w' g none) ∧ (Below w0.heap.size w0 w')) ?_ ?_
          rotate_left
          ·intro hJ1_4_10
           refine join_ (σ := Value × Value × Nat) 4 #[true, true, true, true, false, true, true, true, false, false, true, false] (fun s_ => [(42, s_.1), (48, s_.2.1), (11, .pointer (some ⟨s_.2.2, 0, none⟩))]) (fun s_ w' => (w'.cell? ⟨gb201, 0, none⟩ = some (.int .i64 x202000_1) ∧ w'.cell? ⟨gb201, 1, none⟩ = some (.slice Ao38 x202001_1.length co38) ∧ w'.cell? ⟨gb215, 0, none⟩ = some (.int .i64 t211) ∧ w'.cell? ⟨gb215, 1, none⟩ = some (.int .i64 t213) ∧ w'.cell? ⟨gb215, 2, none⟩ = some (.int .i64 t207) ∧ w'.cell? ⟨gb215, 3, none⟩ = some (.int .i64 (wrap64 (-(wrap64 (1 + t209))))) ∧ w'.cell? ⟨gb220, 0, none⟩ = some (.int .i64 t216) ∧ w'.cell? ⟨gb220, 1, none⟩ = some (.int .i64 t218) ∧ w'.cell? ⟨gb220, 2, none⟩ = some (.int .i64 t207) ∧ w'.cell? ⟨gb220, 3, none⟩ = some (.int .i64 (wrap64 (1 + t209)))) ∧ (Kd.R k89 89 w' w.heap.size (fun k_ => some k_ ≠ (s_.2.1 : Value).ownBlock ∧ some k_ ≠ (.slice Ao38 x202001_1.length co38 : Value).ownBlock ∧ k_ ≠ gb215 ∧ k_ ≠ gb220) s_.1 y221) ∧ (Kd.R k89 89 w' w.heap.size (fun k_ => some k_ ≠ (s_.1 : Value).ownBlock ∧ some k_ ≠ (.slice Ao38 x202001_1.length co38 : Value).ownBlock ∧ k_ ≠ gb215 ∧ k_ ≠ gb220) s_.2.1 y227) ∧ (Kd.R k89 89 w' w.heap.size (fun k_ => some k_ ≠ (s_.1 : Value).ownBlock ∧ some k_ ≠ (s_.2.1 : Value).ownBlock ∧ k_ ≠ gb215 ∧ k_ ≠ gb220) (.slice Ao38 x202001_1.length co38) x202001_1) ∧ (w'.heap[gb200]? = some (.cells #[.int .i64 0, .slice none 0 0] 36 (0, 0))) ∧ (w'.heap[gb201]? = some (.cells #[.int .i64 x202000_1, .slice Ao38 x202001_1.length co38] 36 (0, 0))) ∧ (w'.heap[gb215]? = some (.cells #[.int .i64 t211, .int .i64 t213, .int .i64 t207, .int .i64 (wrap64 (-(wrap64 (1 + t209))))] 89 (0, 0))) ∧ (w'.heap[gb220]? = some (.cells #[.int .i64 t216, .int .i64 t218, .int .i64 t207, .int .i64 (wrap64 (1 + t209))] 89 (0, 0))) ∧ (w'.heap[s_.2.2]? = some (.cells #[.int .i64 0, .slice none 0 0] 36 (0, 0))) ∧ (w.heap.size ≤ s_.2.2) ∧ (w0.heap.size ≤ s_.2.2) ∧ (g ≠ s_.2.2) ∧ (s_.2.2 ≠ g) ∧ (gb200 ≠ s_.2.2) ∧ (s_.2.2 ≠ gb200) ∧ (gb201 ≠ s_.2.2) ∧ (s_.2.2 ≠ gb201) ∧ (gb215 ≠ s_.2.2) ∧ (s_.2.2 ≠ gb215) ∧ (gb220 ≠ s_.2.2) ∧ (s_.2.2 ≠ gb220) ∧ (IsS130 w0 w' g s0_0 t219) ∧ (KeepBut w w' g none) ∧ (Below w0.heap.size w0 w')) ?_ ?_
           rotate_left
           ·intro hJ1_7_10
            refine join_ (σ := Value × Value) 5 #[true, true, true, true, true, true, true, false, false, false, false, false] (fun s_ => [(42, s_.1), (45, s_.2)]) (fun s_ w' => (w'.cell? ⟨gb201, 0, none⟩ = some (.int .i64 x202000_1) ∧ w'.cell? ⟨gb201, 1, none⟩ = some (.slice Ao38 x202001_1.length co38) ∧ w'.cell? ⟨gb215, 0, none⟩ = some (.int .i64 t211) ∧ w'.cell? ⟨gb215, 1, none⟩ = some (.int .i64 t213) ∧ w'.cell? ⟨gb215, 2, none⟩ = some (.int .i64 t207) ∧ w'.cell? ⟨gb215, 3, none⟩ = some (.int .i64 (wrap64 (-(wrap64 (1 + t209))))) ∧ w'.cell? ⟨gb220, 0, none⟩ = some (.int .i64 t216) ∧ w'.cell? ⟨gb220, 1, none⟩ = some (.int .i64 t218) ∧ w'.cell? ⟨gb220, 2, none⟩ = some (.int .i64 t207) ∧ w'.cell? ⟨gb220, 3, none⟩ = some (.int .i64 (wrap64 (1 + t209)))) ∧ (Kd.R k89 89 w' w.heap.size (fun k_ => some k_ ≠ (.slice Ao38 x202001_1.length co38 : Value).ownBlock ∧ k_ ≠ gb215 ∧ k_ ≠ gb220) s_.2 y224) ∧ (Kd.R k89 89 w' w.heap.size (fun k_ => some k_ ≠ (s_.2 : Value).ownBlock ∧ k_ ≠ gb215 ∧ k_ ≠ gb220) (.slice Ao38 x202001_1.length co38) x202001_1) ∧ (w'.heap[gb200]? = some (.cells #[.int .i64 0, .slice none 0 0] 36 (0, 0))) ∧ (w'.heap[gb201]? = some (.cells #[.int .i64 x202000_1, .slice Ao38 x202001_1.length co38] 36 (0, 0))) ∧ (w'.heap[gb215]? = some (.cells #[.int .i64 t211, .int .i64 t213, .int .i64 t207, .int .i64 (wrap64 (-(wrap64 (1 + t209))))] 89 (0, 0))) ∧ (w'.heap[gb220]? = some (.cells #[.int .i64 t216, .int .i64 t218, .int .i64 t207, .int .i64 (wrap64 (1 + t209))] 89 (0, 0))) ∧ (IsS130 w0 w' g s0_0 t219) ∧ (KeepBut w w' g none) ∧ (Below w0.heap.size w0 w')) ?_ ?_
            rotate_left
            ·intro hJ1_4
             refine join_ (σ := Value × Value) 5 #[true, true, true, true, false, true, true, true, false, false, false, false] (fun s_ => [(42, s_.1), (48, s_.2)]) (fun s_ w' => (w'.cell? ⟨gb201, 0, none⟩ = some (.int .i64 x202000_1) ∧ w'.cell? ⟨gb201, 1, none⟩ = some (.slice Ao38 x202001_1.length co38) ∧ w'.cell? ⟨gb215, 0, none⟩ = some (.int .i64 t211) ∧ w'.cell? ⟨gb215, 1, none⟩ = some (.int .i64 t213) ∧ w'.cell? ⟨gb215, 2, none⟩ = some (.int .i64 t207) ∧ w'.cell? ⟨gb215, 3, none⟩ = some (.int .i64 (wrap64 (-(wrap64 (1 + t209))))) ∧ w'.cell? ⟨gb220, 0, none⟩ = some (.int .i64 t216) ∧ w'.cell? ⟨gb220, 1, none⟩ = some (.int .i64 t218) ∧ w'.cell? ⟨gb220, 2, none⟩ = some (.int .i64 t207) ∧ w'.cell? ⟨gb220, 3, none⟩ = some (.int .i64 (wrap64 (1 + t209)))) ∧ (Kd.R k89 89 w' w.heap.size (fun k_ => some k_ ≠ (s_.2 : Value).ownBlock ∧ some k_ ≠ (.slice Ao38 x202001_1.length co38 : Value).ownBlock ∧ k_ ≠ gb215 ∧ k_ ≠ gb220) s_.1 y221) ∧ (Kd.R k89 89 w' w.heap.size (fun k_ => some k_ ≠ (s_.1 : Value).ownBlock ∧ some k_ ≠ (.slice Ao38 x202001_1.length co38 : Value).ownBlock ∧ k_ ≠ gb215 ∧ k_ ≠ gb220) s_.2 y227) ∧ (Kd.R k89 89 w' w.heap.size (fun k_ => some k_ ≠ (s_.1 : Value).ownBlock ∧ some k_ ≠ (s_.2 : Value).ownBlock ∧ k_ ≠ gb215 ∧ k_ ≠ gb220) (.slice Ao38 x202001_1.length co38) x202001_1) ∧ (w'.heap[gb200]? = some (.cells #[.int .i64 0, .slice none 0 0] 36 (0, 0))) ∧ (w'.heap[gb201]? = some (.cells #[.int .i64 x202000_1, .slice Ao38 x202001_1.length co38] 36 (0, 0))) ∧ (w'.heap[gb215]? = some (.cells #[.int .i64 t211, .int .i64 t213, .int .i64 t207, .int .i64 (wrap64 (-(wrap64 (1 + t209))))] 89 (0, 0))) ∧ (w'.heap[gb220]? = some (.cells #[.int .i64 t216, .int .i64 t218, .int .i64 t207, .int .i64 (wrap64 (1 + t209))] 89 (0, 0))) ∧ (IsS130 w0 w' g s0_0 t219) ∧ (KeepBut w w' g none) ∧ (Below w0.heap.size w0 w')) ?_ ?_
             rotate_left
             ·intro hJ1_7
              refine join_ (σ := Value × Nat) 5 #[true, true, true, true, false, true, true, false, false, false, true, false] (fun s_ => [(42, s_.1), (11, .pointer (some ⟨s_.2, 0, none⟩))]) (fun s_ w' => (w'.cell? ⟨gb201, 0, none⟩ = some (.int .i64 x202000_1) ∧ w'.cell? ⟨gb201, 1, none⟩ = some (.slice Ao38 x202001_1.length co38) ∧ w'.cell? ⟨gb215, 0, none⟩ = some (.int .i64 t211) ∧ w'.cell? ⟨gb215, 1, none⟩ = some (.int .i64 t213) ∧ w'.cell? ⟨gb215, 2, none⟩ = some (.int .i64 t207) ∧ w'.cell? ⟨gb215, 3, none⟩ = some (.int .i64 (wrap64 (-(wrap64 (1 + t209))))) ∧ w'.cell? ⟨gb220, 0, none⟩ = some (.int .i64 t216) ∧ w'.cell? ⟨gb220, 1, none⟩ = some (.int .i64 t218) ∧ w'.cell? ⟨gb220, 2, none⟩ = some (.int .i64 t207) ∧ w'.cell? ⟨gb220, 3, none⟩ = some (.int .i64 (wrap64 (1 + t209)))) ∧ (Kd.R k89 89 w' w.heap.size (fun k_ => some k_ ≠ (.slice Ao38 x202001_1.length co38 : Value).ownBlock ∧ k_ ≠ gb215 ∧ k_ ≠ gb220) s_.1 y221) ∧ (Kd.R k89 89 w' w.heap.size (fun k_ => some k_ ≠ (s_.1 : Value).ownBlock ∧ k_ ≠ gb215 ∧ k_ ≠ gb220) (.slice Ao38 x202001_1.length co38) x202001_1) ∧ (w'.heap[gb200]? = some (.cells #[.int .i64 0, .slice none 0 0] 36 (0, 0))) ∧ (w'.heap[gb201]? = some (.cells #[.int .i64 x202000_1, .slice Ao38 x202001_1.length co38] 36 (0, 0))) ∧ (w'.heap[gb215]? = some (.cells #[.int .i64 t211, .int .i64 t213, .int .i64 t207, .int .i64 (wrap64 (-(wrap64 (1 + t209))))] 89 (0, 0))) ∧ (w'.heap[gb220]? = some (.cells #[.int .i64 t216, .int .i64 t218, .int .i64 t207, .int .i64 (wrap64 (1 + t209))] 89 (0, 0))) ∧ (w'.heap[s_.2]? = some (.cells #[.int .i64 0, .slice none 0 0] 36 (0, 0))) ∧ (w.heap.size ≤ s_.2) ∧ (w0.heap.size ≤ s_.2) ∧ (g ≠ s_.2) ∧ (s_.2 ≠ g) ∧ (gb200 ≠ s_.2) ∧ (s_.2 ≠ gb200) ∧ (gb201 ≠ s_.2) ∧ (s_.2 ≠ gb201) ∧ (gb215 ≠ s_.2) ∧ (s_.2 ≠ gb215) ∧ (gb220 ≠ s_.2) ∧ (s_.2 ≠ gb220) ∧ (IsS130 w0 w' g s0_0 t219) ∧ (KeepBut w w' g none) ∧ (Below w0.heap.size w0 w')) ?_ ?_
              rotate_left
              ·intro hJ1_10
               refine join_ (σ := Value × Nat) 5 #[true, false, true, true, false, true, true, true, false, false, true, false] (fun s_ => [(48, s_.1), (11, .pointer (some ⟨s_.2, 0, none⟩))]) (fun s_ w' => (w'.cell? ⟨gb201, 0, none⟩ = some (.int .i64 x202000_1) ∧ w'.cell? ⟨gb201, 1, none⟩ = some (.slice Ao38 x202001_1.length co38) ∧ w'.cell? ⟨gb215, 0, none⟩ = some (.int .i64 t211) ∧ w'.cell? ⟨gb215, 1, none⟩ = some (.int .i64 t213) ∧ w'.cell? ⟨gb215, 2, none⟩ = some (.int .i64 t207) ∧ w'.cell? ⟨gb215, 3, none⟩ = some (.int .i64 (wrap64 (-(wrap64 (1 + t209))))) ∧ w'.cell? ⟨gb220, 0, none⟩ = some (.int .i64 t216) ∧ w'.cell? ⟨gb220, 1, none⟩ = some (.int .i64 t218) ∧ w'.cell? ⟨gb220, 2, none⟩ = some (.int .i64 t207) ∧ w'.cell? ⟨gb220, 3, none⟩ = some (.int .i64 (wrap64 (1 + t209)))) ∧ (Kd.R k89 89 w' w.heap.size (fun k_ => some k_ ≠ (.slice Ao38 x202001_1.length co38 : Value).ownBlock ∧ k_ ≠ gb215 ∧ k_ ≠ gb220) s_.1 y227) ∧ (Kd.R k89 89 w' w.heap.size (fun k_ => some k_ ≠ (s_.1 : Value).ownBlock ∧ k_ ≠ gb215 ∧ k_ ≠ gb220) (.slice Ao38 x202001_1.length co38) x202001_1) ∧ (w'.heap[gb200]? = some (.cells #[.int .i64 0, .slice none 0 0] 36 (0, 0))) ∧ (w'.heap[gb201]? = some (.cells #[.int .i64 x202000_1, .slice Ao38 x202001_1.length co38] 36 (0, 0))) ∧ (w'.heap[gb215]? = some (.cells #[.int .i64 t211, .int .i64 t213, .int .i64 t207, .int .i64 (wrap64 (-(wrap64 (1 + t209))))] 89 (0, 0))) ∧ (w'.heap[gb220]? = some (.cells #[.int .i64 t216, .int .i64 t218, .int .i64 t207, .int .i64 (wrap64 (1 + t209))] 89 (0, 0))) ∧ (w'.heap[s_.2]? = some (.cells #[.int .i64 0, .slice none 0 0] 36 (0, 0))) ∧ (w.heap.size ≤ s_.2) ∧ (w0.heap.size ≤ s_.2) ∧ (g ≠ s_.2) ∧ (s_.2 ≠ g) ∧ (gb200 ≠ s_.2) ∧ (s_.2 ≠ gb200) ∧ (gb201 ≠ s_.2) ∧ (s_.2 ≠ gb201) ∧ (gb215 ≠ s_.2) ∧ (s_.2 ≠ gb215) ∧ (gb220 ≠ s_.2) ∧ (s_.2 ≠ gb220) ∧ (IsS130 w0 w' g s0_0 t219) ∧ (KeepBut w w' g none) ∧ (Below w0.heap.size w0 w')) ?_ ?_
               rotate_left
               ·intro hJ7_10
                refine join_ (σ := Value) 6 #[true, true, true, true, false, true, true, false, false, false, false, false] (fun s_ => [(42, s_)]) (fun s_ w' => (w'.cell? ⟨gb201, 0, none⟩ = some (.int .i64 x202000_1) ∧ w'.cell? ⟨gb201, 1, none⟩ = some (.slice Ao38 x202001_1.length co38) ∧ w'.cell? ⟨gb215, 0, none⟩ = some (.int .i64 t211) ∧ w'.cell? ⟨gb215, 1, none⟩ = some (.int .i64 t213) ∧ w'.cell? ⟨gb215, 2, none⟩ = some (.int .i64 t207) ∧ w'.cell? ⟨gb215, 3, none⟩ = some (.int .i64 (wrap64 (-(wrap64 (1 + t209))))) ∧ w'.cell? ⟨gb220, 0, none⟩ = some (.int .i64 t216) ∧ w'.cell? ⟨gb220, 1, none⟩ = some (.int .i64 t218) ∧ w'.cell? ⟨gb220, 2, none⟩ = some (.int .i64 t207) ∧ w'.cell? ⟨gb220, 3, none⟩ = some (.int .i64 (wrap64 (1 + t209)))) ∧ (Kd.R k89 89 w' w.heap.size (fun k_ => some k_ ≠ (.slice Ao38 x202001_1.length co38 : Value).ownBlock ∧ k_ ≠ gb215 ∧ k_ ≠ gb220) s_ y221) ∧ (Kd.R k89 89 w' w.heap.size (fun k_ => some k_ ≠ (s_ : Value).ownBlock ∧ k_ ≠ gb215 ∧ k_ ≠ gb220) (.slice Ao38 x202001_1.length co38) x202001_1) ∧ (w'.heap[gb200]? = some (.cells #[.int .i64 0, .slice none 0 0] 36 (0, 0))) ∧ (w'.heap[gb201]? = some (.cells #[.int .i64 x202000_1, .slice Ao38 x202001_1.length co38] 36 (0, 0))) ∧ (w'.heap[gb215]? = some (.cells #[.int .i64 t211, .int .i64 t213, .int .i64 t207, .int .i64 (wrap64 (-(wrap64 (1 + t209))))] 89 (0, 0))) ∧ (w'.heap[gb220]? = some (.cells #[.int .i64 t216, .int .i64 t218, .int .i64 t207, .int .i64 (wrap64 (1 + t209))] 89 (0, 0))) ∧ (IsS130 w0 w' g s0_0 t219) ∧ (KeepBut w w' g none) ∧ (Below w0.heap.size w0 w')) ?_ ?_
                rotate_left
                ·intro hJ1
                 refine join_ (σ := Value) 6 #[true, false, true, true, false, true, true, true, false, false, false, false] (fun s_ => [(48, s_)]) (fun s_ w' => (w'.cell? ⟨gb201, 0, none⟩ = some (.int .i64 x202000_1) ∧ w'.cell? ⟨gb201, 1, none⟩ = some (.slice Ao38 x202001_1.length co38) ∧ w'.cell? ⟨gb215, 0, none⟩ = some (.int .i64 t211) ∧ w'.cell? ⟨gb215, 1, none⟩ = some (.int .i64 t213) ∧ w'.cell? ⟨gb215, 2, none⟩ = some (.int .i64 t207) ∧ w'.cell? ⟨gb215, 3, none⟩ = some (.int .i64 (wrap64 (-(wrap64 (1 + t209))))) ∧ w'.cell? ⟨gb220, 0, none⟩ = some (.int .i64 t216) ∧ w'.cell? ⟨gb220, 1, none⟩ = some (.int .i64 t218) ∧ w'.cell? ⟨gb220, 2, none⟩ = some (.int .i64 t207) ∧ w'.cell? ⟨gb220, 3, none⟩ = some (.int .i64 (wrap64 (1 + t209)))) ∧ (Kd.R k89 89 w' w.heap.size (fun k_ => some k_ ≠ (.slice Ao38 x202001_1.length co38 : Value).ownBlock ∧ k_ ≠ gb215 ∧ k_ ≠ gb220) s_ y227) ∧ (Kd.R k89 89 w' w.heap.size (fun k_ => some k_ ≠ (s_ : Value).ownBlock ∧ k_ ≠ gb215 ∧ k_ ≠ gb220) (.slice Ao38 x202001_1.length co38) x202001_1) ∧ (w'.heap[gb200]? = some (.cells #[.int .i64 0, .slice none 0 0] 36 (0, 0))) ∧ (w'.heap[gb201]? = some (.cells #[.int .i64 x202000_1, .slice Ao38 x202001_1.length co38] 36 (0, 0))) ∧ (w'.heap[gb215]? = some (.cells #[.int .i64 t211, .int .i64 t213, .int .i64 t207, .int .i64 (wrap64 (-(wrap64 (1 + t209))))] 89 (0, 0))) ∧ (w'.heap[gb220]? = some (.cells #[.int .i64 t216, .int .i64 t218, .int .i64 t207, .int .i64 (wrap64 (1 + t209))] 89 (0, 0))) ∧ (IsS130 w0 w' g s0_0 t219) ∧ (KeepBut w w' g none) ∧ (Below w0.heap.size w0 w')) ?_ ?_
                 rotate_left
                 ·intro hJ7
                  refine join_ (σ := Nat) 6 #[true, false, true, true, false, true, true, false, false, false, true, false] (fun s_ => [(11, .pointer (some ⟨s_, 0, none⟩))]) (fun s_ w' => (w'.cell? ⟨gb201, 0, none⟩ = some (.int .i64 x202000_1) ∧ w'.cell? ⟨gb201, 1, none⟩ = some (.slice Ao38 x202001_1.length co38) ∧ w'.cell? ⟨gb215, 0, none⟩ = some (.int .i64 t211) ∧ w'.cell? ⟨gb215, 1, none⟩ = some (.int .i64 t213) ∧ w'.cell? ⟨gb215, 2, none⟩ = some (.int .i64 t207) ∧ w'.cell? ⟨gb215, 3, none⟩ = some (.int .i64 (wrap64 (-(wrap64 (1 + t209))))) ∧ w'.cell? ⟨gb220, 0, none⟩ = some (.int .i64 t216) ∧ w'.cell? ⟨gb220, 1, none⟩ = some (.int .i64 t218) ∧ w'.cell? ⟨gb220, 2, none⟩ = some (.int .i64 t207) ∧ w'.cell? ⟨gb220, 3, none⟩ = some (.int .i64 (wrap64 (1 + t209)))) ∧ (Kd.R k89 89 w' w.heap.size (fun k_ => k_ ≠ gb215 ∧ k_ ≠ gb220) (.slice Ao38 x202001_1.length co38) x202001_1) ∧ (w'.heap[gb200]? = some (.cells #[.int .i64 0, .slice none 0 0] 36 (0, 0))) ∧ (w'.heap[gb201]? = some (.cells #[.int .i64 x202000_1, .slice Ao38 x202001_1.length co38] 36 (0, 0))) ∧ (w'.heap[gb215]? = some (.cells #[.int .i64 t211, .int .i64 t213, .int .i64 t207, .int .i64 (wrap64 (-(wrap64 (1 + t209))))] 89 (0, 0))) ∧ (w'.heap[gb220]? = some (.cells #[.int .i64 t216, .int .i64 t218, .int .i64 t207, .int .i64 (wrap64 (1 + t209))] 89 (0, 0))) ∧ (w'.heap[s_]? = some (.cells #[.int .i64 0, .slice none 0 0] 36 (0, 0))) ∧ (w.heap.size ≤ s_) ∧ (w0.heap.size ≤ s_) ∧ (g ≠ s_) ∧ (s_ ≠ g) ∧ (gb200 ≠ s_) ∧ (s_ ≠ gb200) ∧ (gb201 ≠ s_) ∧ (s_ ≠ gb201) ∧ (gb215 ≠ s_) ∧ (s_ ≠ gb215) ∧ (gb220 ≠ s_) ∧ (s_ ≠ gb220) ∧ (IsS130 w0 w' g s0_0 t219) ∧ (KeepBut w w' g none) ∧ (Below w0.heap.size w0 w')) ?_ ?_
                  rotate_left
                  ·intro hJ10
                   refine three_ (i := 1) (j := 7) (k := 10) (Ni := some 42) (Nj := some 48) (Nk := some 11) #[true, true, true, true, false, true, true, false, false, false, false, false] #[true, false, true, true, false, true, true, true, false, false, false, false] #[true, false, true, true, false, true, true, false, false, false, true, false] rfl rfl rfl rfl rfl rfl (three_of HT_.out (by kernel_rfl)) (by decide) (by decide) (by decide) (fun K hK => ?_) (fun K hK => ?_) (fun K hK => ?_)
                   ·skip
                    refine Kd.R_lit_step k89 _ 89 ?hg (N := 42) ?hd (xs := ([] : List (S89))) (inner := []) (ok := fun _ => True) (okp := fun _ => True) ?hr ?hp (fun _ hk => hk) trivial (Below.refl _ _) (Nat.le_refl _) (by simp) ?_; (case hd => rfl); (case hg => rfl); (case hr => first | (go_simp; done) | (go_simp; rfl)); (case hp => exact (Reps.none _ _))
                    intro v222 w41 ho42 hb hg_ hnew_
                    clear hg_ hnew_
                    (first | rw [← Ny221.out] at ho42 | (simp only [Int.reduceToNat] at ho42; rw [← Ny221.out] at ho42))
                    have n0_ := Aside0.mk (Kd.R_elder' (q_r (HO_202001.out)) (Kd.R_base ho42) hb)
                    have n1_ := Aside0.mk (Kd.R_lower (Kd.R_newB (Kd.R_newB (Kd.R_new' ho42 (Kd.R_lt (q_r (HO_202001.out)))) (q_b BK215.out)) (q_b BK220.out)) (keep_size (w := w) (g := g) (row := none) q_K))
                    have n2_ := Aside0.mk (blk_below (q_b BK200.out) hb)
                    have n3_ := Aside0.mk (blk_below (q_b BK201.out) hb)
                    have n4_ := Aside0.mk (IsS130.below q_I130_0_1 hb)
                    have n5_ := Aside0.mk (blk_below (q_b BK215.out) hb)
                    have n6_ := Aside0.mk (blk_below (q_b BK220.out) hb)
                    have n7_ := Aside0.mk (KeepBut.trans q_K (KeepBut.of_below hb g none) (.inl rfl))
                    have n8_ := Aside0.mk (below_step q_B130_0 hb)
                    clear HO_202001
                    clear BK200
                    clear BK201
                    clear HI0
                    clear BK215
                    clear BK220
                    clear HK
                    clear HB
                    have HO_202001 := n0_
                    have HO223 := n1_
                    have BK200 := n2_
                    have BK201 := n3_
                    have HI0 := n4_
                    have BK215 := n5_
                    have BK220 := n6_
                    have HK := n7_
                    have HB := n8_
                    clear n0_ n1_ n2_ n3_ n4_ n5_ n6_ n7_ n8_
                    clear hb ho42
                    refine hK.out _ _ ⟨q_z BK201.out 0, q_z BK201.out 1, q_z BK215.out 0, q_z BK215.out 1, q_z BK215.out 2, q_z BK215.out 3, q_z BK220.out 0, q_z BK220.out 1, q_z BK220.out 2, q_z BK220.out 3⟩ (fun hHeld => ?_)
                    clear hK K
                    refine norm_ (a' := ?_) ?_ ?_
                    rotate_left
                    ·show Act.put _ (some 42) _ = _
                     simp only [Act.put, List.setIfInBounds_toArray, List.set_cons_zero, List.set_cons_succ, i64_w, i32_w]
                     rfl
                    exact norm_ (by first | (simp only [putAll, Act.put, List.setIfInBounds_toArray, List.set_cons_zero, List.set_cons_succ]; done) | (simp only [putAll, Act.put, List.setIfInBounds_toArray, List.set_cons_zero, List.set_cons_succ]; rfl)) (hJ1 (v222) _ ⟨hHeld, (by (with_reducible repeat (first | apply Kd.R_alloc | apply Kd.R_drewN | apply Kd.R_drew)); exact Kd.R_mono HO223.out (fun _ hk => ⟨hk.1.1.2, ⟨hk.1.2, hk.2⟩⟩)), (by (with_reducible repeat (first | apply Kd.R_alloc | apply Kd.R_drewN | apply Kd.R_drew)); exact Kd.R_mono HO_202001.out (fun _ hk => ⟨hk.2, ⟨hk.1.1, hk.1.2⟩⟩)), kq, kq, kq, kq, q_I130_0_1, q_K, q_B130_0⟩)
                   ·skip
                    refine Kd.R_lit_step k89 _ 89 ?hg (N := 48) ?hd (xs := ([(⟨t211, t213, t207, wrap64 (-(wrap64 (1 + t209)))⟩ : S89), (⟨t216, t218, t207, wrap64 (1 + t209)⟩ : S89)] : List (S89))) (inner := [.int .i64 t211, .int .i64 t213, .int .i64 t207, .int .i64 (wrap64 (-(wrap64 (1 + t209)))), .int .i64 t216, .int .i64 t218, .int .i64 t207, .int .i64 (wrap64 (1 + t209))]) (ok := fun _ => True) (okp := fun _ => True) ?hr ?hp (fun _ hk => hk) trivial (Below.refl _ _) (Nat.le_refl _) (by simp) ?_; (case hd => rfl); (case hg => rfl); (case hr => first | (go_simp; done) | (go_simp; rfl)); (case hp => exact (Reps.c4 (show Kd.M k89 _ _ _ (⟨t211, t213, t207, wrap64 (-(wrap64 (1 + t209)))⟩ : S89) [.int .i64 t211, .int .i64 t213, .int .i64 t207, .int .i64 (wrap64 (-(wrap64 (1 + t209))))] from (k89_mkM _ _ _ (⟨t211, t213, t207, wrap64 (-(wrap64 (1 + t209)))⟩ : S89) )) (Reps.c4 (show Kd.M k89 _ _ _ (⟨t216, t218, t207, wrap64 (1 + t209)⟩ : S89) [.int .i64 t216, .int .i64 t218, .int .i64 t207, .int .i64 (wrap64 (1 + t209))] from (k89_mkM _ _ _ (⟨t216, t218, t207, wrap64 (1 + t209)⟩ : S89) )) (Reps.none _ _))))
                    intro v228 w41 ho42 hb hg_ hnew_
                    clear hg_ hnew_
                    (first | rw [← Ny227.out] at ho42 | (simp only [Int.reduceToNat] at ho42; rw [← Ny227.out] at ho42))
                    have n0_ := Aside0.mk (Kd.R_elder' (q_r (HO_202001.out)) (Kd.R_base ho42) hb)
                    have n1_ := Aside0.mk (Kd.R_lower (Kd.R_newB (Kd.R_newB (Kd.R_new' ho42 (Kd.R_lt (q_r (HO_202001.out)))) (q_b BK215.out)) (q_b BK220.out)) (keep_size (w := w) (g := g) (row := none) q_K))
                    have n2_ := Aside0.mk (blk_below (q_b BK200.out) hb)
                    have n3_ := Aside0.mk (blk_below (q_b BK201.out) hb)
                    have n4_ := Aside0.mk (IsS130.below q_I130_0_1 hb)
                    have n5_ := Aside0.mk (blk_below (q_b BK215.out) hb)
                    have n6_ := Aside0.mk (blk_below (q_b BK220.out) hb)
                    have n7_ := Aside0.mk (KeepBut.trans q_K (KeepBut.of_below hb g none) (.inl rfl))
                    have n8_ := Aside0.mk (below_step q_B130_0 hb)
                    clear HO_202001
                    clear BK200
                    clear BK201
                    clear HI0
                    clear BK215
                    clear BK220
                    clear HK
                    clear HB
                    have HO_202001 := n0_
                    have HO229 := n1_
                    have BK200 := n2_
                    have BK201 := n3_
                    have HI0 := n4_
                    have BK215 := n5_
                    have BK220 := n6_
                    have HK := n7_
                    have HB := n8_
                    clear n0_ n1_ n2_ n3_ n4_ n5_ n6_ n7_ n8_
                    clear hb ho42
                    refine hK.out _ _ ⟨q_z BK201.out 0, q_z BK201.out 1, q_z BK215.out 0, q_z BK215.out 1, q_z BK215.out 2, q_z BK215.out 3, q_z BK220.out 0, q_z BK220.out 1, q_z BK220.out 2, q_z BK220.out 3⟩ (fun hHeld => ?_)
                    clear hK K
                    refine norm_ (a' := ?_) ?_ ?_
                    rotate_left
                    ·show Act.put _ (some 48) _ = _
                     simp only [Act.put, List.setIfInBounds_toArray, List.set_cons_zero, List.set_cons_succ, i64_w, i32_w]
                     rfl
                    exact norm_ (by first | (simp only [putAll, Act.put, List.setIfInBounds_toArray, List.set_cons_zero, List.set_cons_succ]; done) | (simp only [putAll, Act.put, List.setIfInBounds_toArray, List.set_cons_zero, List.set_cons_succ]; rfl)) (hJ7 (v228) _ ⟨hHeld, (by (with_reducible repeat (first | apply Kd.R_alloc | apply Kd.R_drewN | apply Kd.R_drew)); exact Kd.R_mono HO229.out (fun _ hk => ⟨hk.1.1.2, ⟨hk.1.2, hk.2⟩⟩)), (by (with_reducible repeat (first | apply Kd.R_alloc | apply Kd.R_drewN | apply Kd.R_drew)); exact Kd.R_mono HO_202001.out (fun _ hk => ⟨hk.2, ⟨hk.1.1, hk.1.2⟩⟩)), kq, kq, kq, kq, q_I130_0_1, q_K, q_B130_0⟩)
                   ·skip
                    refine box_step ?hg (N := 11) ?hd (cs := #[.int .i64 0, .slice none 0 0]) (t := 36) ?hr ?_; (case hd => rfl); (case hg => rfl); (case hr => first | (go_simp; done) | (go_simp; rfl))
                    intro gb233 hg w41 hbox hb
                    have n0_ := Aside0.mk (Kd.R_below (q_r (HO_202001.out)) hb)
                    have n1_ := Aside0.mk (blk_below (q_b BK200.out) hb)
                    have n2_ := Aside0.mk (blk_below (q_b BK201.out) hb)
                    have n3_ := Aside0.mk (IsS130.below q_I130_0_1 hb)
                    have n4_ := Aside0.mk (blk_below (q_b BK215.out) hb)
                    have n5_ := Aside0.mk (blk_below (q_b BK220.out) hb)
                    have n6_ := Aside0.mk (KeepBut.trans q_K (KeepBut.of_below hb g none) (.inl rfl))
                    have n7_ := Aside0.mk (below_step q_B130_0 hb)
                    have n8_ := Aside0.mk (hbox)
                    have n9_ := Aside0.mk ((by rw [hg]; exact (keep_size (w := w) (g := g) (row := none) q_K) : w.heap.size ≤ gb233))
                    have n10_ := Aside0.mk ((Nat.le_trans HW0.out (by rw [hg]; exact (keep_size (w := w) (g := g) (row := none) q_K) : w.heap.size ≤ gb233) : w0.heap.size ≤ gb233))
                    have n11_ := Aside0.mk ((q_n hg (q_b BK200.out) : gb200 ≠ gb233))
                    have n12_ := Aside0.mk ((q_m hg (q_b BK200.out) : gb233 ≠ gb200))
                    have n13_ := Aside0.mk ((q_n hg (q_b BK201.out) : gb201 ≠ gb233))
                    have n14_ := Aside0.mk ((q_m hg (q_b BK201.out) : gb233 ≠ gb201))
                    have n15_ := Aside0.mk ((q_n hg (q_b BK215.out) : gb215 ≠ gb233))
                    have n16_ := Aside0.mk ((q_m hg (q_b BK215.out) : gb233 ≠ gb215))
                    have n17_ := Aside0.mk ((q_n hg (q_b BK220.out) : gb220 ≠ gb233))
                    have n18_ := Aside0.mk ((q_m hg (q_b BK220.out) : gb233 ≠ gb220))
                    have n19_ := Aside0.mk ((by rw [hg]; exact Nat.ne_of_lt (IsS130.lt (show IsS130 w0 _ g s0_0 t219 from q_I130_0_1)) : g ≠ gb233))
                    have n20_ := Aside0.mk ((by rw [hg]; exact Nat.ne_of_gt (IsS130.lt (show IsS130 w0 _ g s0_0 t219 from q_I130_0_1)) : gb233 ≠ g))
                    clear HO_202001
                    clear BK200
                    clear BK201
                    clear HI0
                    clear BK215
                    clear BK220
                    clear HK
                    clear HB
                    have HO_202001 := n0_
                    have BK200 := n1_
                    have BK201 := n2_
                    have HI0 := n3_
                    have BK215 := n4_
                    have BK220 := n5_
                    have HK := n6_
                    have HB := n7_
                    have BK233 := n8_
                    have GW233 := n9_
                    have GE233 := n10_
                    have NB200_233 := n11_
                    have NB233_200 := n12_
                    have NB201_233 := n13_
                    have NB233_201 := n14_
                    have NB215_233 := n15_
                    have NB233_215 := n16_
                    have NB220_233 := n17_
                    have NB233_220 := n18_
                    have NB0_233 := n19_
                    have NB233_0 := n20_
                    clear n0_ n1_ n2_ n3_ n4_ n5_ n6_ n7_ n8_ n9_ n10_ n11_ n12_ n13_ n14_ n15_ n16_ n17_ n18_ n19_ n20_
                    clear hb hbox hg
                    refine hK.out _ _ ⟨q_z BK201.out 0, q_z BK201.out 1, q_z BK215.out 0, q_z BK215.out 1, q_z BK215.out 2, q_z BK215.out 3, q_z BK220.out 0, q_z BK220.out 1, q_z BK220.out 2, q_z BK220.out 3⟩ (fun hHeld => ?_)
                    clear hK K
                    refine norm_ (a' := ?_) ?_ ?_
                    rotate_left
                    ·show Act.put _ (some 11) _ = _
                     simp only [Act.put, List.setIfInBounds_toArray, List.set_cons_zero, List.set_cons_succ, i64_w, i32_w]
                     rfl
                    exact norm_ (by first | (simp only [putAll, Act.put, List.setIfInBounds_toArray, List.set_cons_zero, List.set_cons_succ]; done) | (simp only [putAll, Act.put, List.setIfInBounds_toArray, List.set_cons_zero, List.set_cons_succ]; rfl)) (hJ10 (gb233) _ ⟨hHeld, (q_r (HO_202001.out)), kq, kq, kq, kq, kq, GW233.out, GE233.out, NB0_233.out, NB233_0.out, NB200_233.out, NB233_200.out, NB201_233.out, NB233_201.out, NB215_233.out, NB233_215.out, NB220_233.out, NB233_220.out, q_I130_0_1, q_K, q_B130_0⟩)
                  ·skip
                   rintro gb233 w42 ⟨hS_, h0_, h1_, h2_, h3_, h4_, h5_, h6_, h7_, h8_, h9_, h10_, h11_, h12_, h13_, h14_, h15_, h16_, h17_, h18_, h19_, h20_⟩
                   have n0_ : Aside0 (Kd.R k89 89 w42 w.heap.size (fun k_ => k_ ≠ gb215 ∧ k_ ≠ gb220) (.slice Ao38 x202001_1.length co38) x202001_1) := ⟨h0_⟩
                   have n1_ : Aside0 (w42.heap[gb200]? = some (.cells #[.int .i64 0, .slice none 0 0] 36 (0, 0))) := ⟨h1_⟩
                   have n2_ : Aside0 (w42.heap[gb201]? = some (.cells #[.int .i64 x202000_1, .slice Ao38 x202001_1.length co38] 36 (0, 0))) := ⟨h2_⟩
                   have n3_ : Aside0 (w42.heap[gb215]? = some (.cells #[.int .i64 t211, .int .i64 t213, .int .i64 t207, .int .i64 (wrap64 (-(wrap64 (1 + t209))))] 89 (0, 0))) := ⟨h3_⟩
                   have n4_ : Aside0 (w42.heap[gb220]? = some (.cells #[.int .i64 t216, .int .i64 t218, .int .i64 t207, .int .i64 (wrap64 (1 + t209))] 89 (0, 0))) := ⟨h4_⟩
                   have n5_ : Aside0 (w42.heap[gb233]? = some (.cells #[.int .i64 0, .slice none 0 0] 36 (0, 0))) := ⟨h5_⟩
                   have n6_ : Aside0 (w.heap.size ≤ gb233) := ⟨h6_⟩
                   have n7_ : Aside0 (w0.heap.size ≤ gb233) := ⟨h7_⟩
                   have n8_ : Aside0 (g ≠ gb233) := ⟨h8_⟩
                   have n9_ : Aside0 (gb233 ≠ g) := ⟨h9_⟩
                   have n10_ : Aside0 (gb200 ≠ gb233) := ⟨h10_⟩
                   have n11_ : Aside0 (gb233 ≠ gb200) := ⟨h11_⟩
                   have n12_ : Aside0 (gb201 ≠ gb233) := ⟨h12_⟩
                   have n13_ : Aside0 (gb233 ≠ gb201) := ⟨h13_⟩
                   have n14_ : Aside0 (gb215 ≠ gb233) := ⟨h14_⟩
                   have n15_ : Aside0 (gb233 ≠ gb215) := ⟨h15_⟩
                   have n16_ : Aside0 (gb220 ≠ gb233) := ⟨h16_⟩
                   have n17_ : Aside0 (gb233 ≠ gb220) := ⟨h17_⟩
                   have n18_ : Aside0 (IsS130 w0 w42 g s0_0 t219) := ⟨h18_⟩
                   have n19_ : Aside0 (KeepBut w w42 g none) := ⟨h19_⟩
                   have n20_ : Aside0 (Below w0.heap.size w0 w42) := ⟨h20_⟩
                   clear HO_202001
                   clear BK200
                   clear BK201
                   clear BK215
                   clear BK220
                   clear HI0
                   clear HK
                   clear HB
                   clear h0_ h1_ h2_ h3_ h4_ h5_ h6_ h7_ h8_ h9_ h10_ h11_ h12_ h13_ h14_ h15_ h16_ h17_ h18_ h19_ h20_
                   have HO_202001 := n0_
                   have BK200 := n1_
                   have BK201 := n2_
                   have BK215 := n3_
                   have BK220 := n4_
                   have BK233 := n5_
                   have GW233 := n6_
                   have GE233 := n7_
                   have NB0_233 := n8_
                   have NB233_0 := n9_
                   have NB200_233 := n10_
                   have NB233_200 := n11_
                   have NB201_233 := n12_
                   have NB233_201 := n13_
                   have NB215_233 := n14_
                   have NB233_215 := n15_
                   have NB220_233 := n16_
                   have NB233_220 := n17_
                   have HI0 := n18_
                   have HK := n19_
                   have HB := n20_
                   clear n0_ n1_ n2_ n3_ n4_ n5_ n6_ n7_ n8_ n9_ n10_ n11_ n12_ n13_ n14_ n15_ n16_ n17_ n18_ n19_ n20_
                   have hHeld : w42.cell? ⟨gb201, 0, none⟩ = some (.int .i64 x202000_1) ∧ w42.cell? ⟨gb201, 1, none⟩ = some (.slice Ao38 x202001_1.length co38) ∧ w42.cell? ⟨gb215, 0, none⟩ = some (.int .i64 t211) ∧ w42.cell? ⟨gb215, 1, none⟩ = some (.int .i64 t213) ∧ w42.cell? ⟨gb215, 2, none⟩ = some (.int .i64 t207) ∧ w42.cell? ⟨gb215, 3, none⟩ = some (.int .i64 (wrap64 (-(wrap64 (1 + t209))))) ∧ w42.cell? ⟨gb220, 0, none⟩ = some (.int .i64 t216) ∧ w42.cell? ⟨gb220, 1, none⟩ = some (.int .i64 t218) ∧ w42.cell? ⟨gb220, 2, none⟩ = some (.int .i64 t207) ∧ w42.cell? ⟨gb220, 3, none⟩ = some (.int .i64 (wrap64 (1 + t209))) := hS_
                   refine norm_ (a' := ?_) ?_ ?_
                   rotate_left
                   ·simp only [putAll, Act.put, List.setIfInBounds_toArray, List.set_cons_zero, List.set_cons_succ]
                    rfl
                   refine two_ (i := 1) (j := 7) (Ni := some 42) (Nj := some 48) #[true, true, true, true, false, true, true, false, false, false, true, false] #[true, false, true, true, false, true, true, true, false, false, true, false] rfl rfl rfl rfl (two_of HT_.out (by kernel_rfl)) (by decide) (by decide) (fun K hK => ?_) (fun K hK => ?_)
                   ·skip
                    refine Kd.R_lit_step k89 _ 89 ?hg (N := 42) ?hd (xs := ([] : List (S89))) (inner := []) (ok := fun _ => True) (okp := fun _ => True) ?hr ?hp (fun _ hk => hk) trivial (Below.refl _ _) (Nat.le_refl _) (by simp) ?_; (case hd => rfl); (case hg => rfl); (case hr => first | (go_simp; done) | (go_simp; rfl)); (case hp => exact (Reps.none _ _))
                    intro v222 w43 ho44 hb hg_ hnew_
                    clear hg_ hnew_
                    (first | rw [← Ny221.out] at ho44 | (simp only [Int.reduceToNat] at ho44; rw [← Ny221.out] at ho44))
                    have n0_ := Aside0.mk (Kd.R_elder' (q_r (HO_202001.out)) (Kd.R_base ho44) hb)
                    have n1_ := Aside0.mk (Kd.R_lower (Kd.R_newB (Kd.R_newB (Kd.R_new' ho44 (Kd.R_lt (q_r (HO_202001.out)))) (q_b BK215.out)) (q_b BK220.out)) (keep_size (w := w) (g := g) (row := none) q_K))
                    have n2_ := Aside0.mk (blk_below (q_b BK200.out) hb)
                    have n3_ := Aside0.mk (blk_below (q_b BK201.out) hb)
                    have n4_ := Aside0.mk (IsS130.below q_I130_0_1 hb)
                    have n5_ := Aside0.mk (blk_below (q_b BK215.out) hb)
                    have n6_ := Aside0.mk (blk_below (q_b BK220.out) hb)
                    have n7_ := Aside0.mk (blk_below (q_b BK233.out) hb)
                    have n8_ := Aside0.mk (KeepBut.trans q_K (KeepBut.of_below hb g none) (.inl rfl))
                    have n9_ := Aside0.mk (below_step q_B130_0 hb)
                    clear HO_202001
                    clear BK200
                    clear BK201
                    clear HI0
                    clear BK215
                    clear BK220
                    clear BK233
                    clear HK
                    clear HB
                    have HO_202001 := n0_
                    have HO223 := n1_
                    have BK200 := n2_
                    have BK201 := n3_
                    have HI0 := n4_
                    have BK215 := n5_
                    have BK220 := n6_
                    have BK233 := n7_
                    have HK := n8_
                    have HB := n9_
                    clear n0_ n1_ n2_ n3_ n4_ n5_ n6_ n7_ n8_ n9_
                    clear hb ho44
                    refine hK.out _ _ ⟨q_z BK201.out 0, q_z BK201.out 1, q_z BK215.out 0, q_z BK215.out 1, q_z BK215.out 2, q_z BK215.out 3, q_z BK220.out 0, q_z BK220.out 1, q_z BK220.out 2, q_z BK220.out 3⟩ (fun hHeld => ?_)
                    clear hK K
                    refine norm_ (a' := ?_) ?_ ?_
                    rotate_left
                    ·show Act.put _ (some 42) _ = _
                     simp only [Act.put, List.setIfInBounds_toArray, List.set_cons_zero, List.set_cons_succ, i64_w, i32_w]
                     rfl
                    exact norm_ (by first | (simp only [putAll, Act.put, List.setIfInBounds_toArray, List.set_cons_zero, List.set_cons_succ]; done) | (simp only [putAll, Act.put, List.setIfInBounds_toArray, List.set_cons_zero, List.set_cons_succ]; rfl)) (hJ1_10 (v222, gb233) _ ⟨hHeld, (by (with_reducible repeat (first | apply Kd.R_alloc | apply Kd.R_drewN | apply Kd.R_drew)); exact Kd.R_mono HO223.out (fun _ hk => ⟨hk.1.1.2, ⟨hk.1.2, hk.2⟩⟩)), (by (with_reducible repeat (first | apply Kd.R_alloc | apply Kd.R_drewN | apply Kd.R_drew)); exact Kd.R_mono HO_202001.out (fun _ hk => ⟨hk.2, ⟨hk.1.1, hk.1.2⟩⟩)), kq, kq, kq, kq, kq, GW233.out, GE233.out, NB0_233.out, NB233_0.out, NB200_233.out, NB233_200.out, NB201_233.out, NB233_201.out, NB215_233.out, NB233_215.out, NB220_233.out, NB233_220.out, q_I130_0_1, q_K, q_B130_0⟩)
                   ·skip
                    refine Kd.R_lit_step k89 _ 89 ?hg (N := 48) ?hd (xs := ([(⟨t211, t213, t207, wrap64 (-(wrap64 (1 + t209)))⟩ : S89), (⟨t216, t218, t207, wrap64 (1 + t209)⟩ : S89)] : List (S89))) (inner := [.int .i64 t211, .int .i64 t213, .int .i64 t207, .int .i64 (wrap64 (-(wrap64 (1 + t209)))), .int .i64 t216, .int .i64 t218, .int .i64 t207, .int .i64 (wrap64 (1 + t209))]) (ok := fun _ => True) (okp := fun _ => True) ?hr ?hp (fun _ hk => hk) trivial (Below.refl _ _) (Nat.le_refl _) (by simp) ?_; (case hd => rfl); (case hg => rfl); (case hr => first | (go_simp; done) | (go_simp; rfl)); (case hp => exact (Reps.c4 (show Kd.M k89 _ _ _ (⟨t211, t213, t207, wrap64 (-(wrap64 (1 + t209)))⟩ : S89) [.int .i64 t211, .int .i64 t213, .int .i64 t207, .int .i64 (wrap64 (-(wrap64 (1 + t209))))] from (k89_mkM _ _ _ (⟨t211, t213, t207, wrap64 (-(wrap64 (1 + t209)))⟩ : S89) )) (Reps.c4 (show Kd.M k89 _ _ _ (⟨t216, t218, t207, wrap64 (1 + t209)⟩ : S89) [.int .i64 t216, .int .i64 t218, .int .i64 t207, .int .i64 (wrap64 (1 + t209))] from (k89_mkM _ _ _ (⟨t216, t218, t207, wrap64 (1 + t209)⟩ : S89) )) (Reps.none _ _))))
                    intro v228 w43 ho44 hb hg_ hnew_
                    clear hg_ hnew_
                    (first | rw [← Ny227.out] at ho44 | (simp only [Int.reduceToNat] at ho44; rw [← Ny227.out] at ho44))
                    have n0_ := Aside0.mk (Kd.R_elder' (q_r (HO_202001.out)) (Kd.R_base ho44) hb)
                    have n1_ := Aside0.mk (Kd.R_lower (Kd.R_newB (Kd.R_newB (Kd.R_new' ho44 (Kd.R_lt (q_r (HO_202001.out)))) (q_b BK215.out)) (q_b BK220.out)) (keep_size (w := w) (g := g) (row := none) q_K))
                    have n2_ := Aside0.mk (blk_below (q_b BK200.out) hb)
                    have n3_ := Aside0.mk (blk_below (q_b BK201.out) hb)
                    have n4_ := Aside0.mk (IsS130.below q_I130_0_1 hb)
                    have n5_ := Aside0.mk (blk_below (q_b BK215.out) hb)
                    have n6_ := Aside0.mk (blk_below (q_b BK220.out) hb)
                    have n7_ := Aside0.mk (blk_below (q_b BK233.out) hb)
                    have n8_ := Aside0.mk (KeepBut.trans q_K (KeepBut.of_below hb g none) (.inl rfl))
                    have n9_ := Aside0.mk (below_step q_B130_0 hb)
                    clear HO_202001
                    clear BK200
                    clear BK201
                    clear HI0
                    clear BK215
                    clear BK220
                    clear BK233
                    clear HK
                    clear HB
                    have HO_202001 := n0_
                    have HO229 := n1_
                    have BK200 := n2_
                    have BK201 := n3_
                    have HI0 := n4_
                    have BK215 := n5_
                    have BK220 := n6_
                    have BK233 := n7_
                    have HK := n8_
                    have HB := n9_
                    clear n0_ n1_ n2_ n3_ n4_ n5_ n6_ n7_ n8_ n9_
                    clear hb ho44
                    refine hK.out _ _ ⟨q_z BK201.out 0, q_z BK201.out 1, q_z BK215.out 0, q_z BK215.out 1, q_z BK215.out 2, q_z BK215.out 3, q_z BK220.out 0, q_z BK220.out 1, q_z BK220.out 2, q_z BK220.out 3⟩ (fun hHeld => ?_)
                    clear hK K
                    refine norm_ (a' := ?_) ?_ ?_
                    rotate_left
                    ·show Act.put _ (some 48) _ = _
                     simp only [Act.put, List.setIfInBounds_toArray, List.set_cons_zero, List.set_cons_succ, i64_w, i32_w]
                     rfl
                    exact norm_ (by first | (simp only [putAll, Act.put, List.setIfInBounds_toArray, List.set_cons_zero, List.set_cons_succ]; done) | (simp only [putAll, Act.put, List.setIfInBounds_toArray, List.set_cons_zero, List.set_cons_succ]; rfl)) (hJ7_10 (v228, gb233) _ ⟨hHeld, (by (with_reducible repeat (first | apply Kd.R_alloc | apply Kd.R_drewN | apply Kd.R_drew)); exact Kd.R_mono HO229.out (fun _ hk => ⟨hk.1.1.2, ⟨hk.1.2, hk.2⟩⟩)), (by (with_reducible repeat (first | apply Kd.R_alloc | apply Kd.R_drewN | apply Kd.R_drew)); exact Kd.R_mono HO_202001.out (fun _ hk => ⟨hk.2, ⟨hk.1.1, hk.1.2⟩⟩)), kq, kq, kq, kq, kq, GW233.out, GE233.out, NB0_233.out, NB233_0.out, NB200_233.out, NB233_200.out, NB201_233.out, NB233_201.out, NB215_233.out, NB233_215.out, NB220_233.out, NB233_220.out, q_I130_0_1, q_K, q_B130_0⟩)
                 ·skip
                  rintro v228 w43 ⟨hS_, h0_, h1_, h2_, h3_, h4_, h5_, h6_, h7_, h8_⟩
                  have n0_ : Aside0 (Kd.R k89 89 w43 w.heap.size (fun k_ => some k_ ≠ (.slice Ao38 x202001_1.length co38 : Value).ownBlock ∧ k_ ≠ gb215 ∧ k_ ≠ gb220) v228 y227) := ⟨h0_⟩
                  have n1_ : Aside0 (Kd.R k89 89 w43 w.heap.size (fun k_ => some k_ ≠ (v228 : Value).ownBlock ∧ k_ ≠ gb215 ∧ k_ ≠ gb220) (.slice Ao38 x202001_1.length co38) x202001_1) := ⟨h1_⟩
                  have n2_ : Aside0 (w43.heap[gb200]? = some (.cells #[.int .i64 0, .slice none 0 0] 36 (0, 0))) := ⟨h2_⟩
                  have n3_ : Aside0 (w43.heap[gb201]? = some (.cells #[.int .i64 x202000_1, .slice Ao38 x202001_1.length co38] 36 (0, 0))) := ⟨h3_⟩
                  have n4_ : Aside0 (w43.heap[gb215]? = some (.cells #[.int .i64 t211, .int .i64 t213, .int .i64 t207, .int .i64 (wrap64 (-(wrap64 (1 + t209))))] 89 (0, 0))) := ⟨h4_⟩
                  have n5_ : Aside0 (w43.heap[gb220]? = some (.cells #[.int .i64 t216, .int .i64 t218, .int .i64 t207, .int .i64 (wrap64 (1 + t209))] 89 (0, 0))) := ⟨h5_⟩
                  have n6_ : Aside0 (IsS130 w0 w43 g s0_0 t219) := ⟨h6_⟩
                  have n7_ : Aside0 (KeepBut w w43 g none) := ⟨h7_⟩
                  have n8_ : Aside0 (Below w0.heap.size w0 w43) := ⟨h8_⟩
                  clear HO_202001
                  clear BK200
                  clear BK201
                  clear BK215
                  clear BK220
                  clear HI0
                  clear HK
                  clear HB
                  clear h0_ h1_ h2_ h3_ h4_ h5_ h6_ h7_ h8_
                  have HO229 := n0_
                  have HO_202001 := n1_
                  have BK200 := n2_
                  have BK201 := n3_
                  have BK215 := n4_
                  have BK220 := n5_
                  have HI0 := n6_
                  have HK := n7_
                  have HB := n8_
                  clear n0_ n1_ n2_ n3_ n4_ n5_ n6_ n7_ n8_
                  have hHeld : w43.cell? ⟨gb201, 0, none⟩ = some (.int .i64 x202000_1) ∧ w43.cell? ⟨gb201, 1, none⟩ = some (.slice Ao38 x202001_1.length co38) ∧ w43.cell? ⟨gb215, 0, none⟩ = some (.int .i64 t211) ∧ w43.cell? ⟨gb215, 1, none⟩ = some (.int .i64 t213) ∧ w43.cell? ⟨gb215, 2, none⟩ = some (.int .i64 t207) ∧ w43.cell? ⟨gb215, 3, none⟩ = some (.int .i64 (wrap64 (-(wrap64 (1 + t209))))) ∧ w43.cell? ⟨gb220, 0, none⟩ = some (.int .i64 t216) ∧ w43.cell? ⟨gb220, 1, none⟩ = some (.int .i64 t218) ∧ w43.cell? ⟨gb220, 2, none⟩ = some (.int .i64 t207) ∧ w43.cell? ⟨gb220, 3, none⟩ = some (.int .i64 (wrap64 (1 + t209))) := hS_
                  refine norm_ (a' := ?_) ?_ ?_
                  rotate_left
                  ·simp only [putAll, Act.put, List.setIfInBounds_toArray, List.set_cons_zero, List.set_cons_succ]
                   rfl
                  refine two_ (i := 1) (j := 10) (Ni := some 42) (Nj := some 11) #[true, true, true, true, false, true, true, true, false, false, false, false] #[true, false, true, true, false, true, true, true, false, false, true, false] rfl rfl rfl rfl (two_of HT_.out (by kernel_rfl)) (by decide) (by decide) (fun K hK => ?_) (fun K hK => ?_)
                  ·skip
                   refine Kd.R_lit_step k89 _ 89 ?hg (N := 42) ?hd (xs := ([] : List (S89))) (inner := []) (ok := fun _ => True) (okp := fun _ => True) ?hr ?hp (fun _ hk => hk) trivial (Below.refl _ _) (Nat.le_refl _) (by simp) ?_; (case hd => rfl); (case hg => rfl); (case hr => first | (go_simp; done) | (go_simp; rfl)); (case hp => exact (Reps.none _ _))
                   intro v222 w44 ho45 hb hg_ hnew_
                   clear hg_ hnew_
                   (first | rw [← Ny221.out] at ho45 | (simp only [Int.reduceToNat] at ho45; rw [← Ny221.out] at ho45))
                   have n0_ := Aside0.mk (Kd.R_elder' (q_r (HO_202001.out)) (Kd.R_base ho45) hb)
                   have n1_ := Aside0.mk (Kd.R_elder' (q_r (HO229.out)) (Kd.R_base ho45) hb)
                   have n2_ := Aside0.mk (Kd.R_lower (Kd.R_newB (Kd.R_newB (Kd.R_new' (Kd.R_new' ho45 (Kd.R_lt (q_r (HO_202001.out)))) (Kd.R_lt (q_r (HO229.out)))) (q_b BK215.out)) (q_b BK220.out)) (keep_size (w := w) (g := g) (row := none) q_K))
                   have n3_ := Aside0.mk (blk_below (q_b BK200.out) hb)
                   have n4_ := Aside0.mk (blk_below (q_b BK201.out) hb)
                   have n5_ := Aside0.mk (IsS130.below q_I130_0_1 hb)
                   have n6_ := Aside0.mk (blk_below (q_b BK215.out) hb)
                   have n7_ := Aside0.mk (blk_below (q_b BK220.out) hb)
                   have n8_ := Aside0.mk (KeepBut.trans q_K (KeepBut.of_below hb g none) (.inl rfl))
                   have n9_ := Aside0.mk (below_step q_B130_0 hb)
                   clear HO_202001
                   clear HO229
                   clear BK200
                   clear BK201
                   clear HI0
                   clear BK215
                   clear BK220
                   clear HK
                   clear HB
                   have HO_202001 := n0_
                   have HO229 := n1_
                   have HO223 := n2_
                   have BK200 := n3_
                   have BK201 := n4_
                   have HI0 := n5_
                   have BK215 := n6_
                   have BK220 := n7_
                   have HK := n8_
                   have HB := n9_
                   clear n0_ n1_ n2_ n3_ n4_ n5_ n6_ n7_ n8_ n9_
                   clear hb ho45
                   refine hK.out _ _ ⟨q_z BK201.out 0, q_z BK201.out 1, q_z BK215.out 0, q_z BK215.out 1, q_z BK215.out 2, q_z BK215.out 3, q_z BK220.out 0, q_z BK220.out 1, q_z BK220.out 2, q_z BK220.out 3⟩ (fun hHeld => ?_)
                   clear hK K
                   refine norm_ (a' := ?_) ?_ ?_
                   rotate_left
                   ·show Act.put _ (some 42) _ = _
                    simp only [Act.put, List.setIfInBounds_toArray, List.set_cons_zero, List.set_cons_succ, i64_w, i32_w]
                    rfl
                   exact norm_ (by first | (simp only [putAll, Act.put, List.setIfInBounds_toArray, List.set_cons_zero, List.set_cons_succ]; done) | (simp only [putAll, Act.put, List.setIfInBounds_toArray, List.set_cons_zero, List.set_cons_succ]; rfl)) (hJ1_7 (v222, v228) _ ⟨hHeld, (by (with_reducible repeat (first | apply Kd.R_alloc | apply Kd.R_drewN | apply Kd.R_drew)); exact Kd.R_mono HO223.out (fun _ hk => ⟨hk.1.1.2, ⟨hk.1.1.1.2, ⟨hk.1.2, hk.2⟩⟩⟩)), (by (with_reducible repeat (first | apply Kd.R_alloc | apply Kd.R_drewN | apply Kd.R_drew)); exact Kd.R_mono HO229.out (fun _ hk => ⟨hk.2, ⟨hk.1.1, ⟨hk.1.2.1, hk.1.2.2⟩⟩⟩)), (by (with_reducible repeat (first | apply Kd.R_alloc | apply Kd.R_drewN | apply Kd.R_drew)); exact Kd.R_mono HO_202001.out (fun _ hk => ⟨hk.2, ⟨hk.1.1, ⟨hk.1.2.1, hk.1.2.2⟩⟩⟩)), kq, kq, kq, kq, q_I130_0_1, q_K, q_B130_0⟩)
                  ·skip
                   refine box_step ?hg (N := 11) ?hd (cs := #[.int .i64 0, .slice none 0 0]) (t := 36) ?hr ?_; (case hd => rfl); (case hg => rfl); (case hr => first | (go_simp; done) | (go_simp; rfl))
                   intro gb233 hg w44 hbox hb
                   have n0_ := Aside0.mk (Kd.R_below (q_r (HO_202001.out)) hb)
                   have n1_ := Aside0.mk (Kd.R_below (q_r (HO229.out)) hb)
                   have n2_ := Aside0.mk (blk_below (q_b BK200.out) hb)
                   have n3_ := Aside0.mk (blk_below (q_b BK201.out) hb)
                   have n4_ := Aside0.mk (IsS130.below q_I130_0_1 hb)
                   have n5_ := Aside0.mk (blk_below (q_b BK215.out) hb)
                   have n6_ := Aside0.mk (blk_below (q_b BK220.out) hb)
                   have n7_ := Aside0.mk (KeepBut.trans q_K (KeepBut.of_below hb g none) (.inl rfl))
                   have n8_ := Aside0.mk (below_step q_B130_0 hb)
                   have n9_ := Aside0.mk (hbox)
                   have n10_ := Aside0.mk ((by rw [hg]; exact (keep_size (w := w) (g := g) (row := none) q_K) : w.heap.size ≤ gb233))
                   have n11_ := Aside0.mk ((Nat.le_trans HW0.out (by rw [hg]; exact (keep_size (w := w) (g := g) (row := none) q_K) : w.heap.size ≤ gb233) : w0.heap.size ≤ gb233))
                   have n12_ := Aside0.mk ((q_n hg (q_b BK200.out) : gb200 ≠ gb233))
                   have n13_ := Aside0.mk ((q_m hg (q_b BK200.out) : gb233 ≠ gb200))
                   have n14_ := Aside0.mk ((q_n hg (q_b BK201.out) : gb201 ≠ gb233))
                   have n15_ := Aside0.mk ((q_m hg (q_b BK201.out) : gb233 ≠ gb201))
                   have n16_ := Aside0.mk ((q_n hg (q_b BK215.out) : gb215 ≠ gb233))
                   have n17_ := Aside0.mk ((q_m hg (q_b BK215.out) : gb233 ≠ gb215))
                   have n18_ := Aside0.mk ((q_n hg (q_b BK220.out) : gb220 ≠ gb233))
                   have n19_ := Aside0.mk ((q_m hg (q_b BK220.out) : gb233 ≠ gb220))
                   have n20_ := Aside0.mk ((by rw [hg]; exact Nat.ne_of_lt (IsS130.lt (show IsS130 w0 _ g s0_0 t219 from q_I130_0_1)) : g ≠ gb233))
                   have n21_ := Aside0.mk ((by rw [hg]; exact Nat.ne_of_gt (IsS130.lt (show IsS130 w0 _ g s0_0 t219 from q_I130_0_1)) : gb233 ≠ g))
                   clear HO_202001
                   clear HO229
                   clear BK200
                   clear BK201
                   clear HI0
                   clear BK215
                   clear BK220
                   clear HK
                   clear HB
                   have HO_202001 := n0_
                   have HO229 := n1_
                   have BK200 := n2_
                   have BK201 := n3_
                   have HI0 := n4_
                   have BK215 := n5_
                   have BK220 := n6_
                   have HK := n7_
                   have HB := n8_
                   have BK233 := n9_
                   have GW233 := n10_
                   have GE233 := n11_
                   have NB200_233 := n12_
                   have NB233_200 := n13_
                   have NB201_233 := n14_
                   have NB233_201 := n15_
                   have NB215_233 := n16_
                   have NB233_215 := n17_
                   have NB220_233 := n18_
                   have NB233_220 := n19_
                   have NB0_233 := n20_
                   have NB233_0 := n21_
                   clear n0_ n1_ n2_ n3_ n4_ n5_ n6_ n7_ n8_ n9_ n10_ n11_ n12_ n13_ n14_ n15_ n16_ n17_ n18_ n19_ n20_ n21_
                   clear hb hbox hg
                   refine hK.out _ _ ⟨q_z BK201.out 0, q_z BK201.out 1, q_z BK215.out 0, q_z BK215.out 1, q_z BK215.out 2, q_z BK215.out 3, q_z BK220.out 0, q_z BK220.out 1, q_z BK220.out 2, q_z BK220.out 3⟩ (fun hHeld => ?_)
                   clear hK K
                   refine norm_ (a' := ?_) ?_ ?_
                   rotate_left
                   ·show Act.put _ (some 11) _ = _
                    simp only [Act.put, List.setIfInBounds_toArray, List.set_cons_zero, List.set_cons_succ, i64_w, i32_w]
                    rfl
                   exact norm_ (by first | (simp only [putAll, Act.put, List.setIfInBounds_toArray, List.set_cons_zero, List.set_cons_succ]; done) | (simp only [putAll, Act.put, List.setIfInBounds_toArray, List.set_cons_zero, List.set_cons_succ]; rfl)) (hJ7_10 (v228, gb233) _ ⟨hHeld, (q_r (HO229.out)), (q_r (HO_202001.out)), kq, kq, kq, kq, kq, GW233.out, GE233.out, NB0_233.out, NB233_0.out, NB200_233.out, NB233_200.out, NB201_233.out, NB233_201.out, NB215_233.out, NB233_215.out, NB220_233.out, NB233_220.out, q_I130_0_1, q_K, q_B130_0⟩)
                ·skip
                 rintro v222 w43 ⟨hS_, h0_, h1_, h2_, h3_, h4_, h5_, h6_, h7_, h8_⟩
                 have n0_ : Aside0 (Kd.R k89 89 w43 w.heap.size (fun k_ => some k_ ≠ (.slice Ao38 x202001_1.length co38 : Value).ownBlock ∧ k_ ≠ gb215 ∧ k_ ≠ gb220) v222 y221) := ⟨h0_⟩
                 have n1_ : Aside0 (Kd.R k89 89 w43 w.heap.size (fun k_ => some k_ ≠ (v222 : Value).ownBlock ∧ k_ ≠ gb215 ∧ k_ ≠ gb220) (.slice Ao38 x202001_1.length co38) x202001_1) := ⟨h1_⟩
                 have n2_ : Aside0 (w43.heap[gb200]? = some (.cells #[.int .i64 0, .slice none 0 0] 36 (0, 0))) := ⟨h2_⟩
                 have n3_ : Aside0 (w43.heap[gb201]? = some (.cells #[.int .i64 x202000_1, .slice Ao38 x202001_1.length co38] 36 (0, 0))) := ⟨h3_⟩
                 have n4_ : Aside0 (w43.heap[gb215]? = some (.cells #[.int .i64 t211, .int .i64 t213, .int .i64 t207, .int .i64 (wrap64 (-(wrap64 (1 + t209))))] 89 (0, 0))) := ⟨h4_⟩
                 have n5_ : Aside0 (w43.heap[gb220]? = some (.cells #[.int .i64 t216, .int .i64 t218, .int .i64 t207, .int .i64 (wrap64 (1 + t209))] 89 (0, 0))) := ⟨h5_⟩
                 have n6_ : Aside0 (IsS130 w0 w43 g s0_0 t219) := ⟨h6_⟩
                 have n7_ : Aside0 (KeepBut w w43 g none) := ⟨h7_⟩
                 have n8_ : Aside0 (Below w0.heap.size w0 w43) := ⟨h8_⟩
                 clear HO_202001
                 clear BK200
                 clear BK201
                 clear BK215
                 clear BK220
                 clear HI0
                 clear HK
                 clear HB
                 clear h0_ h1_ h2_ h3_ h4_ h5_ h6_ h7_ h8_
                 have HO223 := n0_
                 have HO_202001 := n1_
                 have BK200 := n2_
                 have BK201 := n3_
                 have BK215 := n4_
                 have BK220 := n5_
                 have HI0 := n6_
                 have HK := n7_
                 have HB := n8_
                 clear n0_ n1_ n2_ n3_ n4_ n5_ n6_ n7_ n8_
                 have hHeld : w43.cell? ⟨gb201, 0, none⟩ = some (.int .i64 x202000_1) ∧ w43.cell? ⟨gb201, 1, none⟩ = some (.slice Ao38 x202001_1.length co38) ∧ w43.cell? ⟨gb215, 0, none⟩ = some (.int .i64 t211) ∧ w43.cell? ⟨gb215, 1, none⟩ = some (.int .i64 t213) ∧ w43.cell? ⟨gb215, 2, none⟩ = some (.int .i64 t207) ∧ w43.cell? ⟨gb215, 3, none⟩ = some (.int .i64 (wrap64 (-(wrap64 (1 + t209))))) ∧ w43.cell? ⟨gb220, 0, none⟩ = some (.int .i64 t216) ∧ w43.cell? ⟨gb220, 1, none⟩ = some (.int .i64 t218) ∧ w43.cell? ⟨gb220, 2, none⟩ = some (.int .i64 t207) ∧ w43.cell? ⟨gb220, 3, none⟩ = some (.int .i64 (wrap64 (1 + t209))) := hS_
                 refine norm_ (a' := ?_) ?_ ?_
                 rotate_left
                 ·simp only [putAll, Act.put, List.setIfInBounds_toArray, List.set_cons_zero, List.set_cons_succ]
                  rfl
                 refine three_ (i := 4) (j := 7) (k := 10) (Ni := some 45) (Nj := some 48) (Nk := some 11) #[true, true, true, true, true, true, true, false, false, false, false, false] #[true, true, true, true, false, true, true, true, false, false, false, false] #[true, true, true, true, false, true, true, false, false, false, true, false] rfl rfl rfl rfl rfl rfl (three_of HT_.out (by kernel_rfl)) (by decide) (by decide) (by decide) (fun K hK => ?_) (fun K hK => ?_) (fun K hK => ?_)
                 ·skip
                  refine Kd.R_append_rows_step k89 w.heap.size (by rfl) (.tmp 42) (.tmp 44) 34 89 (.agg #[(.int .i64 0), (.int .i64 0), (.int .i64 0), (.int .i64 0)]) 32 rfl Try.underlying34 info89 rfl (by decide) (by omega) v222 y221 x202001_1 _ _ _ (fun k_ => some k_ ≠ (.slice Ao38 x202001_1.length co38 : Value).ownBlock ∧ k_ ≠ gb215 ∧ k_ ≠ gb220) (fun _ => False) rfl rfl ?aO ?aR (fun _ _ h => h) (fun _ h => h.elim) ?aF (Below.refl _ _) ?aS ?aL ?_
                  (case aR => repeat (first | exact (Kd.R_reads' HO_202001.out).2.2 | (with_reducible refine Kd.C_alloc ?_ _) | (with_reducible refine Kd.C_drewN ?_ _) | (with_reducible refine Kd.C_drew ?_)))
                  (case aF => exact (fun k_ hk => ⟨Kd.fresh' (Kd.R_lt (q_r (HO_202001.out))) k_ hk, Kd.freshB (q_b BK215.out) k_ hk, Kd.freshB (q_b BK220.out) k_ hk⟩))
                  (case aO => exact (q_r (HO223.out)))
                  (case aS => exact (keep_size (w := w) (g := g) (row := none) q_K))
                  (case aL => have := LMc17.out; omega)
                  intro v225 w44 ho hb hg hat
                  rw [← Ny224.out] at ho
                  have n0_ := Aside0.mk (Kd.R_after (ok := (fun k_ => k_ ≠ gb215 ∧ k_ ≠ gb220)) (by (with_reducible repeat (first | apply Kd.R_alloc | apply Kd.R_drewN | apply Kd.R_drew)); exact Kd.R_mono HO_202001.out (fun _ hk => ⟨⟨hk.2.1, hk.2.2⟩, hk.1⟩)) hg hat)
                  have n1_ := Aside0.mk (blk_grown (q_b BK200.out) hg (Kd.R_ne HO223.out BK200.out (by decide)))
                  have n2_ := Aside0.mk (blk_grown (q_b BK201.out) hg (Kd.R_ne HO223.out BK201.out (by decide)))
                  have n3_ := Aside0.mk (IsS130.grown q_I130_0_1 hg (IsS130.own_ne HI0.out HO223.out (by decide)))
                  have n4_ := Aside0.mk (blk_grown (q_b BK215.out) hg (Kd.R_away HO223.out (fun _ hk => hk.2.1)))
                  have n5_ := Aside0.mk (blk_grown (q_b BK220.out) hg (Kd.R_away HO223.out (fun _ hk => hk.2.2)))
                  have n6_ := Aside0.mk (below_weaken q_B130_0 HL.out hb)
                  have n7_ := Aside0.mk (KeepBut.trans q_K (KeepBut.of_grown hg g) (Kd.R_base2 HO223.out))
                  have n8_ := Aside0.mk (ho)
                  clear HO_202001
                  clear BK200
                  clear BK201
                  clear HI0
                  clear BK215
                  clear BK220
                  clear HB
                  clear HK
                  clear HO223
                  have HO_202001 := n0_
                  have BK200 := n1_
                  have BK201 := n2_
                  have HI0 := n3_
                  have BK215 := n4_
                  have BK220 := n5_
                  have HB := n6_
                  have HK := n7_
                  have HO226 := n8_
                  clear n0_ n1_ n2_ n3_ n4_ n5_ n6_ n7_ n8_
                  clear ho hb hg hat
                  refine hK.out _ _ ⟨q_z BK201.out 0, q_z BK201.out 1, q_z BK215.out 0, q_z BK215.out 1, q_z BK215.out 2, q_z BK215.out 3, q_z BK220.out 0, q_z BK220.out 1, q_z BK220.out 2, q_z BK220.out 3⟩ (fun hHeld => ?_)
                  clear hK K
                  refine norm_ (a' := ?_) ?_ ?_
                  rotate_left
                  ·show Act.put _ (some 45) _ = _
                   simp only [Act.put, List.setIfInBounds_toArray, List.set_cons_zero, List.set_cons_succ, i64_w, i32_w]
                   rfl
                  exact norm_ (by first | (simp only [putAll, Act.put, List.setIfInBounds_toArray, List.set_cons_zero, List.set_cons_succ]; done) | (simp only [putAll, Act.put, List.setIfInBounds_toArray, List.set_cons_zero, List.set_cons_succ]; rfl)) (hJ1_4 (v222, v225) _ ⟨hHeld, (q_r (HO226.out)), (by (with_reducible repeat (first | apply Kd.R_alloc | apply Kd.R_drewN | apply Kd.R_drew)); exact Kd.R_mono HO_202001.out (fun _ hk => ⟨hk.2, ⟨hk.1.1, hk.1.2⟩⟩)), kq, kq, kq, kq, q_I130_0_1, q_K, q_B130_0⟩)
                 ·skip
                  refine Kd.R_lit_step k89 _ 89 ?hg (N := 48) ?hd (xs := ([(⟨t211, t213, t207, wrap64 (-(wrap64 (1 + t209)))⟩ : S89), (⟨t216, t218, t207, wrap64 (1 + t209)⟩ : S89)] : List (S89))) (inner := [.int .i64 t211, .int .i64 t213, .int .i64 t207, .int .i64 (wrap64 (-(wrap64 (1 + t209)))), .int .i64 t216, .int .i64 t218, .int .i64 t207, .int .i64 (wrap64 (1 + t209))]) (ok := fun _ => True) (okp := fun _ => True) ?hr ?hp (fun _ hk => hk) trivial (Below.refl _ _) (Nat.le_refl _) (by simp) ?_; (case hd => rfl); (case hg => rfl); (case hr => first | (go_simp; done) | (go_simp; rfl)); (case hp => exact (Reps.c4 (show Kd.M k89 _ _ _ (⟨t211, t213, t207, wrap64 (-(wrap64 (1 + t209)))⟩ : S89) [.int .i64 t211, .int .i64 t213, .int .i64 t207, .int .i64 (wrap64 (-(wrap64 (1 + t209))))] from (k89_mkM _ _ _ (⟨t211, t213, t207, wrap64 (-(wrap64 (1 + t209)))⟩ : S89) )) (Reps.c4 (show Kd.M k89 _ _ _ (⟨t216, t218, t207, wrap64 (1 + t209)⟩ : S89) [.int .i64 t216, .int .i64 t218, .int .i64 t207, .int .i64 (wrap64 (1 + t209))] from (k89_mkM _ _ _ (⟨t216, t218, t207, wrap64 (1 + t209)⟩ : S89) )) (Reps.none _ _))))
                  intro v228 w44 ho45 hb hg_ hnew_
                  clear hg_ hnew_
                  (first | rw [← Ny227.out] at ho45 | (simp only [Int.reduceToNat] at ho45; rw [← Ny227.out] at ho45))
                  have n0_ := Aside0.mk (Kd.R_elder' (q_r (HO_202001.out)) (Kd.R_base ho45) hb)
                  have n1_ := Aside0.mk (Kd.R_elder' (q_r (HO223.out)) (Kd.R_base ho45) hb)
                  have n2_ := Aside0.mk (Kd.R_lower (Kd.R_newB (Kd.R_newB (Kd.R_new' (Kd.R_new' ho45 (Kd.R_lt (q_r (HO_202001.out)))) (Kd.R_lt (q_r (HO223.out)))) (q_b BK215.out)) (q_b BK220.out)) (keep_size (w := w) (g := g) (row := none) q_K))
                  have n3_ := Aside0.mk (blk_below (q_b BK200.out) hb)
                  have n4_ := Aside0.mk (blk_below (q_b BK201.out) hb)
                  have n5_ := Aside0.mk (IsS130.below q_I130_0_1 hb)
                  have n6_ := Aside0.mk (blk_below (q_b BK215.out) hb)
                  have n7_ := Aside0.mk (blk_below (q_b BK220.out) hb)
                  have n8_ := Aside0.mk (KeepBut.trans q_K (KeepBut.of_below hb g none) (.inl rfl))
                  have n9_ := Aside0.mk (below_step q_B130_0 hb)
                  clear HO_202001
                  clear HO223
                  clear BK200
                  clear BK201
                  clear HI0
                  clear BK215
                  clear BK220
                  clear HK
                  clear HB
                  have HO_202001 := n0_
                  have HO223 := n1_
                  have HO229 := n2_
                  have BK200 := n3_
                  have BK201 := n4_
                  have HI0 := n5_
                  have BK215 := n6_
                  have BK220 := n7_
                  have HK := n8_
                  have HB := n9_
                  clear n0_ n1_ n2_ n3_ n4_ n5_ n6_ n7_ n8_ n9_
                  clear hb ho45
                  refine hK.out _ _ ⟨q_z BK201.out 0, q_z BK201.out 1, q_z BK215.out 0, q_z BK215.out 1, q_z BK215.out 2, q_z BK215.out 3, q_z BK220.out 0, q_z BK220.out 1, q_z BK220.out 2, q_z BK220.out 3⟩ (fun hHeld => ?_)
                  clear hK K
                  refine norm_ (a' := ?_) ?_ ?_
                  rotate_left
                  ·show Act.put _ (some 48) _ = _
                   simp only [Act.put, List.setIfInBounds_toArray, List.set_cons_zero, List.set_cons_succ, i64_w, i32_w]
                   rfl
                  exact norm_ (by first | (simp only [putAll, Act.put, List.setIfInBounds_toArray, List.set_cons_zero, List.set_cons_succ]; done) | (simp only [putAll, Act.put, List.setIfInBounds_toArray, List.set_cons_zero, List.set_cons_succ]; rfl)) (hJ1_7 (v222, v228) _ ⟨hHeld, (by (with_reducible repeat (first | apply Kd.R_alloc | apply Kd.R_drewN | apply Kd.R_drew)); exact Kd.R_mono HO223.out (fun _ hk => ⟨hk.2, ⟨hk.1.1, ⟨hk.1.2.1, hk.1.2.2⟩⟩⟩)), (by (with_reducible repeat (first | apply Kd.R_alloc | apply Kd.R_drewN | apply Kd.R_drew)); exact Kd.R_mono HO229.out (fun _ hk => ⟨hk.1.1.2, ⟨hk.1.1.1.2, ⟨hk.1.2, hk.2⟩⟩⟩)), (by (with_reducible repeat (first | apply Kd.R_alloc | apply Kd.R_drewN | apply Kd.R_drew)); exact Kd.R_mono HO_202001.out (fun _ hk => ⟨hk.1.1, ⟨hk.2, ⟨hk.1.2.1, hk.1.2.2⟩⟩⟩)), kq, kq, kq, kq, q_I130_0_1, q_K, q_B130_0⟩)
                 ·skip
                  refine box_step ?hg (N := 11) ?hd (cs := #[.int .i64 0, .slice none 0 0]) (t := 36) ?hr ?_; (case hd => rfl); (case hg => rfl); (case hr => first | (go_simp; done) | (go_simp; rfl))
                  intro gb233 hg w44 hbox hb
                  have n0_ := Aside0.mk (Kd.R_below (q_r (HO_202001.out)) hb)
                  have n1_ := Aside0.mk (Kd.R_below (q_r (HO223.out)) hb)
                  have n2_ := Aside0.mk (blk_below (q_b BK200.out) hb)
                  have n3_ := Aside0.mk (blk_below (q_b BK201.out) hb)
                  have n4_ := Aside0.mk (IsS130.below q_I130_0_1 hb)
                  have n5_ := Aside0.mk (blk_below (q_b BK215.out) hb)
                  have n6_ := Aside0.mk (blk_below (q_b BK220.out) hb)
                  have n7_ := Aside0.mk (KeepBut.trans q_K (KeepBut.of_below hb g none) (.inl rfl))
                  have n8_ := Aside0.mk (below_step q_B130_0 hb)
                  have n9_ := Aside0.mk (hbox)
                  have n10_ := Aside0.mk ((by rw [hg]; exact (keep_size (w := w) (g := g) (row := none) q_K) : w.heap.size ≤ gb233))
                  have n11_ := Aside0.mk ((Nat.le_trans HW0.out (by rw [hg]; exact (keep_size (w := w) (g := g) (row := none) q_K) : w.heap.size ≤ gb233) : w0.heap.size ≤ gb233))
                  have n12_ := Aside0.mk ((q_n hg (q_b BK200.out) : gb200 ≠ gb233))
                  have n13_ := Aside0.mk ((q_m hg (q_b BK200.out) : gb233 ≠ gb200))
                  have n14_ := Aside0.mk ((q_n hg (q_b BK201.out) : gb201 ≠ gb233))
                  have n15_ := Aside0.mk ((q_m hg (q_b BK201.out) : gb233 ≠ gb201))
                  have n16_ := Aside0.mk ((q_n hg (q_b BK215.out) : gb215 ≠ gb233))
                  have n17_ := Aside0.mk ((q_m hg (q_b BK215.out) : gb233 ≠ gb215))
                  have n18_ := Aside0.mk ((q_n hg (q_b BK220.out) : gb220 ≠ gb233))
                  have n19_ := Aside0.mk ((q_m hg (q_b BK220.out) : gb233 ≠ gb220))
                  have n20_ := Aside0.mk ((by rw [hg]; exact Nat.ne_of_lt (IsS130.lt (show IsS130 w0 _ g s0_0 t219 from q_I130_0_1)) : g ≠ gb233))
                  have n21_ := Aside0.mk ((by rw [hg]; exact Nat.ne_of_gt (IsS130.lt (show IsS130 w0 _ g s0_0 t219 from q_I130_0_1)) : gb233 ≠ g))
                  clear HO_202001
                  clear HO223
                  clear BK200
                  clear BK201
                  clear HI0
                  clear BK215
                  clear BK220
                  clear HK
                  clear HB
                  have HO_202001 := n0_
                  have HO223 := n1_
                  have BK200 := n2_
                  have BK201 := n3_
                  have HI0 := n4_
                  have BK215 := n5_
                  have BK220 := n6_
                  have HK := n7_
                  have HB := n8_
                  have BK233 := n9_
                  have GW233 := n10_
                  have GE233 := n11_
                  have NB200_233 := n12_
                  have NB233_200 := n13_
                  have NB201_233 := n14_
                  have NB233_201 := n15_
                  have NB215_233 := n16_
                  have NB233_215 := n17_
                  have NB220_233 := n18_
                  have NB233_220 := n19_
                  have NB0_233 := n20_
                  have NB233_0 := n21_
                  clear n0_ n1_ n2_ n3_ n4_ n5_ n6_ n7_ n8_ n9_ n10_ n11_ n12_ n13_ n14_ n15_ n16_ n17_ n18_ n19_ n20_ n21_
                  clear hb hbox hg
                  refine hK.out _ _ ⟨q_z BK201.out 0, q_z BK201.out 1, q_z BK215.out 0, q_z BK215.out 1, q_z BK215.out 2, q_z BK215.out 3, q_z BK220.out 0, q_z BK220.out 1, q_z BK220.out 2, q_z BK220.out 3⟩ (fun hHeld => ?_)
                  clear hK K
                  refine norm_ (a' := ?_) ?_ ?_
                  rotate_left
                  ·show Act.put _ (some 11) _ = _
                   simp only [Act.put, List.setIfInBounds_toArray, List.set_cons_zero, List.set_cons_succ, i64_w, i32_w]
                   rfl
                  exact norm_ (by first | (simp only [putAll, Act.put, List.setIfInBounds_toArray, List.set_cons_zero, List.set_cons_succ]; done) | (simp only [putAll, Act.put, List.setIfInBounds_toArray, List.set_cons_zero, List.set_cons_succ]; rfl)) (hJ1_10 (v222, gb233) _ ⟨hHeld, (q_r (HO223.out)), (q_r (HO_202001.out)), kq, kq, kq, kq, kq, GW233.out, GE233.out, NB0_233.out, NB233_0.out, NB200_233.out, NB233_200.out, NB201_233.out, NB233_201.out, NB215_233.out, NB233_215.out, NB220_233.out, NB233_220.out, q_I130_0_1, q_K, q_B130_0⟩)
               ·skip
                rintro ⟨v228, gb233⟩ w44 ⟨hS_, h0_, h1_, h2_, h3_, h4_, h5_, h6_, h7_, h8_, h9_, h10_, h11_, h12_, h13_, h14_, h15_, h16_, h17_, h18_, h19_, h20_, h21_⟩
                have n0_ : Aside0 (Kd.R k89 89 w44 w.heap.size (fun k_ => some k_ ≠ (.slice Ao38 x202001_1.length co38 : Value).ownBlock ∧ k_ ≠ gb215 ∧ k_ ≠ gb220) v228 y227) := ⟨h0_⟩
                have n1_ : Aside0 (Kd.R k89 89 w44 w.heap.size (fun k_ => some k_ ≠ (v228 : Value).ownBlock ∧ k_ ≠ gb215 ∧ k_ ≠ gb220) (.slice Ao38 x202001_1.length co38) x202001_1) := ⟨h1_⟩
                have n2_ : Aside0 (w44.heap[gb200]? = some (.cells #[.int .i64 0, .slice none 0 0] 36 (0, 0))) := ⟨h2_⟩
                have n3_ : Aside0 (w44.heap[gb201]? = some (.cells #[.int .i64 x202000_1, .slice Ao38 x202001_1.length co38] 36 (0, 0))) := ⟨h3_⟩
                have n4_ : Aside0 (w44.heap[gb215]? = some (.cells #[.int .i64 t211, .int .i64 t213, .int .i64 t207, .int .i64 (wrap64 (-(wrap64 (1 + t209))))] 89 (0, 0))) := ⟨h4_⟩
                have n5_ : Aside0 (w44.heap[gb220]? = some (.cells #[.int .i64 t216, .int .i64 t218, .int .i64 t207, .int .i64 (wrap64 (1 + t209))] 89 (0, 0))) := ⟨h5_⟩
                have n6_ : Aside0 (w44.heap[gb233]? = some (.cells #[.int .i64 0, .slice none 0 0] 36 (0, 0))) := ⟨h6_⟩
                have n7_ : Aside0 (w.heap.size ≤ gb233) := ⟨h7_⟩
                have n8_ : Aside0 (w0.heap.size ≤ gb233) := ⟨h8_⟩
                have n9_ : Aside0 (g ≠ gb233) := ⟨h9_⟩
                have n10_ : Aside0 (gb233 ≠ g) := ⟨h10_⟩
                have n11_ : Aside0 (gb200 ≠ gb233) := ⟨h11_⟩
                have n12_ : Aside0 (gb233 ≠ gb200) := ⟨h12_⟩
                have n13_ : Aside0 (gb201 ≠ gb233) := ⟨h13_⟩
                have n14_ : Aside0 (gb233 ≠ gb201) := ⟨h14_⟩
                have n15_ : Aside0 (gb215 ≠ gb233) := ⟨h15_⟩
                have n16_ : Aside0 (gb233 ≠ gb215) := ⟨h16_⟩
                have n17_ : Aside0 (gb220 ≠ gb233) := ⟨h17_⟩
                have n18_ : Aside0 (gb233 ≠ gb220) := ⟨h18_⟩
                have n19_ : Aside0 (IsS130 w0 w44 g s0_0 t219) := ⟨h19_⟩
                have n20_ : Aside0 (KeepBut w w44 g none) := ⟨h20_⟩
                have n21_ : Aside0 (Below w0.heap.size w0 w44) := ⟨h21_⟩
                clear HO_202001
                clear BK200
                clear BK201
                clear BK215
                clear BK220
                clear HI0
                clear HK
                clear HB
                clear h0_ h1_ h2_ h3_ h4_ h5_ h6_ h7_ h8_ h9_ h10_ h11_ h12_ h13_ h14_ h15_ h16_ h17_ h18_ h19_ h20_ h21_
                have HO229 := n0_
                have HO_202001 := n1_
                have BK200 := n2_
                have BK201 := n3_
                have BK215 := n4_
                have BK220 := n5_
                have BK233 := n6_
                have GW233 := n7_
                have GE233 := n8_
                have NB0_233 := n9_
                have NB233_0 := n10_
                have NB200_233 := n11_
                have NB233_200 := n12_
                have NB201_233 := n13_
                have NB233_201 := n14_
                have NB215_233 := n15_
                have NB233_215 := n16_
                have NB220_233 := n17_
                have NB233_220 := n18_
                have HI0 := n19_
                have HK := n20_
                have HB := n21_
                clear n0_ n1_ n2_ n3_ n4_ n5_ n6_ n7_ n8_ n9_ n10_ n11_ n12_ n13_ n14_ n15_ n16_ n17_ n18_ n19_ n20_ n21_
                have hHeld : w44.cell? ⟨gb201, 0, none⟩ = some (.int .i64 x202000_1) ∧ w44.cell? ⟨gb201, 1, none⟩ = some (.slice Ao38 x202001_1.length co38) ∧ w44.cell? ⟨gb215, 0, none⟩ = some (.int .i64 t211) ∧ w44.cell? ⟨gb215, 1, none⟩ = some (.int .i64 t213) ∧ w44.cell? ⟨gb215, 2, none⟩ = some (.int .i64 t207) ∧ w44.cell? ⟨gb215, 3, none⟩ = some (.int .i64 (wrap64 (-(wrap64 (1 + t209))))) ∧ w44.cell? ⟨gb220, 0, none⟩ = some (.int .i64 t216) ∧ w44.cell? ⟨gb220, 1, none⟩ = some (.int .i64 t218) ∧ w44.cell? ⟨gb220, 2, none⟩ = some (.int .i64 t207) ∧ w44.cell? ⟨gb220, 3, none⟩ = some (.int .i64 (wrap64 (1 + t209))) := hS_
                refine norm_ (a' := ?_) ?_ ?_
                rotate_left
                ·simp only [putAll, Act.put, List.setIfInBounds_toArray, List.set_cons_zero, List.set_cons_succ]
                 rfl
                refine one_ (i := 1) (N := some 42) #[true, true, true, true, false, true, true, true, false, false, true, false] rfl rfl (one_of HT_.out (by kernel_rfl)) (by decide) (fun K hK => ?_)
                refine Kd.R_lit_step k89 _ 89 ?hg (N := 42) ?hd (xs := ([] : List (S89))) (inner := []) (ok := fun _ => True) (okp := fun _ => True) ?hr ?hp (fun _ hk => hk) trivial (Below.refl _ _) (Nat.le_refl _) (by simp) ?_; (case hd => rfl); (case hg => rfl); (case hr => first | (go_simp; done) | (go_simp; rfl)); (case hp => exact (Reps.none _ _))
                intro v222 w45 ho46 hb hg_ hnew_
                clear hg_ hnew_
                (first | rw [← Ny221.out] at ho46 | (simp only [Int.reduceToNat] at ho46; rw [← Ny221.out] at ho46))
                have n0_ := Aside0.mk (Kd.R_elder' (q_r (HO_202001.out)) (Kd.R_base ho46) hb)
                have n1_ := Aside0.mk (Kd.R_elder' (q_r (HO229.out)) (Kd.R_base ho46) hb)
                have n2_ := Aside0.mk (Kd.R_lower (Kd.R_newB (Kd.R_newB (Kd.R_new' (Kd.R_new' ho46 (Kd.R_lt (q_r (HO_202001.out)))) (Kd.R_lt (q_r (HO229.out)))) (q_b BK215.out)) (q_b BK220.out)) (keep_size (w := w) (g := g) (row := none) q_K))
                have n3_ := Aside0.mk (blk_below (q_b BK200.out) hb)
                have n4_ := Aside0.mk (blk_below (q_b BK201.out) hb)
                have n5_ := Aside0.mk (IsS130.below q_I130_0_1 hb)
                have n6_ := Aside0.mk (blk_below (q_b BK215.out) hb)
                have n7_ := Aside0.mk (blk_below (q_b BK220.out) hb)
                have n8_ := Aside0.mk (blk_below (q_b BK233.out) hb)
                have n9_ := Aside0.mk (KeepBut.trans q_K (KeepBut.of_below hb g none) (.inl rfl))
                have n10_ := Aside0.mk (below_step q_B130_0 hb)
                clear HO_202001
                clear HO229
                clear BK200
                clear BK201
                clear HI0
                clear BK215
                clear BK220
                clear BK233
                clear HK
                clear HB
                have HO_202001 := n0_
                have HO229 := n1_
                have HO223 := n2_
                have BK200 := n3_
                have BK201 := n4_
                have HI0 := n5_
                have BK215 := n6_
                have BK220 := n7_
                have BK233 := n8_
                have HK := n9_
                have HB := n10_
                clear n0_ n1_ n2_ n3_ n4_ n5_ n6_ n7_ n8_ n9_ n10_
                clear hb ho46
                refine hK.out _ _ ⟨q_z BK201.out 0, q_z BK201.out 1, q_z BK215.out 0, q_z BK215.out 1, q_z BK215.out 2, q_z BK215.out 3, q_z BK220.out 0, q_z BK220.out 1, q_z BK220.out 2, q_z BK220.out 3⟩ (fun hHeld => ?_)
                clear hK K
                refine norm_ (a' := ?_) ?_ ?_
                rotate_left
                ·show Act.put _ (some 42) _ = _
                 simp only [Act.put, List.setIfInBounds_toArray, List.set_cons_zero, List.set_cons_succ, i64_w, i32_w]
                 rfl
                exact norm_ (by first | (simp only [putAll, Act.put, List.setIfInBounds_toArray, List.set_cons_zero, List.set_cons_succ]; done) | (simp only [putAll, Act.put, List.setIfInBounds_toArray, List.set_cons_zero, List.set_cons_succ]; rfl)) (hJ1_7_10 (v222, v228, gb233) _ ⟨hHeld, (by (with_reducible repeat (first | apply Kd.R_alloc | apply Kd.R_drewN | apply Kd.R_drew)); exact Kd.R_mono HO223.out (fun _ hk => ⟨hk.1.1.2, ⟨hk.1.1.1.2, ⟨hk.1.2, hk.2⟩⟩⟩)), (by (with_reducible repeat (first | apply Kd.R_alloc | apply Kd.R_drewN | apply Kd.R_drew)); exact Kd.R_mono HO229.out (fun _ hk => ⟨hk.2, ⟨hk.1.1, ⟨hk.1.2.1, hk.1.2.2⟩⟩⟩)), (by (with_reducible repeat (first | apply Kd.R_alloc | apply Kd.R_drewN | apply Kd.R_drew)); exact Kd.R_mono HO_202001.out (fun _ hk => ⟨hk.2, ⟨hk.1.1, ⟨hk.1.2.1, hk.1.2.2⟩⟩⟩)), kq, kq, kq, kq, kq, GW233.out, GE233.out, NB0_233.out, NB233_0.out, NB200_233.out, NB233_200.out, NB201_233.out, NB233_201.out, NB215_233.out, NB233_215.out, NB220_233.out, NB233_220.out, q_I130_0_1, q_K, q_B130_0⟩)
              ·skip
               rintro ⟨v222, gb233⟩ w44 ⟨hS_, h0_, h1_, h2_, h3_, h4_, h5_, h6_, h7_, h8_, h9_, h10_, h11_, h12_, h13_, h14_, h15_, h16_, h17_, h18_, h19_, h20_, h21_⟩
               have n0_ : Aside0 (Kd.R k89 89 w44 w.heap.size (fun k_ => some k_ ≠ (.slice Ao38 x202001_1.length co38 : Value).ownBlock ∧ k_ ≠ gb215 ∧ k_ ≠ gb220) v222 y221) := ⟨h0_⟩
               have n1_ : Aside0 (Kd.R k89 89 w44 w.heap.size (fun k_ => some k_ ≠ (v222 : Value).ownBlock ∧ k_ ≠ gb215 ∧ k_ ≠ gb220) (.slice Ao38 x202001_1.length co38) x202001_1) := ⟨h1_⟩
               have n2_ : Aside0 (w44.heap[gb200]? = some (.cells #[.int .i64 0, .slice none 0 0] 36 (0, 0))) := ⟨h2_⟩
               have n3_ : Aside0 (w44.heap[gb201]? = some (.cells #[.int .i64 x202000_1, .slice Ao38 x202001_1.length co38] 36 (0, 0))) := ⟨h3_⟩
               have n4_ : Aside0 (w44.heap[gb215]? = some (.cells #[.int .i64 t211, .int .i64 t213, .int .i64 t207, .int .i64 (wrap64 (-(wrap64 (1 + t209))))] 89 (0, 0))) := ⟨h4_⟩
               have n5_ : Aside0 (w44.heap[gb220]? = some (.cells #[.int .i64 t216, .int .i64 t218, .int .i64 t207, .int .i64 (wrap64 (1 + t209))] 89 (0, 0))) := ⟨h5_⟩
               have n6_ : Aside0 (w44.heap[gb233]? = some (.cells #[.int .i64 0, .slice none 0 0] 36 (0, 0))) := ⟨h6_⟩
               have n7_ : Aside0 (w.heap.size ≤ gb233) := ⟨h7_⟩
               have n8_ : Aside0 (w0.heap.size ≤ gb233) := ⟨h8_⟩
               have n9_ : Aside0 (g ≠ gb233) := ⟨h9_⟩
               have n10_ : Aside0 (gb233 ≠ g) := ⟨h10_⟩
               have n11_ : Aside0 (gb200 ≠ gb233) := ⟨h11_⟩
               have n12_ : Aside0 (gb233 ≠ gb200) := ⟨h12_⟩
               have n13_ : Aside0 (gb201 ≠ gb233) := ⟨h13_⟩
               have n14_ : Aside0 (gb233 ≠ gb201) := ⟨h14_⟩
               have n15_ : Aside0 (gb215 ≠ gb233) := ⟨h15_⟩
               have n16_ : Aside0 (gb233 ≠ gb215) := ⟨h16_⟩
               have n17_ : Aside0 (gb220 ≠ gb233) := ⟨h17_⟩
               have n18_ : Aside0 (gb233 ≠ gb220) := ⟨h18_⟩
               have n19_ : Aside0 (IsS130 w0 w44 g s0_0 t219) := ⟨h19_⟩
               have n20_ : Aside0 (KeepBut w w44 g none) := ⟨h20_⟩
               have n21_ : Aside0 (Below w0.heap.size w0 w44) := ⟨h21_⟩
               clear HO_202001
               clear BK200
               clear BK201
               clear BK215
               clear BK220
               clear HI0
               clear HK
               clear HB
               clear h0_ h1_ h2_ h3_ h4_ h5_ h6_ h7_ h8_ h9_ h10_ h11_ h12_ h13_ h14_ h15_ h16_ h17_ h18_ h19_ h20_ h21_
               have HO223 := n0_
               have HO_202001 := n1_
               have BK200 := n2_
               have BK201 := n3_
               have BK215 := n4_
               have BK220 := n5_
               have BK233 := n6_
               have GW233 := n7_
               have GE233 := n8_
               have NB0_233 := n9_
               have NB233_0 := n10_
               have NB200_233 := n11_
               have NB233_200 := n12_
               have NB201_233 := n13_
               have NB233_201 := n14_
               have NB215_233 := n15_
               have NB233_215 := n16_
               have NB220_233 := n17_
               have NB233_220 := n18_
               have HI0 := n19_
               have HK := n20_
               have HB := n21_
               clear n0_ n1_ n2_ n3_ n4_ n5_ n6_ n7_ n8_ n9_ n10_ n11_ n12_ n13_ n14_ n15_ n16_ n17_ n18_ n19_ n20_ n21_
               have hHeld : w44.cell? ⟨gb201, 0, none⟩ = some (.int .i64 x202000_1) ∧ w44.cell? ⟨gb201, 1, none⟩ = some (.slice Ao38 x202001_1.length co38) ∧ w44.cell? ⟨gb215, 0, none⟩ = some (.int .i64 t211) ∧ w44.cell? ⟨gb215, 1, none⟩ = some (.int .i64 t213) ∧ w44.cell? ⟨gb215, 2, none⟩ = some (.int .i64 t207) ∧ w44.cell? ⟨gb215, 3, none⟩ = some (.int .i64 (wrap64 (-(wrap64 (1 + t209))))) ∧ w44.cell? ⟨gb220, 0, none⟩ = some (.int .i64 t216) ∧ w44.cell? ⟨gb220, 1, none⟩ = some (.int .i64 t218) ∧ w44.cell? ⟨gb220, 2, none⟩ = some (.int .i64 t207) ∧ w44.cell? ⟨gb220, 3, none⟩ = some (.int .i64 (wrap64 (1 + t209))) := hS_
               refine norm_ (a' := ?_) ?_ ?_
               rotate_left
               ·simp only [putAll, Act.put, List.setIfInBounds_toArray, List.set_cons_zero, List.set_cons_succ]
                rfl
               refine two_ (i := 4) (j := 7) (Ni := some 45) (Nj := some 48) #[true, true, true, true, true, true, true, false, false, false, true, false] #[true, true, true, true, false, true, true, true, false, false, true, false] rfl rfl rfl rfl (two_of HT_.out (by kernel_rfl)) (by decide) (by decide) (fun K hK => ?_) (fun K hK => ?_)
               ·skip
                refine Kd.R_append_rows_step k89 w.heap.size (by rfl) (.tmp 42) (.tmp 44) 34 89 (.agg #[(.int .i64 0), (.int .i64 0), (.int .i64 0), (.int .i64 0)]) 32 rfl Try.underlying34 info89 rfl (by decide) (by omega) v222 y221 x202001_1 _ _ _ (fun k_ => some k_ ≠ (.slice Ao38 x202001_1.length co38 : Value).ownBlock ∧ k_ ≠ gb215 ∧ k_ ≠ gb220) (fun _ => False) rfl rfl ?aO ?aR (fun _ _ h => h) (fun _ h => h.elim) ?aF (Below.refl _ _) ?aS ?aL ?_
                (case aR => repeat (first | exact (Kd.R_reads' HO_202001.out).2.2 | (with_reducible refine Kd.C_alloc ?_ _) | (with_reducible refine Kd.C_drewN ?_ _) | (with_reducible refine Kd.C_drew ?_)))
                (case aF => exact (fun k_ hk => ⟨Kd.fresh' (Kd.R_lt (q_r (HO_202001.out))) k_ hk, Kd.freshB (q_b BK215.out) k_ hk, Kd.freshB (q_b BK220.out) k_ hk⟩))
                (case aO => exact (q_r (HO223.out)))
                (case aS => exact (keep_size (w := w) (g := g) (row := none) q_K))
                (case aL => have := LMc17.out; omega)
                intro v225 w45 ho hb hg hat
                rw [← Ny224.out] at ho
                have n0_ := Aside0.mk (Kd.R_after (ok := (fun k_ => k_ ≠ gb215 ∧ k_ ≠ gb220)) (by (with_reducible repeat (first | apply Kd.R_alloc | apply Kd.R_drewN | apply Kd.R_drew)); exact Kd.R_mono HO_202001.out (fun _ hk => ⟨⟨hk.2.1, hk.2.2⟩, hk.1⟩)) hg hat)
                have n1_ := Aside0.mk (blk_grown (q_b BK200.out) hg (Kd.R_ne HO223.out BK200.out (by decide)))
                have n2_ := Aside0.mk (blk_grown (q_b BK201.out) hg (Kd.R_ne HO223.out BK201.out (by decide)))
                have n3_ := Aside0.mk (IsS130.grown q_I130_0_1 hg (IsS130.own_ne HI0.out HO223.out (by decide)))
                have n4_ := Aside0.mk (blk_grown (q_b BK215.out) hg (Kd.R_away HO223.out (fun _ hk => hk.2.1)))
                have n5_ := Aside0.mk (blk_grown (q_b BK220.out) hg (Kd.R_away HO223.out (fun _ hk => hk.2.2)))
                have n6_ := Aside0.mk (blk_grown (q_b BK233.out) hg (Kd.R_ne HO223.out BK233.out (by decide)))
                have n7_ := Aside0.mk (below_weaken q_B130_0 HL.out hb)
                have n8_ := Aside0.mk (KeepBut.trans q_K (KeepBut.of_grown hg g) (Kd.R_base2 HO223.out))
                have n9_ := Aside0.mk (ho)
                clear HO_202001
                clear BK200
                clear BK201
                clear HI0
                clear BK215
                clear BK220
                clear BK233
                clear HB
                clear HK
                clear HO223
                have HO_202001 := n0_
                have BK200 := n1_
                have BK201 := n2_
                have HI0 := n3_
                have BK215 := n4_
                have BK220 := n5_
                have BK233 := n6_
                have HB := n7_
                have HK := n8_
                have HO226 := n9_
                clear n0_ n1_ n2_ n3_ n4_ n5_ n6_ n7_ n8_ n9_
                clear ho hb hg hat
                refine hK.out _ _ ⟨q_z BK201.out 0, q_z BK201.out 1, q_z BK215.out 0, q_z BK215.out 1, q_z BK215.out 2, q_z BK215.out 3, q_z BK220.out 0, q_z BK220.out 1, q_z BK220.out 2, q_z BK220.out 3⟩ (fun hHeld => ?_)
                clear hK K
                refine norm_ (a' := ?_) ?_ ?_
                rotate_left
                ·show Act.put _ (some 45) _ = _
                 simp only [Act.put, List.setIfInBounds_toArray, List.set_cons_zero, List.set_cons_succ, i64_w, i32_w]
                 rfl
                exact norm_ (by first | (simp only [putAll, Act.put, List.setIfInBounds_toArray, List.set_cons_zero, List.set_cons_succ]; done) | (simp only [putAll, Act.put, List.setIfInBounds_toArray, List.set_cons_zero, List.set_cons_succ]; rfl)) (hJ1_4_10 (v222, v225, gb233) _ ⟨hHeld, (q_r (HO226.out)), (by (with_reducible repeat (first | apply Kd.R_alloc | apply Kd.R_drewN | apply Kd.R_drew)); exact Kd.R_mono HO_202001.out (fun _ hk => ⟨hk.2, ⟨hk.1.1, hk.1.2⟩⟩)), kq, kq, kq, kq, kq, GW233.out, GE233.out, NB0_233.out, NB233_0.out, NB200_233.out, NB233_200.out, NB201_233.out, NB233_201.out, NB215_233.out, NB233_215.out, NB220_233.out, NB233_220.out, q_I130_0_1, q_K, q_B130_0⟩)
               ·skip
                refine Kd.R_lit_step k89 _ 89 ?hg (N := 48) ?hd (xs := ([(⟨t211, t213, t207, wrap64 (-(wrap64 (1 + t209)))⟩ : S89), (⟨t216, t218, t207, wrap64 (1 + t209)⟩ : S89)] : List (S89))) (inner := [.int .i64 t211, .int .i64 t213, .int .i64 t207, .int .i64 (wrap64 (-(wrap64 (1 + t209)))), .int .i64 t216, .int .i64 t218, .int .i64 t207, .int .i64 (wrap64 (1 + t209))]) (ok := fun _ => True) (okp := fun _ => True) ?hr ?hp (fun _ hk => hk) trivial (Below.refl _ _) (Nat.le_refl _) (by simp) ?_; (case hd => rfl); (case hg => rfl); (case hr => first | (go_simp; done) | (go_simp; rfl)); (case hp => exact (Reps.c4 (show Kd.M k89 _ _ _ (⟨t211, t213, t207, wrap64 (-(wrap64 (1 + t209)))⟩ : S89) [.int .i64 t211, .int .i64 t213, .int .i64 t207, .int .i64 (wrap64 (-(wrap64 (1 + t209))))] from (k89_mkM _ _ _ (⟨t211, t213, t207, wrap64 (-(wrap64 (1 + t209)))⟩ : S89) )) (Reps.c4 (show Kd.M k89 _ _ _ (⟨t216, t218, t207, wrap64 (1 + t209)⟩ : S89) [.int .i64 t216, .int .i64 t218, .int .i64 t207, .int .i64 (wrap64 (1 + t209))] from (k89_mkM _ _ _ (⟨t216, t218, t207, wrap64 (1 + t209)⟩ : S89) )) (Reps.none _ _))))
                intro v228 w45 ho46 hb hg_ hnew_
                clear hg_ hnew_
                (first | rw [← Ny227.out] at ho46 | (simp only [Int.reduceToNat] at ho46; rw [← Ny227.out] at ho46))
                have n0_ := Aside0.mk (Kd.R_elder' (q_r (HO_202001.out)) (Kd.R_base ho46) hb)
                have n1_ := Aside0.mk (Kd.R_elder' (q_r (HO223.out)) (Kd.R_base ho46) hb)
                have n2_ := Aside0.mk (Kd.R_lower (Kd.R_newB (Kd.R_newB (Kd.R_new' (Kd.R_new' ho46 (Kd.R_lt (q_r (HO_202001.out)))) (Kd.R_lt (q_r (HO223.out)))) (q_b BK215.out)) (q_b BK220.out)) (keep_size (w := w) (g := g) (row := none) q_K))
                have n3_ := Aside0.mk (blk_below (q_b BK200.out) hb)
                have n4_ := Aside0.mk (blk_below (q_b BK201.out) hb)
                have n5_ := Aside0.mk (IsS130.below q_I130_0_1 hb)
                have n6_ := Aside0.mk (blk_below (q_b BK215.out) hb)
                have n7_ := Aside0.mk (blk_below (q_b BK220.out) hb)
                have n8_ := Aside0.mk (blk_below (q_b BK233.out) hb)
                have n9_ := Aside0.mk (KeepBut.trans q_K (KeepBut.of_below hb g none) (.inl rfl))
                have n10_ := Aside0.mk (below_step q_B130_0 hb)
                clear HO_202001
                clear HO223
                clear BK200
                clear BK201
                clear HI0
                clear BK215
                clear BK220
                clear BK233
                clear HK
                clear HB
                have HO_202001 := n0_
                have HO223 := n1_
                have HO229 := n2_
                have BK200 := n3_
                have BK201 := n4_
                have HI0 := n5_
                have BK215 := n6_
                have BK220 := n7_
                have BK233 := n8_
                have HK := n9_
                have HB := n10_
                clear n0_ n1_ n2_ n3_ n4_ n5_ n6_ n7_ n8_ n9_ n10_
                clear hb ho46
                refine hK.out _ _ ⟨q_z BK201.out 0, q_z BK201.out 1, q_z BK215.out 0, q_z BK215.out 1, q_z BK215.out 2, q_z BK215.out 3, q_z BK220.out 0, q_z BK220.out 1, q_z BK220.out 2, q_z BK220.out 3⟩ (fun hHeld => ?_)
                clear hK K
                refine norm_ (a' := ?_) ?_ ?_
                rotate_left
                ·show Act.put _ (some 48) _ = _
                 simp only [Act.put, List.setIfInBounds_toArray, List.set_cons_zero, List.set_cons_succ, i64_w, i32_w]
                 rfl
                exact norm_ (by first | (simp only [putAll, Act.put, List.setIfInBounds_toArray, List.set_cons_zero, List.set_cons_succ]; done) | (simp only [putAll, Act.put, List.setIfInBounds_toArray, List.set_cons_zero, List.set_cons_succ]; rfl)) (hJ1_7_10 (v222, v228, gb233) _ ⟨hHeld, (by (with_reducible repeat (first | apply Kd.R_alloc | apply Kd.R_drewN | apply Kd.R_drew)); exact Kd.R_mono HO223.out (fun _ hk => ⟨hk.2, ⟨hk.1.1, ⟨hk.1.2.1, hk.1.2.2⟩⟩⟩)), (by (with_reducible repeat (first | apply Kd.R_alloc | apply Kd.R_drewN | apply Kd.R_drew)); exact Kd.R_mono HO229.out (fun _ hk => ⟨hk.1.1.2, ⟨hk.1.1.1.2, ⟨hk.1.2, hk.2⟩⟩⟩)), (by (with_reducible repeat (first | apply Kd.R_alloc | apply Kd.R_drewN | apply Kd.R_drew)); exact Kd.R_mono HO_202001.out (fun _ hk => ⟨hk.1.1, ⟨hk.2, ⟨hk.1.2.1, hk.1.2.2⟩⟩⟩)), kq, kq, kq, kq, kq, GW233.out, GE233.out, NB0_233.out, NB233_0.out, NB200_233.out, NB233_200.out, NB201_233.out, NB233_201.out, NB215_233.out, NB233_215.out, NB220_233.out, NB233_220.out, q_I130_0_1, q_K, q_B130_0⟩)
             ·skip
              rintro ⟨v222, v228⟩ w45 ⟨hS_, h0_, h1_, h2_, h3_, h4_, h5_, h6_, h7_, h8_, h9_⟩
              have n0_ : Aside0 (Kd.R k89 89 w45 w.heap.size (fun k_ => some k_ ≠ (v228 : Value).ownBlock ∧ some k_ ≠ (.slice Ao38 x202001_1.length co38 : Value).ownBlock ∧ k_ ≠ gb215 ∧ k_ ≠ gb220) v222 y221) := ⟨h0_⟩
              have n1_ : Aside0 (Kd.R k89 89 w45 w.heap.size (fun k_ => some k_ ≠ (v222 : Value).ownBlock ∧ some k_ ≠ (.slice Ao38 x202001_1.length co38 : Value).ownBlock ∧ k_ ≠ gb215 ∧ k_ ≠ gb220) v228 y227) := ⟨h1_⟩
              have n2_ : Aside0 (Kd.R k89 89 w45 w.heap.size (fun k_ => some k_ ≠ (v222 : Value).ownBlock ∧ some k_ ≠ (v228 : Value).ownBlock ∧ k_ ≠ gb215 ∧ k_ ≠ gb220) (.slice Ao38 x202001_1.length co38) x202001_1) := ⟨h2_⟩
              have n3_ : Aside0 (w45.heap[gb200]? = some (.cells #[.int .i64 0, .slice none 0 0] 36 (0, 0))) := ⟨h3_⟩
              have n4_ : Aside0 (w45.heap[gb201]? = some (.cells #[.int .i64 x202000_1, .slice Ao38 x202001_1.length co38] 36 (0, 0))) := ⟨h4_⟩
              have n5_ : Aside0 (w45.heap[gb215]? = some (.cells #[.int .i64 t211, .int .i64 t213, .int .i64 t207, .int .i64 (wrap64 (-(wrap64 (1 + t209))))] 89 (0, 0))) := ⟨h5_⟩
              have n6_ : Aside0 (w45.heap[gb220]? = some (.cells #[.int .i64 t216, .int .i64 t218, .int .i64 t207, .int .i64 (wrap64 (1 + t209))] 89 (0, 0))) := ⟨h6_⟩
              have n7_ : Aside0 (IsS130 w0 w45 g s0_0 t219) := ⟨h7_⟩
              have n8_ : Aside0 (KeepBut w w45 g none) := ⟨h8_⟩
              have n9_ : Aside0 (Below w0.heap.size w0 w45) := ⟨h9_⟩
              clear HO_202001
              clear BK200
              clear BK201
              clear BK215
              clear BK220
              clear HI0
              clear HK
              clear HB
              clear h0_ h1_ h2_ h3_ h4_ h5_ h6_ h7_ h8_ h9_
              have HO223 := n0_
              have HO229 := n1_
              have HO_202001 := n2_
              have BK200 := n3_
              have BK201 := n4_
              have BK215 := n5_
              have BK220 := n6_
              have HI0 := n7_
              have HK := n8_
              have HB := n9_
              clear n0_ n1_ n2_ n3_ n4_ n5_ n6_ n7_ n8_ n9_
              have hHeld : w45.cell? ⟨gb201, 0, none⟩ = some (.int .i64 x202000_1) ∧ w45.cell? ⟨gb201, 1, none⟩ = some (.slice Ao38 x202001_1.length co38) ∧ w45.cell? ⟨gb215, 0, none⟩ = some (.int .i64 t211) ∧ w45.cell? ⟨gb215, 1, none⟩ = some (.int .i64 t213) ∧ w45.cell? ⟨gb215, 2, none⟩ = some (.int .i64 t207) ∧ w45.cell? ⟨gb215, 3, none⟩ = some (.int .i64 (wrap64 (-(wrap64 (1 + t209))))) ∧ w45.cell? ⟨gb220, 0, none⟩ = some (.int .i64 t216) ∧ w45.cell? ⟨gb220, 1, none⟩ = some (.int .i64 t218) ∧ w45.cell? ⟨gb220, 2, none⟩ = some (.int .i64 t207) ∧ w45.cell? ⟨gb220, 3, none⟩ = some (.int .i64 (wrap64 (1 + t209))) := hS_
              refine norm_ (a' := ?_) ?_ ?_
              rotate_left
              ·simp only [putAll, Act.put, List.setIfInBounds_toArray, List.set_cons_zero, List.set_cons_succ]
               rfl
              refine two_ (i := 4) (j := 10) (Ni := some 45) (Nj := some 11) #[true, true, true, true, true, true, true, true, false, false, false, false] #[true, true, true, true, false, true, true, true, false, false, true, false] rfl rfl rfl rfl (two_of HT_.out (by kernel_rfl)) (by decide) (by decide) (fun K hK => ?_) (fun K hK => ?_)
              ·skip
               refine Kd.R_append_rows_step k89 w.heap.size (by rfl) (.tmp 42) (.tmp 44) 34 89 (.agg #[(.int .i64 0), (.int .i64 0), (.int .i64 0), (.int .i64 0)]) 32 rfl Try.underlying34 info89 rfl (by decide) (by omega) v222 y221 x202001_1 _ _ _ (fun k_ => some k_ ≠ (.slice Ao38 x202001_1.length co38 : Value).ownBlock ∧ some k_ ≠ (v228 : Value).ownBlock ∧ k_ ≠ gb215 ∧ k_ ≠ gb220) (fun _ => False) rfl rfl ?aO ?aR (fun _ _ h => h) (fun _ h => h.elim) ?aF (Below.refl _ _) ?aS ?aL ?_
               (case aR => repeat (first | exact (Kd.R_reads' HO_202001.out).2.2 | (with_reducible refine Kd.C_alloc ?_ _) | (with_reducible refine Kd.C_drewN ?_ _) | (with_reducible refine Kd.C_drew ?_)))
               (case aF => exact (fun k_ hk => ⟨Kd.fresh' (Kd.R_lt (q_r (HO_202001.out))) k_ hk, Kd.fresh' (Kd.R_lt (q_r (HO229.out))) k_ hk, Kd.freshB (q_b BK215.out) k_ hk, Kd.freshB (q_b BK220.out) k_ hk⟩))
               (case aO => exact (by (with_reducible repeat (first | apply Kd.R_alloc | apply Kd.R_drewN | apply Kd.R_drew)); exact Kd.R_mono HO223.out (fun _ hk => ⟨hk.2.1, ⟨hk.1, ⟨hk.2.2.1, hk.2.2.2⟩⟩⟩)))
               (case aS => exact (keep_size (w := w) (g := g) (row := none) q_K))
               (case aL => have := LMc17.out; omega)
               intro v225 w46 ho hb hg hat
               rw [← Ny224.out] at ho
               have n0_ := Aside0.mk (Kd.R_after (ok := (fun k_ => some k_ ≠ (v228 : Value).ownBlock ∧ k_ ≠ gb215 ∧ k_ ≠ gb220)) (by (with_reducible repeat (first | apply Kd.R_alloc | apply Kd.R_drewN | apply Kd.R_drew)); exact Kd.R_mono HO_202001.out (fun _ hk => ⟨⟨hk.2.1, ⟨hk.2.2.1, hk.2.2.2⟩⟩, hk.1⟩)) hg hat)
               have n1_ := Aside0.mk (blk_grown (q_b BK200.out) hg (Kd.R_ne HO223.out BK200.out (by decide)))
               have n2_ := Aside0.mk (blk_grown (q_b BK201.out) hg (Kd.R_ne HO223.out BK201.out (by decide)))
               have n3_ := Aside0.mk (IsS130.grown q_I130_0_1 hg (IsS130.own_ne HI0.out HO223.out (by decide)))
               have n4_ := Aside0.mk (blk_grown (q_b BK215.out) hg (Kd.R_away HO223.out (fun _ hk => hk.2.2.1)))
               have n5_ := Aside0.mk (blk_grown (q_b BK220.out) hg (Kd.R_away HO223.out (fun _ hk => hk.2.2.2)))
               have n6_ := Aside0.mk (Kd.R_after (ok := (fun k_ => some k_ ≠ (.slice Ao38 x202001_1.length co38 : Value).ownBlock ∧ k_ ≠ gb215 ∧ k_ ≠ gb220)) (by (with_reducible repeat (first | apply Kd.R_alloc | apply Kd.R_drewN | apply Kd.R_drew)); exact Kd.R_mono HO229.out (fun _ hk => ⟨⟨hk.2.1, ⟨hk.2.2.1, hk.2.2.2⟩⟩, hk.1⟩)) hg hat)
               have n7_ := Aside0.mk (below_weaken q_B130_0 HL.out hb)
               have n8_ := Aside0.mk (KeepBut.trans q_K (KeepBut.of_grown hg g) (Kd.R_base2 HO223.out))
               have n9_ := Aside0.mk (ho)
               clear HO_202001
               clear BK200
               clear BK201
               clear HI0
               clear BK215
               clear BK220
               clear HO229
               clear HB
               clear HK
               clear HO223
               have HO_202001 := n0_
               have BK200 := n1_
               have BK201 := n2_
               have HI0 := n3_
               have BK215 := n4_
               have BK220 := n5_
               have HO229 := n6_
               have HB := n7_
               have HK := n8_
               have HO226 := n9_
               clear n0_ n1_ n2_ n3_ n4_ n5_ n6_ n7_ n8_ n9_
               clear ho hb hg hat
               refine hK.out _ _ ⟨q_z BK201.out 0, q_z BK201.out 1, q_z BK215.out 0, q_z BK215.out 1, q_z BK215.out 2, q_z BK215.out 3, q_z BK220.out 0, q_z BK220.out 1, q_z BK220.out 2, q_z BK220.out 3⟩ (fun hHeld => ?_)
               clear hK K
               refine norm_ (a' := ?_) ?_ ?_
               rotate_left
               ·show Act.put _ (some 45) _ = _
                simp only [Act.put, List.setIfInBounds_toArray, List.set_cons_zero, List.set_cons_succ, i64_w, i32_w]
                rfl
               exact norm_ (by first | (simp only [putAll, Act.put, List.setIfInBounds_toArray, List.set_cons_zero, List.set_cons_succ]; done) | (simp only [putAll, Act.put, List.setIfInBounds_toArray, List.set_cons_zero, List.set_cons_succ]; rfl)) (hJ1_4_7 (v222, v225, v228) _ ⟨hHeld, (by (with_reducible repeat (first | apply Kd.R_alloc | apply Kd.R_drewN | apply Kd.R_drew)); exact Kd.R_mono HO226.out (fun _ hk => ⟨hk.2.1, ⟨hk.1, ⟨hk.2.2.1, hk.2.2.2⟩⟩⟩)), (by (with_reducible repeat (first | apply Kd.R_alloc | apply Kd.R_drewN | apply Kd.R_drew)); exact Kd.R_mono HO229.out (fun _ hk => ⟨hk.2, ⟨hk.1.1, ⟨hk.1.2.1, hk.1.2.2⟩⟩⟩)), (by (with_reducible repeat (first | apply Kd.R_alloc | apply Kd.R_drewN | apply Kd.R_drew)); exact Kd.R_mono HO_202001.out (fun _ hk => ⟨hk.2, ⟨hk.1.1, ⟨hk.1.2.1, hk.1.2.2⟩⟩⟩)), kq, kq, kq, kq, q_I130_0_1, q_K, q_B130_0⟩)
              ·skip
               refine box_step ?hg (N := 11) ?hd (cs := #[.int .i64 0, .slice none 0 0]) (t := 36) ?hr ?_; (case hd => rfl); (case hg => rfl); (case hr => first | (go_simp; done) | (go_simp; rfl))
               intro gb233 hg w46 hbox hb
               have n0_ := Aside0.mk (Kd.R_below (q_r (HO_202001.out)) hb)
               have n1_ := Aside0.mk (Kd.R_below (q_r (HO223.out)) hb)
               have n2_ := Aside0.mk (Kd.R_below (q_r (HO229.out)) hb)
               have n3_ := Aside0.mk (blk_below (q_b BK200.out) hb)
               have n4_ := Aside0.mk (blk_below (q_b BK201.out) hb)
               have n5_ := Aside0.mk (IsS130.below q_I130_0_1 hb)
               have n6_ := Aside0.mk (blk_below (q_b BK215.out) hb)
               have n7_ := Aside0.mk (blk_below (q_b BK220.out) hb)
               have n8_ := Aside0.mk (KeepBut.trans q_K (KeepBut.of_below hb g none) (.inl rfl))
               have n9_ := Aside0.mk (below_step q_B130_0 hb)
               have n10_ := Aside0.mk (hbox)
               have n11_ := Aside0.mk ((by rw [hg]; exact (keep_size (w := w) (g := g) (row := none) q_K) : w.heap.size ≤ gb233))
               have n12_ := Aside0.mk ((Nat.le_trans HW0.out (by rw [hg]; exact (keep_size (w := w) (g := g) (row := none) q_K) : w.heap.size ≤ gb233) : w0.heap.size ≤ gb233))
               have n13_ := Aside0.mk ((q_n hg (q_b BK200.out) : gb200 ≠ gb233))
               have n14_ := Aside0.mk ((q_m hg (q_b BK200.out) : gb233 ≠ gb200))
               have n15_ := Aside0.mk ((q_n hg (q_b BK201.out) : gb201 ≠ gb233))
               have n16_ := Aside0.mk ((q_m hg (q_b BK201.out) : gb233 ≠ gb201))
               have n17_ := Aside0.mk ((q_n hg (q_b BK215.out) : gb215 ≠ gb233))
               have n18_ := Aside0.mk ((q_m hg (q_b BK215.out) : gb233 ≠ gb215))
               have n19_ := Aside0.mk ((q_n hg (q_b BK220.out) : gb220 ≠ gb233))
               have n20_ := Aside0.mk ((q_m hg (q_b BK220.out) : gb233 ≠ gb220))
               have n21_ := Aside0.mk ((by rw [hg]; exact Nat.ne_of_lt (IsS130.lt (show IsS130 w0 _ g s0_0 t219 from q_I130_0_1)) : g ≠ gb233))
               have n22_ := Aside0.mk ((by rw [hg]; exact Nat.ne_of_gt (IsS130.lt (show IsS130 w0 _ g s0_0 t219 from q_I130_0_1)) : gb233 ≠ g))
               clear HO_202001
               clear HO223
               clear HO229
               clear BK200
               clear BK201
               clear HI0
               clear BK215
               clear BK220
               clear HK
               clear HB
               have HO_202001 := n0_
               have HO223 := n1_
               have HO229 := n2_
               have BK200 := n3_
               have BK201 := n4_
               have HI0 := n5_
               have BK215 := n6_
               have BK220 := n7_
               have HK := n8_
               have HB := n9_
               have BK233 := n10_
               have GW233 := n11_
               have GE233 := n12_
               have NB200_233 := n13_
               have NB233_200 := n14_
               have NB201_233 := n15_
               have NB233_201 := n16_
               have NB215_233 := n17_
               have NB233_215 := n18_
               have NB220_233 := n19_
               have NB233_220 := n20_
               have NB0_233 := n21_
               have NB233_0 := n22_
               clear n0_ n1_ n2_ n3_ n4_ n5_ n6_ n7_ n8_ n9_ n10_ n11_ n12_ n13_ n14_ n15_ n16_ n17_ n18_ n19_ n20_ n21_ n22_
               clear hb hbox hg
               refine hK.out _ _ ⟨q_z BK201.out 0, q_z BK201.out 1, q_z BK215.out 0, q_z BK215.out 1, q_z BK215.out 2, q_z BK215.out 3, q_z BK220.out 0, q_z BK220.out 1, q_z BK220.out 2, q_z BK220.out 3⟩ (fun hHeld => ?_)
               clear hK K
               refine norm_ (a' := ?_) ?_ ?_
               rotate_left
               ·show Act.put _ (some 11) _ = _
                simp only [Act.put, List.setIfInBounds_toArray, List.set_cons_zero, List.set_cons_succ, i64_w, i32_w]
                rfl
               exact norm_ (by first | (simp only [putAll, Act.put, List.setIfInBounds_toArray, List.set_cons_zero, List.set_cons_succ]; done) | (simp only [putAll, Act.put, List.setIfInBounds_toArray, List.set_cons_zero, List.set_cons_succ]; rfl)) (hJ1_7_10 (v222, v228, gb233) _ ⟨hHeld, (q_r (HO223.out)), (q_r (HO229.out)), (q_r (HO_202001.out)), kq, kq, kq, kq, kq, GW233.out, GE233.out, NB0_233.out, NB233_0.out, NB200_233.out, NB233_200.out, NB201_233.out, NB233_201.out, NB215_233.out, NB233_215.out, NB220_233.out, NB233_220.out, q_I130_0_1, q_K, q_B130_0⟩)
            ·skip
             rintro ⟨v222, v225⟩ w44 ⟨hS_, h0_, h1_, h2_, h3_, h4_, h5_, h6_, h7_, h8_⟩
             have n0_ : Aside0 (Kd.R k89 89 w44 w.heap.size (fun k_ => some k_ ≠ (.slice Ao38 x202001_1.length co38 : Value).ownBlock ∧ k_ ≠ gb215 ∧ k_ ≠ gb220) v225 y224) := ⟨h0_⟩
             have n1_ : Aside0 (Kd.R k89 89 w44 w.heap.size (fun k_ => some k_ ≠ (v225 : Value).ownBlock ∧ k_ ≠ gb215 ∧ k_ ≠ gb220) (.slice Ao38 x202001_1.length co38) x202001_1) := ⟨h1_⟩
             have n2_ : Aside0 (w44.heap[gb200]? = some (.cells #[.int .i64 0, .slice none 0 0] 36 (0, 0))) := ⟨h2_⟩
             have n3_ : Aside0 (w44.heap[gb201]? = some (.cells #[.int .i64 x202000_1, .slice Ao38 x202001_1.length co38] 36 (0, 0))) := ⟨h3_⟩
             have n4_ : Aside0 (w44.heap[gb215]? = some (.cells #[.int .i64 t211, .int .i64 t213, .int .i64 t207, .int .i64 (wrap64 (-(wrap64 (1 + t209))))] 89 (0, 0))) := ⟨h4_⟩
             have n5_ : Aside0 (w44.heap[gb220]? = some (.cells #[.int .i64 t216, .int .i64 t218, .int .i64 t207, .int .i64 (wrap64 (1 + t209))] 89 (0, 0))) := ⟨h5_⟩
             have n6_ : Aside0 (IsS130 w0 w44 g s0_0 t219) := ⟨h6_⟩
             have n7_ : Aside0 (KeepBut w w44 g none) := ⟨h7_⟩
             have n8_ : Aside0 (Below w0.heap.size w0 w44) := ⟨h8_⟩
             clear HO_202001
             clear BK200
             clear BK201
             clear BK215
             clear BK220
             clear HI0
             clear HK
             clear HB
             clear h0_ h1_ h2_ h3_ h4_ h5_ h6_ h7_ h8_
             have HO226 := n0_
             have HO_202001 := n1_
             have BK200 := n2_
             have BK201 := n3_
             have BK215 := n4_
             have BK220 := n5_
             have HI0 := n6_
             have HK := n7_
             have HB := n8_
             clear n0_ n1_ n2_ n3_ n4_ n5_ n6_ n7_ n8_
             have hHeld : w44.cell? ⟨gb201, 0, none⟩ = some (.int .i64 x202000_1) ∧ w44.cell? ⟨gb201, 1, none⟩ = some (.slice Ao38 x202001_1.length co38) ∧ w44.cell? ⟨gb215, 0, none⟩ = some (.int .i64 t211) ∧ w44.cell? ⟨gb215, 1, none⟩ = some (.int .i64 t213) ∧ w44.cell? ⟨gb215, 2, none⟩ = some (.int .i64 t207) ∧ w44.cell? ⟨gb215, 3, none⟩ = some (.int .i64 (wrap64 (-(wrap64 (1 + t209))))) ∧ w44.cell? ⟨gb220, 0, none⟩ = some (.int .i64 t216) ∧ w44.cell? ⟨gb220, 1, none⟩ = some (.int .i64 t218) ∧ w44.cell? ⟨gb220, 2, none⟩ = some (.int .i64 t207) ∧ w44.cell? ⟨gb220, 3, none⟩ = some (.int .i64 (wrap64 (1 + t209))) := hS_
             refine norm_ (a' := ?_) ?_ ?_
             rotate_left
             ·simp only [putAll, Act.put, List.setIfInBounds_toArray, List.set_cons_zero, List.set_cons_succ]
              rfl
             refine two_ (i := 7) (j := 10) (Ni := some 48) (Nj := some 11) #[true, true, true, true, true, true, true, true, false, false, false, false] #[true, true, true, true, true, true, true, false, false, false, true, false] rfl rfl rfl rfl (two_of HT_.out (by kernel_rfl)) (by decide) (by decide) (fun K hK => ?_) (fun K hK => ?_)
             ·skip
              refine Kd.R_lit_step k89 _ 89 ?hg (N := 48) ?hd (xs := ([(⟨t211, t213, t207, wrap64 (-(wrap64 (1 + t209)))⟩ : S89), (⟨t216, t218, t207, wrap64 (1 + t209)⟩ : S89)] : List (S89))) (inner := [.int .i64 t211, .int .i64 t213, .int .i64 t207, .int .i64 (wrap64 (-(wrap64 (1 + t209)))), .int .i64 t216, .int .i64 t218, .int .i64 t207, .int .i64 (wrap64 (1 + t209))]) (ok := fun _ => True) (okp := fun _ => True) ?hr ?hp (fun _ hk => hk) trivial (Below.refl _ _) (Nat.le_refl _) (by simp) ?_; (case hd => rfl); (case hg => rfl); (case hr => first | (go_simp; done) | (go_simp; rfl)); (case hp => exact (Reps.c4 (show Kd.M k89 _ _ _ (⟨t211, t213, t207, wrap64 (-(wrap64 (1 + t209)))⟩ : S89) [.int .i64 t211, .int .i64 t213, .int .i64 t207, .int .i64 (wrap64 (-(wrap64 (1 + t209))))] from (k89_mkM _ _ _ (⟨t211, t213, t207, wrap64 (-(wrap64 (1 + t209)))⟩ : S89) )) (Reps.c4 (show Kd.M k89 _ _ _ (⟨t216, t218, t207, wrap64 (1 + t209)⟩ : S89) [.int .i64 t216, .int .i64 t218, .int .i64 t207, .int .i64 (wrap64 (1 + t209))] from (k89_mkM _ _ _ (⟨t216, t218, t207, wrap64 (1 + t209)⟩ : S89) )) (Reps.none _ _))))
              intro v228 w45 ho46 hb hg_ hnew_
              clear hg_ hnew_
              (first | rw [← Ny227.out] at ho46 | (simp only [Int.reduceToNat] at ho46; rw [← Ny227.out] at ho46))
              have n0_ := Aside0.mk (Kd.R_elder' (q_r (HO_202001.out)) (Kd.R_base ho46) hb)
              have n1_ := Aside0.mk (Kd.R_elder' (q_r (HO226.out)) (Kd.R_base ho46) hb)
              have n2_ := Aside0.mk (Kd.R_lower (Kd.R_newB (Kd.R_newB (Kd.R_new' (Kd.R_new' ho46 (Kd.R_lt (q_r (HO_202001.out)))) (Kd.R_lt (q_r (HO226.out)))) (q_b BK215.out)) (q_b BK220.out)) (keep_size (w := w) (g := g) (row := none) q_K))
              have n3_ := Aside0.mk (blk_below (q_b BK200.out) hb)
              have n4_ := Aside0.mk (blk_below (q_b BK201.out) hb)
              have n5_ := Aside0.mk (IsS130.below q_I130_0_1 hb)
              have n6_ := Aside0.mk (blk_below (q_b BK215.out) hb)
              have n7_ := Aside0.mk (blk_below (q_b BK220.out) hb)
              have n8_ := Aside0.mk (KeepBut.trans q_K (KeepBut.of_below hb g none) (.inl rfl))
              have n9_ := Aside0.mk (below_step q_B130_0 hb)
              clear HO_202001
              clear HO226
              clear BK200
              clear BK201
              clear HI0
              clear BK215
              clear BK220
              clear HK
              clear HB
              have HO_202001 := n0_
              have HO226 := n1_
              have HO229 := n2_
              have BK200 := n3_
              have BK201 := n4_
              have HI0 := n5_
              have BK215 := n6_
              have BK220 := n7_
              have HK := n8_
              have HB := n9_
              clear n0_ n1_ n2_ n3_ n4_ n5_ n6_ n7_ n8_ n9_
              clear hb ho46
              refine hK.out _ _ ⟨q_z BK201.out 0, q_z BK201.out 1, q_z BK215.out 0, q_z BK215.out 1, q_z BK215.out 2, q_z BK215.out 3, q_z BK220.out 0, q_z BK220.out 1, q_z BK220.out 2, q_z BK220.out 3⟩ (fun hHeld => ?_)
              clear hK K
              refine norm_ (a' := ?_) ?_ ?_
              rotate_left
              ·show Act.put _ (some 48) _ = _
               simp only [Act.put, List.setIfInBounds_toArray, List.set_cons_zero, List.set_cons_succ, i64_w, i32_w]
               rfl
              exact norm_ (by first | (simp only [putAll, Act.put, List.setIfInBounds_toArray, List.set_cons_zero, List.set_cons_succ]; done) | (simp only [putAll, Act.put, List.setIfInBounds_toArray, List.set_cons_zero, List.set_cons_succ]; rfl)) (hJ1_4_7 (v222, v225, v228) _ ⟨hHeld, (by (with_reducible repeat (first | apply Kd.R_alloc | apply Kd.R_drewN | apply Kd.R_drew)); exact Kd.R_mono HO226.out (fun _ hk => ⟨hk.2, ⟨hk.1.1, ⟨hk.1.2.1, hk.1.2.2⟩⟩⟩)), (by (with_reducible repeat (first | apply Kd.R_alloc | apply Kd.R_drewN | apply Kd.R_drew)); exact Kd.R_mono HO229.out (fun _ hk => ⟨hk.1.1.2, ⟨hk.1.1.1.2, ⟨hk.1.2, hk.2⟩⟩⟩)), (by (with_reducible repeat (first | apply Kd.R_alloc | apply Kd.R_drewN | apply Kd.R_drew)); exact Kd.R_mono HO_202001.out (fun _ hk => ⟨hk.1.1, ⟨hk.2, ⟨hk.1.2.1, hk.1.2.2⟩⟩⟩)), kq, kq, kq, kq, q_I130_0_1, q_K, q_B130_0⟩)
             ·skip
              refine box_step ?hg (N := 11) ?hd (cs := #[.int .i64 0, .slice none 0 0]) (t := 36) ?hr ?_; (case hd => rfl); (case hg => rfl); (case hr => first | (go_simp; done) | (go_simp; rfl))
              intro gb233 hg w45 hbox hb
              have n0_ := Aside0.mk (Kd.R_below (q_r (HO_202001.out)) hb)
              have n1_ := Aside0.mk (Kd.R_below (q_r (HO226.out)) hb)
              have n2_ := Aside0.mk (blk_below (q_b BK200.out) hb)
              have n3_ := Aside0.mk (blk_below (q_b BK201.out) hb)
              have n4_ := Aside0.mk (IsS130.below q_I130_0_1 hb)
              have n5_ := Aside0.mk (blk_below (q_b BK215.out) hb)
              have n6_ := Aside0.mk (blk_below (q_b BK220.out) hb)
              have n7_ := Aside0.mk (KeepBut.trans q_K (KeepBut.of_below hb g none) (.inl rfl))
              have n8_ := Aside0.mk (below_step q_B130_0 hb)
              have n9_ := Aside0.mk (hbox)
              have n10_ := Aside0.mk ((by rw [hg]; exact (keep_size (w := w) (g := g) (row := none) q_K) : w.heap.size ≤ gb233))
              have n11_ := Aside0.mk ((Nat.le_trans HW0.out (by rw [hg]; exact (keep_size (w := w) (g := g) (row := none) q_K) : w.heap.size ≤ gb233) : w0.heap.size ≤ gb233))
              have n12_ := Aside0.mk ((q_n hg (q_b BK200.out) : gb200 ≠ gb233))
              have n13_ := Aside0.mk ((q_m hg (q_b BK200.out) : gb233 ≠ gb200))
              have n14_ := Aside0.mk ((q_n hg (q_b BK201.out) : gb201 ≠ gb233))
              have n15_ := Aside0.mk ((q_m hg (q_b BK201.out) : gb233 ≠ gb201))
              have n16_ := Aside0.mk ((q_n hg (q_b BK215.out) : gb215 ≠ gb233))
              have n17_ := Aside0.mk ((q_m hg (q_b BK215.out) : gb233 ≠ gb215))
              have n18_ := Aside0.mk ((q_n hg (q_b BK220.out) : gb220 ≠ gb233))
              have n19_ := Aside0.mk ((q_m hg (q_b BK220.out) : gb233 ≠ gb220))
              have n20_ := Aside0.mk ((by rw [hg]; exact Nat.ne_of_lt (IsS130.lt (show IsS130 w0 _ g s0_0 t219 from q_I130_0_1)) : g ≠ gb233))
              have n21_ := Aside0.mk ((by rw [hg]; exact Nat.ne_of_gt (IsS130.lt (show IsS130 w0 _ g s0_0 t219 from q_I130_0_1)) : gb233 ≠ g))
              clear HO_202001
              clear HO226
              clear BK200
              clear BK201
              clear HI0
              clear BK215
              clear BK220
              clear HK
              clear HB
              have HO_202001 := n0_
              have HO226 := n1_
              have BK200 := n2_
              have BK201 := n3_
              have HI0 := n4_
              have BK215 := n5_
              have BK220 := n6_
              have HK := n7_
              have HB := n8_
              have BK233 := n9_
              have GW233 := n10_
              have GE233 := n11_
              have NB200_233 := n12_
              have NB233_200 := n13_
              have NB201_233 := n14_
              have NB233_201 := n15_
              have NB215_233 := n16_
              have NB233_215 := n17_
              have NB220_233 := n18_
              have NB233_220 := n19_
              have NB0_233 := n20_
              have NB233_0 := n21_
              clear n0_ n1_ n2_ n3_ n4_ n5_ n6_ n7_ n8_ n9_ n10_ n11_ n12_ n13_ n14_ n15_ n16_ n17_ n18_ n19_ n20_ n21_
              clear hb hbox hg
              refine hK.out _ _ ⟨q_z BK201.out 0, q_z BK201.out 1, q_z BK215.out 0, q_z BK215.out 1, q_z BK215.out 2, q_z BK215.out 3, q_z BK220.out 0, q_z BK220.out 1, q_z BK220.out 2, q_z BK220.out 3⟩ (fun hHeld => ?_)
              clear hK K
              refine norm_ (a' := ?_) ?_ ?_
              rotate_left
              ·show Act.put _ (some 11) _ = _
               simp only [Act.put, List.setIfInBounds_toArray, List.set_cons_zero, List.set_cons_succ, i64_w, i32_w]
               rfl
              exact norm_ (by first | (simp only [putAll, Act.put, List.setIfInBounds_toArray, List.set_cons_zero, List.set_cons_succ]; done) | (simp only [putAll, Act.put, List.setIfInBounds_toArray, List.set_cons_zero, List.set_cons_succ]; rfl)) (hJ1_4_10 (v222, v225, gb233) _ ⟨hHeld, (q_r (HO226.out)), (q_r (HO_202001.out)), kq, kq, kq, kq, kq, GW233.out, GE233.out, NB0_233.out, NB233_0.out, NB200_233.out, NB233_200.out, NB201_233.out, NB233_201.out, NB215_233.out, NB233_215.out, NB220_233.out, NB233_220.out, q_I130_0_1, q_K, q_B130_0⟩)
           ·skip
            rintro ⟨v222, v228, gb233⟩ w46 ⟨hS_, h0_, h1_, h2_, h3_, h4_, h5_, h6_, h7_, h8_, h9_, h10_, h11_, h12_, h13_, h14_, h15_, h16_, h17_, h18_, h19_, h20_, h21_, h22_⟩
            have n0_ : Aside0 (Kd.R k89 89 w46 w.heap.size (fun k_ => some k_ ≠ (v228 : Value).ownBlock ∧ some k_ ≠ (.slice Ao38 x202001_1.length co38 : Value).ownBlock ∧ k_ ≠ gb215 ∧ k_ ≠ gb220) v222 y221) := ⟨h0_⟩
            have n1_ : Aside0 (Kd.R k89 89 w46 w.heap.size (fun k_ => some k_ ≠ (v222 : Value).ownBlock ∧ some k_ ≠ (.slice Ao38 x202001_1.length co38 : Value).ownBlock ∧ k_ ≠ gb215 ∧ k_ ≠ gb220) v228 y227) := ⟨h1_⟩
            have n2_ : Aside0 (Kd.R k89 89 w46 w.heap.size (fun k_ => some k_ ≠ (v222 : Value).ownBlock ∧ some k_ ≠ (v228 : Value).ownBlock ∧ k_ ≠ gb215 ∧ k_ ≠ gb220) (.slice Ao38 x202001_1.length co38) x202001_1) := ⟨h2_⟩
            have n3_ : Aside0 (w46.heap[gb200]? = some (.cells #[.int .i64 0, .slice none 0 0] 36 (0, 0))) := ⟨h3_⟩
            have n4_ : Aside0 (w46.heap[gb201]? = some (.cells #[.int .i64 x202000_1, .slice Ao38 x202001_1.length co38] 36 (0, 0))) := ⟨h4_⟩
            have n5_ : Aside0 (w46.heap[gb215]? = some (.cells #[.int .i64 t211, .int .i64 t213, .int .i64 t207, .int .i64 (wrap64 (-(wrap64 (1 + t209))))] 89 (0, 0))) := ⟨h5_⟩
            have n6_ : Aside0 (w46.heap[gb220]? = some (.cells #[.int .i64 t216, .int .i64 t218, .int .i64 t207, .int .i64 (wrap64 (1 + t209))] 89 (0, 0))) := ⟨h6_⟩
            have n7_ : Aside0 (w46.heap[gb233]? = some (.cells #[.int .i64 0, .slice none 0 0] 36 (0, 0))) := ⟨h7_⟩
            have n8_ : Aside0 (w.heap.size ≤ gb233) := ⟨h8_⟩
            have n9_ : Aside0 (w0.heap.size ≤ gb233) := ⟨h9_⟩
            have n10_ : Aside0 (g ≠ gb233) := ⟨h10_⟩
            have n11_ : Aside0 (gb233 ≠ g) := ⟨h11_⟩
            have n12_ : Aside0 (gb200 ≠ gb233) := ⟨h12_⟩
            have n13_ : Aside0 (gb233 ≠ gb200) := ⟨h13_⟩
            have n14_ : Aside0 (gb201 ≠ gb233) := ⟨h14_⟩
            have n15_ : Aside0 (gb233 ≠ gb201) := ⟨h15_⟩
            have n16_ : Aside0 (gb215 ≠ gb233) := ⟨h16_⟩
            have n17_ : Aside0 (gb233 ≠ gb215) := ⟨h17_⟩
            have n18_ : Aside0 (gb220 ≠ gb233) := ⟨h18_⟩
            have n19_ : Aside0 (gb233 ≠ gb220) := ⟨h19_⟩
            have n20_ : Aside0 (IsS130 w0 w46 g s0_0 t219) := ⟨h20_⟩
            have n21_ : Aside0 (KeepBut w w46 g none) := ⟨h21_⟩
            have n22_ : Aside0 (Below w0.heap.size w0 w46) := ⟨h22_⟩
            clear HO_202001
            clear BK200
            clear BK201
            clear BK215
            clear BK220
            clear HI0
            clear HK
            clear HB
            clear h0_ h1_ h2_ h3_ h4_ h5_ h6_ h7_ h8_ h9_ h10_ h11_ h12_ h13_ h14_ h15_ h16_ h17_ h18_ h19_ h20_ h21_ h22_
            have HO223 := n0_
            have HO229 := n1_
            have HO_202001 := n2_
            have BK200 := n3_
            have BK201 := n4_
            have BK215 := n5_
            have BK220 := n6_
            have BK233 := n7_
            have GW233 := n8_
            have GE233 := n9_
            have NB0_233 := n10_
            have NB233_0 := n11_
            have NB200_233 := n12_
            have NB233_200 := n13_
            have NB201_233 := n14_
            have NB233_201 := n15_
            have NB215_233 := n16_
            have NB233_215 := n17_
            have NB220_233 := n18_
            have NB233_220 := n19_
            have HI0 := n20_
            have HK := n21_
            have HB := n22_
            clear n0_ n1_ n2_ n3_ n4_ n5_ n6_ n7_ n8_ n9_ n10_ n11_ n12_ n13_ n14_ n15_ n16_ n17_ n18_ n19_ n20_ n21_ n22_
            have hHeld : w46.cell? ⟨gb201, 0, none⟩ = some (.int .i64 x202000_1) ∧ w46.cell? ⟨gb201, 1, none⟩ = some (.slice Ao38 x202001_1.length co38) ∧ w46.cell? ⟨gb215, 0, none⟩ = some (.int .i64 t211) ∧ w46.cell? ⟨gb215, 1, none⟩ = some (.int .i64 t213) ∧ w46.cell? ⟨gb215, 2, none⟩ = some (.int .i64 t207) ∧ w46.cell? ⟨gb215, 3, none⟩ = some (.int .i64 (wrap64 (-(wrap64 (1 + t209))))) ∧ w46.cell? ⟨gb220, 0, none⟩ = some (.int .i64 t216) ∧ w46.cell? ⟨gb220, 1, none⟩ = some (.int .i64 t218) ∧ w46.cell? ⟨gb220, 2, none⟩ = some (.int .i64 t207) ∧ w46.cell? ⟨gb220, 3, none⟩ = some (.int .i64 (wrap64 (1 + t209))) := hS_
            refine norm_ (a' := ?_) ?_ ?_
            rotate_left
            ·simp only [putAll, Act.put, List.setIfInBounds_toArray, List.set_cons_zero, List.set_cons_succ]
             rfl
            refine one_ (i := 4) (N := some 45) #[true, true, true, true, true, true, true, true, false, false, true, false] rfl rfl (one_of HT_.out (by kernel_rfl)) (by decide) (fun K hK => ?_)
            refine Kd.R_append_rows_step k89 w.heap.size (by rfl) (.tmp 42) (.tmp 44) 34 89 (.agg #[(.int .i64 0), (.int .i64 0), (.int .i64 0), (.int .i64 0)]) 32 rfl Try.underlying34 info89 rfl (by decide) (by omega) v222 y221 x202001_1 _ _ _ (fun k_ => some k_ ≠ (.slice Ao38 x202001_1.length co38 : Value).ownBlock ∧ some k_ ≠ (v228 : Value).ownBlock ∧ k_ ≠ gb215 ∧ k_ ≠ gb220) (fun _ => False) rfl rfl ?aO ?aR (fun _ _ h => h) (fun _ h => h.elim) ?aF (Below.refl _ _) ?aS ?aL ?_
            (case aR => repeat (first | exact (Kd.R_reads' HO_202001.out).2.2 | (with_reducible refine Kd.C_alloc ?_ _) | (with_reducible refine Kd.C_drewN ?_ _) | (with_reducible refine Kd.C_drew ?_)))
            (case aF => exact (fun k_ hk => ⟨Kd.fresh' (Kd.R_lt (q_r (HO_202001.out))) k_ hk, Kd.fresh' (Kd.R_lt (q_r (HO229.out))) k_ hk, Kd.freshB (q_b BK215.out) k_ hk, Kd.freshB (q_b BK220.out) k_ hk⟩))
            (case aO => exact (by (with_reducible repeat (first | apply Kd.R_alloc | apply Kd.R_drewN | apply Kd.R_drew)); exact Kd.R_mono HO223.out (fun _ hk => ⟨hk.2.1, ⟨hk.1, ⟨hk.2.2.1, hk.2.2.2⟩⟩⟩)))
            (case aS => exact (keep_size (w := w) (g := g) (row := none) q_K))
            (case aL => have := LMc17.out; omega)
            intro v225 w47 ho hb hg hat
            rw [← Ny224.out] at ho
            have n0_ := Aside0.mk (Kd.R_after (ok := (fun k_ => some k_ ≠ (v228 : Value).ownBlock ∧ k_ ≠ gb215 ∧ k_ ≠ gb220)) (by (with_reducible repeat (first | apply Kd.R_alloc | apply Kd.R_drewN | apply Kd.R_drew)); exact Kd.R_mono HO_202001.out (fun _ hk => ⟨⟨hk.2.1, ⟨hk.2.2.1, hk.2.2.2⟩⟩, hk.1⟩)) hg hat)
            have n1_ := Aside0.mk (blk_grown (q_b BK200.out) hg (Kd.R_ne HO223.out BK200.out (by decide)))
            have n2_ := Aside0.mk (blk_grown (q_b BK201.out) hg (Kd.R_ne HO223.out BK201.out (by decide)))
            have n3_ := Aside0.mk (IsS130.grown q_I130_0_1 hg (IsS130.own_ne HI0.out HO223.out (by decide)))
            have n4_ := Aside0.mk (blk_grown (q_b BK215.out) hg (Kd.R_away HO223.out (fun _ hk => hk.2.2.1)))
            have n5_ := Aside0.mk (blk_grown (q_b BK220.out) hg (Kd.R_away HO223.out (fun _ hk => hk.2.2.2)))
            have n6_ := Aside0.mk (Kd.R_after (ok := (fun k_ => some k_ ≠ (.slice Ao38 x202001_1.length co38 : Value).ownBlock ∧ k_ ≠ gb215 ∧ k_ ≠ gb220)) (by (with_reducible repeat (first | apply Kd.R_alloc | apply Kd.R_drewN | apply Kd.R_drew)); exact Kd.R_mono HO229.out (fun _ hk => ⟨⟨hk.2.1, ⟨hk.2.2.1, hk.2.2.2⟩⟩, hk.1⟩)) hg hat)
            have n7_ := Aside0.mk (blk_grown (q_b BK233.out) hg (Kd.R_ne HO223.out BK233.out (by decide)))
            have n8_ := Aside0.mk (below_weaken q_B130_0 HL.out hb)
            have n9_ := Aside0.mk (KeepBut.trans q_K (KeepBut.of_grown hg g) (Kd.R_base2 HO223.out))
            have n10_ := Aside0.mk (ho)
            clear HO_202001
            clear BK200
            clear BK201
            clear HI0
            clear BK215
            clear BK220
            clear HO229
            clear BK233
            clear HB
            clear HK
            clear HO223
            have HO_202001 := n0_
            have BK200 := n1_
            have BK201 := n2_
            have HI0 := n3_
            have BK215 := n4_
            have BK220 := n5_
            have HO229 := n6_
            have BK233 := n7_
            have HB := n8_
            have HK := n9_
            have HO226 := n10_
            clear n0_ n1_ n2_ n3_ n4_ n5_ n6_ n7_ n8_ n9_ n10_
            clear ho hb hg hat
            refine hK.out _ _ ⟨q_z BK201.out 0, q_z BK201.out 1, q_z BK215.out 0, q_z BK215.out 1, q_z BK215.out 2, q_z BK215.out 3, q_z BK220.out 0, q_z BK220.out 1, q_z BK220.out 2, q_z BK220.out 3⟩ (fun hHeld => ?_)
            clear hK K
            refine norm_ (a' := ?_) ?_ ?_
            rotate_left
            ·show Act.put _ (some 45) _ = _
             simp only [Act.put, List.setIfInBounds_toArray, List.set_cons_zero, List.set_cons_succ, i64_w, i32_w]
             rfl
            exact norm_ (by first | (simp only [putAll, Act.put, List.setIfInBounds_toArray, List.set_cons_zero, List.set_cons_succ]; done) | (simp only [putAll, Act.put, List.setIfInBounds_toArray, List.set_cons_zero, List.set_cons_succ]; rfl)) (hJ1_4_7_10 (v222, v225, v228, gb233) _ ⟨hHeld, (by (with_reducible repeat (first | apply Kd.R_alloc | apply Kd.R_drewN | apply Kd.R_drew)); exact Kd.R_mono HO226.out (fun _ hk => ⟨hk.2.1, ⟨hk.1, ⟨hk.2.2.1, hk.2.2.2⟩⟩⟩)), (by (with_reducible repeat (first | apply Kd.R_alloc | apply Kd.R_drewN | apply Kd.R_drew)); exact Kd.R_mono HO229.out (fun _ hk => ⟨hk.2, ⟨hk.1.1, ⟨hk.1.2.1, hk.1.2.2⟩⟩⟩)), (by (with_reducible repeat (first | apply Kd.R_alloc | apply Kd.R_drewN | apply Kd.R_drew)); exact Kd.R_mono HO_202001.out (fun _ hk => ⟨hk.2, ⟨hk.1.1, ⟨hk.1.2.1, hk.1.2.2⟩⟩⟩)), kq, kq, kq, kq, kq, GW233.out, GE233.out, NB0_233.out, NB233_0.out, NB200_233.out, NB233_200.out, NB201_233.out, NB233_201.out, NB215_233.out, NB233_215.out, NB220_233.out, NB233_220.out, q_I130_0_1, q_K, q_B130_0⟩)
          ·skip
           rintro ⟨v222, v225, gb233⟩ w45 ⟨hS_, h0_, h1_, h2_, h3_, h4_, h5_, h6_, h7_, h8_, h9_, h10_, h11_, h12_, h13_, h14_, h15_, h16_, h17_, h18_, h19_, h20_, h21_⟩
           have n0_ : Aside0 (Kd.R k89 89 w45 w.heap.size (fun k_ => some k_ ≠ (.slice Ao38 x202001_1.length co38 : Value).ownBlock ∧ k_ ≠ gb215 ∧ k_ ≠ gb220) v225 y224) := ⟨h0_⟩
           have n1_ : Aside0 (Kd.R k89 89 w45 w.heap.size (fun k_ => some k_ ≠ (v225 : Value).ownBlock ∧ k_ ≠ gb215 ∧ k_ ≠ gb220) (.slice Ao38 x202001_1.length co38) x202001_1) := ⟨h1_⟩
           have n2_ : Aside0 (w45.heap[gb200]? = some (.cells #[.int .i64 0, .slice none 0 0] 36 (0, 0))) := ⟨h2_⟩
           have n3_ : Aside0 (w45.heap[gb201]? = some (.cells #[.int .i64 x202000_1, .slice Ao38 x202001_1.length co38] 36 (0, 0))) := ⟨h3_⟩
           have n4_ : Aside0 (w45.heap[gb215]? = some (.cells #[.int .i64 t211, .int .i64 t213, .int .i64 t207, .int .i64 (wrap64 (-(wrap64 (1 + t209))))] 89 (0, 0))) := ⟨h4_⟩
           have n5_ : Aside0 (w45.heap[gb220]? = some (.cells #[.int .i64 t216, .int .i64 t218, .int .i64 t207, .int .i64 (wrap64 (1 + t209))] 89 (0, 0))) := ⟨h5_⟩
           have n6_ : Aside0 (w45.heap[gb233]? = some (.cells #[.int .i64 0, .slice none 0 0] 36 (0, 0))) := ⟨h6_⟩
           have n7_ : Aside0 (w.heap.size ≤ gb233) := ⟨h7_⟩
           have n8_ : Aside0 (w0.heap.size ≤ gb233) := ⟨h8_⟩
           have n9_ : Aside0 (g ≠ gb233) := ⟨h9_⟩
           have n10_ : Aside0 (gb233 ≠ g) := ⟨h10_⟩
           have n11_ : Aside0 (gb200 ≠ gb233) := ⟨h11_⟩
           have n12_ : Aside0 (gb233 ≠ gb200) := ⟨h12_⟩
           have n13_ : Aside0 (gb201 ≠ gb233) := ⟨h13_⟩
           have n14_ : Aside0 (gb233 ≠ gb201) := ⟨h14_⟩
           have n15_ : Aside0 (gb215 ≠ gb233) := ⟨h15_⟩
           have n16_ : Aside0 (gb233 ≠ gb215) := ⟨h16_⟩
           have n17_ : Aside0 (gb220 ≠ gb233) := ⟨h17_⟩
           have n18_ : Aside0 (gb233 ≠ gb220) := ⟨h18_⟩
           have n19_ : Aside0 (IsS130 w0 w45 g s0_0 t219) := ⟨h19_⟩
           have n20_ : Aside0 (KeepBut w w45 g none) := ⟨h20_⟩
           have n21_ : Aside0 (Below w0.heap.size w0 w45) := ⟨h21_⟩
           clear HO_202001
           clear BK200
           clear BK201
           clear BK215
           clear BK220
           clear HI0
           clear HK
           clear HB
           clear h0_ h1_ h2_ h3_ h4_ h5_ h6_ h7_ h8_ h9_ h10_ h11_ h12_ h13_ h14_ h15_ h16_ h17_ h18_ h19_ h20_ h21_
           have HO226 := n0_
           have HO_202001 := n1_
           have BK200 := n2_
           have BK201 := n3_
           have BK215 := n4_
           have BK220 := n5_
           have BK233 := n6_
           have GW233 := n7_
           have GE233 := n8_
           have NB0_233 := n9_
           have NB233_0 := n10_
           have NB200_233 := n11_
           have NB233_200 := n12_
           have NB201_233 := n13_
           have NB233_201 := n14_
           have NB215_233 := n15_
           have NB233_215 := n16_
           have NB220_233 := n17_
           have NB233_220 := n18_
           have HI0 := n19_
           have HK := n20_
           have HB := n21_
           clear n0_ n1_ n2_ n3_ n4_ n5_ n6_ n7_ n8_ n9_ n10_ n11_ n12_ n13_ n14_ n15_ n16_ n17_ n18_ n19_ n20_ n21_
           have hHeld : w45.cell? ⟨gb201, 0, none⟩ = some (.int .i64 x202000_1) ∧ w45.cell? ⟨gb201, 1, none⟩ = some (.slice Ao38 x202001_1.length co38) ∧ w45.cell? ⟨gb215, 0, none⟩ = some (.int .i64 t211) ∧ w45.cell? ⟨gb215, 1, none⟩ = some (.int .i64 t213) ∧ w45.cell? ⟨gb215, 2, none⟩ = some (.int .i64 t207) ∧ w45.cell? ⟨gb215, 3, none⟩ = some (.int .i64 (wrap64 (-(wrap64 (1 + t209))))) ∧ w45.cell? ⟨gb220, 0, none⟩ = some (.int .i64 t216) ∧ w45.cell? ⟨gb220, 1, none⟩ = some (.int .i64 t218) ∧ w45.cell? ⟨gb220, 2, none⟩ = some (.int .i64 t207) ∧ w45.cell? ⟨gb220, 3, none⟩ = some (.int .i64 (wrap64 (1 + t209))) := hS_
           refine norm_ (a' := ?_) ?_ ?_
           rotate_left
           ·simp only [putAll, Act.put, List.setIfInBounds_toArray, List.set_cons_zero, List.set_cons_succ]
            rfl
           refine one_ (i := 7) (N := some 48) #[true, true, true, true, true, true, true, true, false, false, true, false] rfl rfl (one_of HT_.out (by kernel_rfl)) (by decide) (fun K hK => ?_)
           refine Kd.R_lit_step k89 _ 89 ?hg (N := 48) ?hd (xs := ([(⟨t211, t213, t207, wrap64 (-(wrap64 (1 + t209)))⟩ : S89), (⟨t216, t218, t207, wrap64 (1 + t209)⟩ : S89)] : List (S89))) (inner := [.int .i64 t211, .int .i64 t213, .int .i64 t207, .int .i64 (wrap64 (-(wrap64 (1 + t209)))), .int .i64 t216, .int .i64 t218, .int .i64 t207, .int .i64 (wrap64 (1 + t209))]) (ok := fun _ => True) (okp := fun _ => True) ?hr ?hp (fun _ hk => hk) trivial (Below.refl _ _) (Nat.le_refl _) (by simp) ?_; (case hd => rfl); (case hg => rfl); (case hr => first | (go_simp; done) | (go_simp; rfl)); (case hp => exact (Reps.c4 (show Kd.M k89 _ _ _ (⟨t211, t213, t207, wrap64 (-(wrap64 (1 + t209)))⟩ : S89) [.int .i64 t211, .int .i64 t213, .int .i64 t207, .int .i64 (wrap64 (-(wrap64 (1 + t209))))] from (k89_mkM _ _ _ (⟨t211, t213, t207, wrap64 (-(wrap64 (1 + t209)))⟩ : S89) )) (Reps.c4 (show Kd.M k89 _ _ _ (⟨t216, t218, t207, wrap64 (1 + t209)⟩ : S89) [.int .i64 t216, .int .i64 t218, .int .i64 t207, .int .i64 (wrap64 (1 + t209))] from (k89_mkM _ _ _ (⟨t216, t218, t207, wrap64 (1 + t209)⟩ : S89) )) (Reps.none _ _))))
           intro v228 w46 ho47 hb hg_ hnew_
           clear hg_ hnew_
           (first | rw [← Ny227.out] at ho47 | (simp only [Int.reduceToNat] at ho47; rw [← Ny227.out] at ho47))
           have n0_ := Aside0.mk (Kd.R_elder' (q_r (HO_202001.out)) (Kd.R_base ho47) hb)
           have n1_ := Aside0.mk (Kd.R_elder' (q_r (HO226.out)) (Kd.R_base ho47) hb)
           have n2_ := Aside0.mk (Kd.R_lower (Kd.R_newB (Kd.R_newB (Kd.R_new' (Kd.R_new' ho47 (Kd.R_lt (q_r (HO_202001.out)))) (Kd.R_lt (q_r (HO226.out)))) (q_b BK215.out)) (q_b BK220.out)) (keep_size (w := w) (g := g) (row := none) q_K))
           have n3_ := Aside0.mk (blk_below (q_b BK200.out) hb)
           have n4_ := Aside0.mk (blk_below (q_b BK201.out) hb)
           have n5_ := Aside0.mk (IsS130.below q_I130_0_1 hb)
           have n6_ := Aside0.mk (blk_below (q_b BK215.out) hb)
           have n7_ := Aside0.mk (blk_below (q_b BK220.out) hb)
           have n8_ := Aside0.mk (blk_below (q_b BK233.out) hb)
           have n9_ := Aside0.mk (KeepBut.trans q_K (KeepBut.of_below hb g none) (.inl rfl))
           have n10_ := Aside0.mk (below_step q_B130_0 hb)
           clear HO_202001
           clear HO226
           clear BK200
           clear BK201
           clear HI0
           clear BK215
           clear BK220
           clear BK233
           clear HK
           clear HB
           have HO_202001 := n0_
           have HO226 := n1_
           have HO229 := n2_
           have BK200 := n3_
           have BK201 := n4_
           have HI0 := n5_
           have BK215 := n6_
           have BK220 := n7_
           have BK233 := n8_
           have HK := n9_
           have HB := n10_
           clear n0_ n1_ n2_ n3_ n4_ n5_ n6_ n7_ n8_ n9_ n10_
           clear hb ho47
           refine hK.out _ _ ⟨q_z BK201.out 0, q_z BK201.out 1, q_z BK215.out 0, q_z BK215.out 1, q_z BK215.out 2, q_z BK215.out 3, q_z BK220.out 0, q_z BK220.out 1, q_z BK220.out 2, q_z BK220.out 3⟩ (fun hHeld => ?_)
           clear hK K
           refine norm_ (a' := ?_) ?_ ?_
           rotate_left
           ·show Act.put _ (some 48) _ = _
            simp only [Act.put, List.setIfInBounds_toArray, List.set_cons_zero, List.set_cons_succ, i64_w, i32_w]
            rfl
           exact norm_ (by first | (simp only [putAll, Act.put, List.setIfInBounds_toArray, List.set_cons_zero, List.set_cons_succ]; done) | (simp only [putAll, Act.put, List.setIfInBounds_toArray, List.set_cons_zero, List.set_cons_succ]; rfl)) (hJ1_4_7_10 (v222, v225, v228, gb233) _ ⟨hHeld, (by (with_reducible repeat (first | apply Kd.R_alloc | apply Kd.R_drewN | apply Kd.R_drew)); exact Kd.R_mono HO226.out (fun _ hk => ⟨hk.2, ⟨hk.1.1, ⟨hk.1.2.1, hk.1.2.2⟩⟩⟩)), (by (with_reducible repeat (first | apply Kd.R_alloc | apply Kd.R_drewN | apply Kd.R_drew)); exact Kd.R_mono HO229.out (fun _ hk => ⟨hk.1.1.2, ⟨hk.1.1.1.2, ⟨hk.1.2, hk.2⟩⟩⟩)), (by (with_reducible repeat (first | apply Kd.R_alloc | apply Kd.R_drewN | apply Kd.R_drew)); exact Kd.R_mono HO_202001.out (fun _ hk => ⟨hk.1.1, ⟨hk.2, ⟨hk.1.2.1, hk.1.2.2⟩⟩⟩)), kq, kq, kq, kq, kq, GW233.out, GE233.out, NB0_233.out, NB233_0.out, NB200_233.out, NB233_200.out, NB201_233.out, NB233_201.out, NB215_233.out, NB233_215.out, NB220_233.out, NB233_220.out, q_I130_0_1, q_K, q_B130_0⟩)
         ·skip
          rintro ⟨v222, v225, v228⟩ w46 ⟨hS_, h0_, h1_, h2_, h3_, h4_, h5_, h6_, h7_, h8_, h9_⟩
          have n0_ : Aside0 (Kd.R k89 89 w46 w.heap.size (fun k_ => some k_ ≠ (v228 : Value).ownBlock ∧ some k_ ≠ (.slice Ao38 x202001_1.length co38 : Value).ownBlock ∧ k_ ≠ gb215 ∧ k_ ≠ gb220) v225 y224) := ⟨h0_⟩
          have n1_ : Aside0 (Kd.R k89 89 w46 w.heap.size (fun k_ => some k_ ≠ (v225 : Value).ownBlock ∧ some k_ ≠ (.slice Ao38 x202001_1.length co38 : Value).ownBlock ∧ k_ ≠ gb215 ∧ k_ ≠ gb220) v228 y227) := ⟨h1_⟩
          have n2_ : Aside0 (Kd.R k89 89 w46 w.heap.size (fun k_ => some k_ ≠ (v225 : Value).ownBlock ∧ some k_ ≠ (v228 : Value).ownBlock ∧ k_ ≠ gb215 ∧ k_ ≠ gb220) (.slice Ao38 x202001_1.length co38) x202001_1) := ⟨h2_⟩
          have n3_ : Aside0 (w46.heap[gb200]? = some (.cells #[.int .i64 0, .slice none 0 0] 36 (0, 0))) := ⟨h3_⟩
          have n4_ : Aside0 (w46.heap[gb201]? = some (.cells #[.int .i64 x202000_1, .slice Ao38 x202001_1.length co38] 36 (0, 0))) := ⟨h4_⟩
          have n5_ : Aside0 (w46.heap[gb215]? = some (.cells #[.int .i64 t211, .int .i64 t213, .int .i64 t207, .int .i64 (wrap64 (-(wrap64 (1 + t209))))] 89 (0, 0))) := ⟨h5_⟩
          have n6_ : Aside0 (w46.heap[gb220]? = some (.cells #[.int .i64 t216, .int .i64 t218, .int .i64 t207, .int .i64 (wrap64 (1 + t209))] 89 (0, 0))) := ⟨h6_⟩
          have n7_ : Aside0 (IsS130 w0 w46 g s0_0 t219) := ⟨h7_⟩
          have n8_ : Aside0 (KeepBut w w46 g none) := ⟨h8_⟩
          have n9_ : Aside0 (Below w0.heap.size w0 w46) := ⟨h9_⟩
          clear HO_202001
          clear BK200
          clear BK201
          clear BK215
          clear BK220
          clear HI0
          clear HK
          clear HB
          clear h0_ h1_ h2_ h3_ h4_ h5_ h6_ h7_ h8_ h9_
          have HO226 := n0_
          have HO229 := n1_
          have HO_202001 := n2_
          have BK200 := n3_
          have BK201 := n4_
          have BK215 := n5_
          have BK220 := n6_
          have HI0 := n7_
          have HK := n8_
          have HB := n9_
          clear n0_ n1_ n2_ n3_ n4_ n5_ n6_ n7_ n8_ n9_
          have hHeld : w46.cell? ⟨gb201, 0, none⟩ = some (.int .i64 x202000_1) ∧ w46.cell? ⟨gb201, 1, none⟩ = some (.slice Ao38 x202001_1.length co38) ∧ w46.cell? ⟨gb215, 0, none⟩ = some (.int .i64 t211) ∧ w46.cell? ⟨gb215, 1, none⟩ = some (.int .i64 t213) ∧ w46.cell? ⟨gb215, 2, none⟩ = some (.int .i64 t207) ∧ w46.cell? ⟨gb215, 3, none⟩ = some (.int .i64 (wrap64 (-(wrap64 (1 + t209))))) ∧ w46.cell? ⟨gb220, 0, none⟩ = some (.int .i64 t216) ∧ w46.cell? ⟨gb220, 1, none⟩ = some (.int .i64 t218) ∧ w46.cell? ⟨gb220, 2, none⟩ = some (.int .i64 t207) ∧ w46.cell? ⟨gb220, 3, none⟩ = some (.int .i64 (wrap64 (1 + t209))) := hS_
          obtain ⟨Ao48, co48, eo48⟩ := Kd.R_slice HO229.out
          (first | subst eo48 | (injection eo48 with f1_ f2_ f3_; have f4_ := f1_.symm; have f5_ := f3_.symm; clear f1_ f2_ f3_; subst f4_; subst f5_))
          refine norm_ (a' := ?_) ?_ ?_
          rotate_left
          ·simp only [putAll, Act.put, List.setIfInBounds_toArray, List.set_cons_zero, List.set_cons_succ]
           rfl
          refine two_ (i := 8) (j := 10) (Ni := some 49) (Nj := some 11) #[true, true, true, true, true, true, true, true, true, false, false, false] #[true, true, true, true, true, true, true, true, false, false, true, false] rfl rfl rfl rfl (two_of HT_.out (by kernel_rfl)) (by decide) (by decide) (fun K hK => ?_) (fun K hK => ?_)
          ·skip
           refine Kd.R_append_rows_step k89 w.heap.size (by rfl) (.tmp 45) (.tmp 48) 34 89 (.agg #[(.int .i64 0), (.int .i64 0), (.int .i64 0), (.int .i64 0)]) 32 rfl Try.underlying34 info89 rfl (by decide) (by omega) v225 y224 y227 _ _ _ (fun k_ => some k_ ≠ (.slice Ao38 x202001_1.length co38 : Value).ownBlock ∧ some k_ ≠ (.slice Ao48 y227.length co48 : Value).ownBlock ∧ k_ ≠ gb215 ∧ k_ ≠ gb220) (fun _ => False) rfl rfl ?aO ?aR (fun _ _ h => h) (fun _ h => h.elim) ?aF (Below.refl _ _) ?aS ?aL ?_
           (case aR => repeat (first | exact (Kd.R_reads' HO229.out).2.2 | (with_reducible refine Kd.C_alloc ?_ _) | (with_reducible refine Kd.C_drewN ?_ _) | (with_reducible refine Kd.C_drew ?_)))
           (case aF => exact (fun k_ hk => ⟨Kd.fresh' (Kd.R_lt (q_r (HO_202001.out))) k_ hk, Kd.fresh' (Kd.R_lt (q_r (HO229.out))) k_ hk, Kd.freshB (q_b BK215.out) k_ hk, Kd.freshB (q_b BK220.out) k_ hk⟩))
           (case aO => exact (by (with_reducible repeat (first | apply Kd.R_alloc | apply Kd.R_drewN | apply Kd.R_drew)); exact Kd.R_mono HO226.out (fun _ hk => ⟨hk.2.1, ⟨hk.1, ⟨hk.2.2.1, hk.2.2.2⟩⟩⟩)))
           (case aS => exact (keep_size (w := w) (g := g) (row := none) q_K))
           (case aL => have := LMc18.out; omega)
           intro v231 w47 ho hb hg hat
           rw [← Ny230.out] at ho
           have n0_ := Aside0.mk (Kd.R_after (ok := (fun k_ => some k_ ≠ (.slice Ao48 y227.length co48 : Value).ownBlock ∧ k_ ≠ gb215 ∧ k_ ≠ gb220)) (by (with_reducible repeat (first | apply Kd.R_alloc | apply Kd.R_drewN | apply Kd.R_drew)); exact Kd.R_mono HO_202001.out (fun _ hk => ⟨⟨hk.2.1, ⟨hk.2.2.1, hk.2.2.2⟩⟩, hk.1⟩)) hg hat)
           have n1_ := Aside0.mk (blk_grown (q_b BK200.out) hg (Kd.R_ne HO226.out BK200.out (by decide)))
           have n2_ := Aside0.mk (blk_grown (q_b BK201.out) hg (Kd.R_ne HO226.out BK201.out (by decide)))
           have n3_ := Aside0.mk (IsS130.grown q_I130_0_1 hg (IsS130.own_ne HI0.out HO226.out (by decide)))
           have n4_ := Aside0.mk (blk_grown (q_b BK215.out) hg (Kd.R_away HO226.out (fun _ hk => hk.2.2.1)))
           have n5_ := Aside0.mk (blk_grown (q_b BK220.out) hg (Kd.R_away HO226.out (fun _ hk => hk.2.2.2)))
           have n6_ := Aside0.mk (Kd.R_after (ok := (fun k_ => some k_ ≠ (.slice Ao38 x202001_1.length co38 : Value).ownBlock ∧ k_ ≠ gb215 ∧ k_ ≠ gb220)) (by (with_reducible repeat (first | apply Kd.R_alloc | apply Kd.R_drewN | apply Kd.R_drew)); exact Kd.R_mono HO229.out (fun _ hk => ⟨⟨hk.2.1, ⟨hk.2.2.1, hk.2.2.2⟩⟩, hk.1⟩)) hg hat)
           have n7_ := Aside0.mk (below_weaken q_B130_0 HL.out hb)
           have n8_ := Aside0.mk (KeepBut.trans q_K (KeepBut.of_grown hg g) (Kd.R_base2 HO226.out))
           have n9_ := Aside0.mk (ho)
           clear HO_202001
           clear BK200
           clear BK201
           clear HI0
           clear BK215
           clear BK220
           clear HO229
           clear HB
           clear HK
           clear HO226
           have HO_202001 := n0_
           have BK200 := n1_
           have BK201 := n2_
           have HI0 := n3_
           have BK215 := n4_
           have BK220 := n5_
           have HO229 := n6_
           have HB := n7_
           have HK := n8_
           have HO232 := n9_
           clear n0_ n1_ n2_ n3_ n4_ n5_ n6_ n7_ n8_ n9_
           clear ho hb hg hat
           obtain ⟨Ao49, co49, eo49⟩ := Kd.R_slice HO232.out
           (first | subst eo49 | (injection eo49 with f1_ f2_ f3_; have f4_ := f1_.symm; have f5_ := f3_.symm; clear f1_ f2_ f3_; subst f4_; subst f5_))
           refine hK.out _ _ ⟨q_z BK201.out 0, q_z BK201.out 1, q_z BK215.out 0, q_z BK215.out 1, q_z BK215.out 2, q_z BK215.out 3, q_z BK220.out 0, q_z BK220.out 1, q_z BK220.out 2, q_z BK220.out 3⟩ (fun hHeld => ?_)
           clear hK K
           refine norm_ (a' := ?_) ?_ ?_
           rotate_left
           ·show Act.put _ (some 49) _ = _
            simp only [Act.put, List.setIfInBounds_toArray, List.set_cons_zero, List.set_cons_succ, i64_w, i32_w]
            rfl
           refine q_p 9 (some 50) #[true, true, true, true, true, true, true, true, true, true, false, false] HT_.out ?_
           exact norm_ (by first | (simp only [putAll, Act.put, List.setIfInBounds_toArray, List.set_cons_zero, List.set_cons_succ]; done) | (simp only [putAll, Act.put, List.setIfInBounds_toArray, List.set_cons_zero, List.set_cons_succ]; rfl)) (hJ1_4_7_8 (v222, v225, .slice Ao48 y227.length co48, .slice Ao49 y230.length co49) _ ⟨hHeld, (by (with_reducible repeat (first | apply Kd.R_alloc | apply Kd.R_drewN | apply Kd.R_drew)); exact Kd.R_mono HO229.out (fun _ hk => ⟨hk.2, ⟨hk.1.1, ⟨hk.1.2.1, hk.1.2.2⟩⟩⟩)), (by (with_reducible repeat (first | apply Kd.R_alloc | apply Kd.R_drewN | apply Kd.R_drew)); exact Kd.R_mono HO232.out (fun _ hk => ⟨hk.2.1, ⟨hk.1, ⟨hk.2.2.1, hk.2.2.2⟩⟩⟩)), (by (with_reducible repeat (first | apply Kd.R_alloc | apply Kd.R_drewN | apply Kd.R_drew)); exact Kd.R_mono HO_202001.out (fun _ hk => ⟨hk.1.1, ⟨hk.2, ⟨hk.1.2.1, hk.1.2.2⟩⟩⟩)), kq, kq, kq, kq, q_I130_0_1, q_K, q_B130_0⟩)
          ·skip
           refine box_step ?hg (N := 11) ?hd (cs := #[.int .i64 0, .slice none 0 0]) (t := 36) ?hr ?_; (case hd => rfl); (case hg => rfl); (case hr => first | (go_simp; done) | (go_simp; rfl))
           intro gb233 hg w47 hbox hb
           have n0_ := Aside0.mk (Kd.R_below (q_r (HO_202001.out)) hb)
           have n1_ := Aside0.mk (Kd.R_below (q_r (HO226.out)) hb)
           have n2_ := Aside0.mk (Kd.R_below (q_r (HO229.out)) hb)
           have n3_ := Aside0.mk (blk_below (q_b BK200.out) hb)
           have n4_ := Aside0.mk (blk_below (q_b BK201.out) hb)
           have n5_ := Aside0.mk (IsS130.below q_I130_0_1 hb)
           have n6_ := Aside0.mk (blk_below (q_b BK215.out) hb)
           have n7_ := Aside0.mk (blk_below (q_b BK220.out) hb)
           have n8_ := Aside0.mk (KeepBut.trans q_K (KeepBut.of_below hb g none) (.inl rfl))
           have n9_ := Aside0.mk (below_step q_B130_0 hb)
           have n10_ := Aside0.mk (hbox)
           have n11_ := Aside0.mk ((by rw [hg]; exact (keep_size (w := w) (g := g) (row := none) q_K) : w.heap.size ≤ gb233))
           have n12_ := Aside0.mk ((Nat.le_trans HW0.out (by rw [hg]; exact (keep_size (w := w) (g := g) (row := none) q_K) : w.heap.size ≤ gb233) : w0.heap.size ≤ gb233))
           have n13_ := Aside0.mk ((q_n hg (q_b BK200.out) : gb200 ≠ gb233))
           have n14_ := Aside0.mk ((q_m hg (q_b BK200.out) : gb233 ≠ gb200))
           have n15_ := Aside0.mk ((q_n hg (q_b BK201.out) : gb201 ≠ gb233))
           have n16_ := Aside0.mk ((q_m hg (q_b BK201.out) : gb233 ≠ gb201))
           have n17_ := Aside0.mk ((q_n hg (q_b BK215.out) : gb215 ≠ gb233))
           have n18_ := Aside0.mk ((q_m hg (q_b BK215.out) : gb233 ≠ gb215))
           have n19_ := Aside0.mk ((q_n hg (q_b BK220.out) : gb220 ≠ gb233))
           have n20_ := Aside0.mk ((q_m hg (q_b BK220.out) : gb233 ≠ gb220))
           have n21_ := Aside0.mk ((by rw [hg]; exact Nat.ne_of_lt (IsS130.lt (show IsS130 w0 _ g s0_0 t219 from q_I130_0_1)) : g ≠ gb233))
           have n22_ := Aside0.mk ((by rw [hg]; exact Nat.ne_of_gt (IsS130.lt (show IsS130 w0 _ g s0_0 t219 from q_I130_0_1)) : gb233 ≠ g))
           clear HO_202001
           clear HO226
           clear HO229
           clear BK200
           clear BK201
           clear HI0
           clear BK215
           clear BK220
           clear HK
           clear HB
           have HO_202001 := n0_
           have HO226 := n1_
           have HO229 := n2_
           have BK200 := n3_
           have BK201 := n4_
           have HI0 := n5_
           have BK215 := n6_
           have BK220 := n7_
           have HK := n8_
           have HB := n9_
           have BK233 := n10_
           have GW233 := n11_
           have GE233 := n12_
           have NB200_233 := n13_
           have NB233_200 := n14_
           have NB201_233 := n15_
           have NB233_201 := n16_
           have NB215_233 := n17_
           have NB233_215 := n18_
           have NB220_233 := n19_
           have NB233_220 := n20_
           have NB0_233 := n21_
           have NB233_0 := n22_
           clear n0_ n1_ n2_ n3_ n4_ n5_ n6_ n7_ n8_ n9_ n10_ n11_ n12_ n13_ n14_ n15_ n16_ n17_ n18_ n19_ n20_ n21_ n22_
           clear hb hbox hg
           refine hK.out _ _ ⟨q_z BK201.out 0, q_z BK201.out 1, q_z BK215.out 0, q_z BK215.out 1, q_z BK215.out 2, q_z BK215.out 3, q_z BK220.out 0, q_z BK220.out 1, q_z BK220.out 2, q_z BK220.out 3⟩ (fun hHeld => ?_)
           clear hK K
           refine norm_ (a' := ?_) ?_ ?_
           rotate_left
           ·show Act.put _ (some 11) _ = _
            simp only [Act.put, List.setIfInBounds_toArray, List.set_cons_zero, List.set_cons_succ, i64_w, i32_w]
            rfl
           exact norm_ (by first | (simp only [putAll, Act.put, List.setIfInBounds_toArray, List.set_cons_zero, List.set_cons_succ]; done) | (simp only [putAll, Act.put, List.setIfInBounds_toArray, List.set_cons_zero, List.set_cons_succ]; rfl)) (hJ1_4_7_10 (v222, v225, (.slice Ao48 y227.length co48), gb233) _ ⟨hHeld, (q_r (HO226.out)), (q_r (HO229.out)), (q_r (HO_202001.out)), kq, kq, kq, kq, kq, GW233.out, GE233.out, NB0_233.out, NB233_0.out, NB200_233.out, NB233_200.out, NB201_233.out, NB233_201.out, NB215_233.out, NB233_215.out, NB220_233.out, NB233_220.out, q_I130_0_1, q_K, q_B130_0⟩)
        ·skip
         rintro ⟨v222, v225, v228, gb233⟩ w47 ⟨hS_, h0_, h1_, h2_, h3_, h4_, h5_, h6_, h7_, h8_, h9_, h10_, h11_, h12_, h13_, h14_, h15_, h16_, h17_, h18_, h19_, h20_, h21_, h22_⟩
         have n0_ : Aside0 (Kd.R k89 89 w47 w.heap.size (fun k_ => some k_ ≠ (v228 : Value).ownBlock ∧ some k_ ≠ (.slice Ao38 x202001_1.length co38 : Value).ownBlock ∧ k_ ≠ gb215 ∧ k_ ≠ gb220) v225 y224) := ⟨h0_⟩
         have n1_ : Aside0 (Kd.R k89 89 w47 w.heap.size (fun k_ => some k_ ≠ (v225 : Value).ownBlock ∧ some k_ ≠ (.slice Ao38 x202001_1.length co38 : Value).ownBlock ∧ k_ ≠ gb215 ∧ k_ ≠ gb220) v228 y227) := ⟨h1_⟩
         have n2_ : Aside0 (Kd.R k89 89 w47 w.heap.size (fun k_ => some k_ ≠ (v225 : Value).ownBlock ∧ some k_ ≠ (v228 : Value).ownBlock ∧ k_ ≠ gb215 ∧ k_ ≠ gb220) (.slice Ao38 x202001_1.length co38) x202001_1) := ⟨h2_⟩
         have n3_ : Aside0 (w47.heap[gb200]? = some (.cells #[.int .i64 0, .slice none 0 0] 36 (0, 0))) := ⟨h3_⟩
         have n4_ : Aside0 (w47.heap[gb201]? = some (.cells #[.int .i64 x202000_1, .slice Ao38 x202001_1.length co38] 36 (0, 0))) := ⟨h4_⟩
         have n5_ : Aside0 (w47.heap[gb215]? = some (.cells #[.int .i64 t211, .int .i64 t213, .int .i64 t207, .int .i64 (wrap64 (-(wrap64 (1 + t209))))] 89 (0, 0))) := ⟨h5_⟩
         have n6_ : Aside0 (w47.heap[gb220]? = some (.cells #[.int .i64 t216, .int .i64 t218, .int .i64 t207, .int .i64 (wrap64 (1 + t209))] 89 (0, 0))) := ⟨h6_⟩
         have n7_ : Aside0 (w47.heap[gb233]? = some (.cells #[.int .i64 0, .slice none 0 0] 36 (0, 0))) := ⟨h7_⟩
         have n8_ : Aside0 (w.heap.size ≤ gb233) := ⟨h8_⟩
         have n9_ : Aside0 (w0.heap.size ≤ gb233) := ⟨h9_⟩
         have n10_ : Aside0 (g ≠ gb233) := ⟨h10_⟩
         have n11_ : Aside0 (gb233 ≠ g) := ⟨h11_⟩
         have n12_ : Aside0 (gb200 ≠ gb233) := ⟨h12_⟩
         have n13_ : Aside0 (gb233 ≠ gb200) := ⟨h13_⟩
         have n14_ : Aside0 (gb201 ≠ gb233) := ⟨h14_⟩
         have n15_ : Aside0 (gb233 ≠ gb201) := ⟨h15_⟩
         have n16_ : Aside0 (gb215 ≠ gb233) := ⟨h16_⟩
         have n17_ : Aside0 (gb233 ≠ gb215) := ⟨h17_⟩
         have n18_ : Aside0 (gb220 ≠ gb233) := ⟨h18_⟩
         have n19_ : Aside0 (gb233 ≠ gb220) := ⟨h19_⟩
         have n20_ : Aside0 (IsS130 w0 w47 g s0_0 t219) := ⟨h20_⟩
         have n21_ : Aside0 (KeepBut w w47 g none) := ⟨h21_⟩
         have n22_ : Aside0 (Below w0.heap.size w0 w47) := ⟨h22_⟩
         clear HO_202001
         clear BK200
         clear BK201
         clear BK215
         clear BK220
         clear HI0
         clear HK
         clear HB
         clear h0_ h1_ h2_ h3_ h4_ h5_ h6_ h7_ h8_ h9_ h10_ h11_ h12_ h13_ h14_ h15_ h16_ h17_ h18_ h19_ h20_ h21_ h22_
         have HO226 := n0_
         have HO229 := n1_
         have HO_202001 := n2_
         have BK200 := n3_
         have BK201 := n4_
         have BK215 := n5_
         have BK220 := n6_
         have BK233 := n7_
         have GW233 := n8_
         have GE233 := n9_
         have NB0_233 := n10_
         have NB233_0 := n11_
         have NB200_233 := n12_
         have NB233_200 := n13_
         have NB201_233 := n14_
         have NB233_201 := n15_
         have NB215_233 := n16_
         have NB233_215 := n17_
         have NB220_233 := n18_
         have NB233_220 := n19_
         have HI0 := n20_
         have HK := n21_
         have HB := n22_
         clear n0_ n1_ n2_ n3_ n4_ n5_ n6_ n7_ n8_ n9_ n10_ n11_ n12_ n13_ n14_ n15_ n16_ n17_ n18_ n19_ n20_ n21_ n22_
         have hHeld : w47.cell? ⟨gb201, 0, none⟩ = some (.int .i64 x202000_1) ∧ w47.cell? ⟨gb201, 1, none⟩ = some (.slice Ao38 x202001_1.length co38) ∧ w47.cell? ⟨gb215, 0, none⟩ = some (.int .i64 t211) ∧ w47.cell? ⟨gb215, 1, none⟩ = some (.int .i64 t213) ∧ w47.cell? ⟨gb215, 2, none⟩ = some (.int .i64 t207) ∧ w47.cell? ⟨gb215, 3, none⟩ = some (.int .i64 (wrap64 (-(wrap64 (1 + t209))))) ∧ w47.cell? ⟨gb220, 0, none⟩ = some (.int .i64 t216) ∧ w47.cell? ⟨gb220, 1, none⟩ = some (.int .i64 t218) ∧ w47.cell? ⟨gb220, 2, none⟩ = some (.int .i64 t207) ∧ w47.cell? ⟨gb220, 3, none⟩ = some (.int .i64 (wrap64 (1 + t209))) := hS_
         obtain ⟨Ao49, co49, eo49⟩ := Kd.R_slice HO229.out
         (first | subst eo49 | (injection eo49 with f1_ f2_ f3_; have f4_ := f1_.symm; have f5_ := f3_.symm; clear f1_ f2_ f3_; subst f4_; subst f5_))
         refine norm_ (a' := ?_) ?_ ?_
         rotate_left
         ·simp only [putAll, Act.put, List.setIfInBounds_toArray, List.set_cons_zero, List.set_cons_succ]
          rfl
         refine one_ (i := 8) (N := some 49) #[true, true, true, true, true, true, true, true, true, false, true, false] rfl rfl (one_of HT_.out (by kernel_rfl)) (by decide) (fun K hK => ?_)
         refine Kd.R_append_rows_step k89 w.heap.size (by rfl) (.tmp 45) (.tmp 48) 34 89 (.agg #[(.int .i64 0), (.int .i64 0), (.int .i64 0), (.int .i64 0)]) 32 rfl Try.underlying34 info89 rfl (by decide) (by omega) v225 y224 y227 _ _ _ (fun k_ => some k_ ≠ (.slice Ao38 x202001_1.length co38 : Value).ownBlock ∧ some k_ ≠ (.slice Ao49 y227.length co49 : Value).ownBlock ∧ k_ ≠ gb215 ∧ k_ ≠ gb220) (fun _ => False) rfl rfl ?aO ?aR (fun _ _ h => h) (fun _ h => h.elim) ?aF (Below.refl _ _) ?aS ?aL ?_
         (case aR => repeat (first | exact (Kd.R_reads' HO229.out).2.2 | (with_reducible refine Kd.C_alloc ?_ _) | (with_reducible refine Kd.C_drewN ?_ _) | (with_reducible refine Kd.C_drew ?_)))
         (case aF => exact (fun k_ hk => ⟨Kd.fresh' (Kd.R_lt (q_r (HO_202001.out))) k_ hk, Kd.fresh' (Kd.R_lt (q_r (HO229.out))) k_ hk, Kd.freshB (q_b BK215.out) k_ hk, Kd.freshB (q_b BK220.out) k_ hk⟩))
         (case aO => exact (by (with_reducible repeat (first | apply Kd.R_alloc | apply Kd.R_drewN | apply Kd.R_drew)); exact Kd.R_mono HO226.out (fun _ hk => ⟨hk.2.1, ⟨hk.1, ⟨hk.2.2.1, hk.2.2.2⟩⟩⟩)))
         (case aS => exact (keep_size (w := w) (g := g) (row := none) q_K))
         (case aL => have := LMc18.out; omega)
         intro v231 w48 ho hb hg hat
         rw [← Ny230.out] at ho
         have n0_ := Aside0.mk (Kd.R_after (ok := (fun k_ => some k_ ≠ (.slice Ao49 y227.length co49 : Value).ownBlock ∧ k_ ≠ gb215 ∧ k_ ≠ gb220)) (by (with_reducible repeat (first | apply Kd.R_alloc | apply Kd.R_drewN | apply Kd.R_drew)); exact Kd.R_mono HO_202001.out (fun _ hk => ⟨⟨hk.2.1, ⟨hk.2.2.1, hk.2.2.2⟩⟩, hk.1⟩)) hg hat)
         have n1_ := Aside0.mk (blk_grown (q_b BK200.out) hg (Kd.R_ne HO226.out BK200.out (by decide)))
         have n2_ := Aside0.mk (blk_grown (q_b BK201.out) hg (Kd.R_ne HO226.out BK201.out (by decide)))
         have n3_ := Aside0.mk (IsS130.grown q_I130_0_1 hg (IsS130.own_ne HI0.out HO226.out (by decide)))
         have n4_ := Aside0.mk (blk_grown (q_b BK215.out) hg (Kd.R_away HO226.out (fun _ hk => hk.2.2.1)))
         have n5_ := Aside0.mk (blk_grown (q_b BK220.out) hg (Kd.R_away HO226.out (fun _ hk => hk.2.2.2)))
         have n6_ := Aside0.mk (Kd.R_after (ok := (fun k_ => some k_ ≠ (.slice Ao38 x202001_1.length co38 : Value).ownBlock ∧ k_ ≠ gb215 ∧ k_ ≠ gb220)) (by (with_reducible repeat (first | apply Kd.R_alloc | apply Kd.R_drewN | apply Kd.R_drew)); exact Kd.R_mono HO229.out (fun _ hk => ⟨⟨hk.2.1, ⟨hk.2.2.1, hk.2.2.2⟩⟩, hk.1⟩)) hg hat)
         have n7_ := Aside0.mk (blk_grown (q_b BK233.out) hg (Kd.R_ne HO226.out BK233.out (by decide)))
         have n8_ := Aside0.mk (below_weaken q_B130_0 HL.out hb)
         have n9_ := Aside0.mk (KeepBut.trans q_K (KeepBut.of_grown hg g) (Kd.R_base2 HO226.out))
         have n10_ := Aside0.mk (ho)
         clear HO_202001
         clear BK200
         clear BK201
         clear HI0
         clear BK215
         clear BK220
         clear HO229
         clear BK233
         clear HB
         clear HK
         clear HO226
         have HO_202001 := n0_
         have BK200 := n1_
         have BK201 := n2_
         have HI0 := n3_
         have BK215 := n4_
         have BK220 := n5_
         have HO229 := n6_
         have BK233 := n7_
         have HB := n8_
         have HK := n9_
         have HO232 := n10_
         clear n0_ n1_ n2_ n3_ n4_ n5_ n6_ n7_ n8_ n9_ n10_
         clear ho hb hg hat
         obtain ⟨Ao50, co50, eo50⟩ := Kd.R_slice HO232.out
         (first | subst eo50 | (injection eo50 with f1_ f2_ f3_; have f4_ := f1_.symm; have f5_ := f3_.symm; clear f1_ f2_ f3_; subst f4_; subst f5_))
         refine hK.out _ _ ⟨q_z BK201.out 0, q_z BK201.out 1, q_z BK215.out 0, q_z BK215.out 1, q_z BK215.out 2, q_z BK215.out 3, q_z BK220.out 0, q_z BK220.out 1, q_z BK220.out 2, q_z BK220.out 3⟩ (fun hHeld => ?_)
         clear hK K
         refine norm_ (a' := ?_) ?_ ?_
         rotate_left
         ·show Act.put _ (some 49) _ = _
          simp only [Act.put, List.setIfInBounds_toArray, List.set_cons_zero, List.set_cons_succ, i64_w, i32_w]
          rfl
         refine q_p 9 (some 50) #[true, true, true, true, true, true, true, true, true, true, true, false] HT_.out ?_
         exact norm_ (by first | (simp only [putAll, Act.put, List.setIfInBounds_toArray, List.set_cons_zero, List.set_cons_succ]; done) | (simp only [putAll, Act.put, List.setIfInBounds_toArray, List.set_cons_zero, List.set_cons_succ]; rfl)) (hJ1_4_7_8_10 (v222, v225, .slice Ao49 y227.length co49, .slice Ao50 y230.length co50, gb233) _ ⟨hHeld, (by (with_reducible repeat (first | apply Kd.R_alloc | apply Kd.R_drewN | apply Kd.R_drew)); exact Kd.R_mono HO229.out (fun _ hk => ⟨hk.2, ⟨hk.1.1, ⟨hk.1.2.1, hk.1.2.2⟩⟩⟩)), (by (with_reducible repeat (first | apply Kd.R_alloc | apply Kd.R_drewN | apply Kd.R_drew)); exact Kd.R_mono HO232.out (fun _ hk => ⟨hk.2.1, ⟨hk.1, ⟨hk.2.2.1, hk.2.2.2⟩⟩⟩)), (by (with_reducible repeat (first | apply Kd.R_alloc | apply Kd.R_drewN | apply Kd.R_drew)); exact Kd.R_mono HO_202001.out (fun _ hk => ⟨hk.1.1, ⟨hk.2, ⟨hk.1.2.1, hk.1.2.2⟩⟩⟩)), kq, kq, kq, kq, kq, GW233.out, GE233.out, NB0_233.out, NB233_0.out, NB200_233.out, NB233_200.out, NB201_233.out, NB233_201.out, NB215_233.out, NB233_215.out, NB220_233.out, NB233_220.out, q_I130_0_1, q_K, q_B130_0⟩)
       ·skip
        rintro ⟨v222, v225, v228, v231⟩ w49 ⟨hS_, h0_, h1_, h2_, h3_, h4_, h5_, h6_, h7_, h8_, h9_⟩
        have n0_ : Aside0 (Kd.R k89 89 w49 w.heap.size (fun k_ => some k_ ≠ (v231 : Value).ownBlock ∧ some k_ ≠ (.slice Ao38 x202001_1.length co38 : Value).ownBlock ∧ k_ ≠ gb215 ∧ k_ ≠ gb220) v228 y227) := ⟨h0_⟩
        have n1_ : Aside0 (Kd.R k89 89 w49 w.heap.size (fun k_ => some k_ ≠ (v228 : Value).ownBlock ∧ some k_ ≠ (.slice Ao38 x202001_1.length co38 : Value).ownBlock ∧ k_ ≠ gb215 ∧ k_ ≠ gb220) v231 y230) := ⟨h1_⟩
        have n2_ : Aside0 (Kd.R k89 89 w49 w.heap.size (fun k_ => some k_ ≠ (v228 : Value).ownBlock ∧ some k_ ≠ (v231 : Value).ownBlock ∧ k_ ≠ gb215 ∧ k_ ≠ gb220) (.slice Ao38 x202001_1.length co38) x202001_1) := ⟨h2_⟩
        have n3_ : Aside0 (w49.heap[gb200]? = some (.cells #[.int .i64 0, .slice none 0 0] 36 (0, 0))) := ⟨h3_⟩
        have n4_ : Aside0 (w49.heap[gb201]? = some (.cells #[.int .i64 x202000_1, .slice Ao38 x202001_1.length co38] 36 (0, 0))) := ⟨h4_⟩
        have n5_ : Aside0 (w49.heap[gb215]? = some (.cells #[.int .i64 t211, .int .i64 t213, .int .i64 t207, .int .i64 (wrap64 (-(wrap64 (1 + t209))))] 89 (0, 0))) := ⟨h5_⟩
        have n6_ : Aside0 (w49.heap[gb220]? = some (.cells #[.int .i64 t216, .int .i64 t218, .int .i64 t207, .int .i64 (wrap64 (1 + t209))] 89 (0, 0))) := ⟨h6_⟩
        have n7_ : Aside0 (IsS130 w0 w49 g s0_0 t219) := ⟨h7_⟩
        have n8_ : Aside0 (KeepBut w w49 g none) := ⟨h8_⟩
        have n9_ : Aside0 (Below w0.heap.size w0 w49) := ⟨h9_⟩
        clear HO_202001
        clear BK200
        clear BK201
        clear BK215
        clear BK220
        clear HI0
        clear HK
        clear HB
        clear h0_ h1_ h2_ h3_ h4_ h5_ h6_ h7_ h8_ h9_
        have HO229 := n0_
        have HO232 := n1_
        have HO_202001 := n2_
        have BK200 := n3_
        have BK201 := n4_
        have BK215 := n5_
        have BK220 := n6_
        have HI0 := n7_
        have HK := n8_
        have HB := n9_
        clear n0_ n1_ n2_ n3_ n4_ n5_ n6_ n7_ n8_ n9_
        have hHeld : w49.cell? ⟨gb201, 0, none⟩ = some (.int .i64 x202000_1) ∧ w49.cell? ⟨gb201, 1, none⟩ = some (.slice Ao38 x202001_1.length co38) ∧ w49.cell? ⟨gb215, 0, none⟩ = some (.int .i64 t211) ∧ w49.cell? ⟨gb215, 1, none⟩ = some (.int .i64 t213) ∧ w49.cell? ⟨gb215, 2, none⟩ = some (.int .i64 t207) ∧ w49.cell? ⟨gb215, 3, none⟩ = some (.int .i64 (wrap64 (-(wrap64 (1 + t209))))) ∧ w49.cell? ⟨gb220, 0, none⟩ = some (.int .i64 t216) ∧ w49.cell? ⟨gb220, 1, none⟩ = some (.int .i64 t218) ∧ w49.cell? ⟨gb220, 2, none⟩ = some (.int .i64 t207) ∧ w49.cell? ⟨gb220, 3, none⟩ = some (.int .i64 (wrap64 (1 + t209))) := hS_
        obtain ⟨Ao50, co50, eo50⟩ := Kd.R_slice HO232.out
        (first | subst eo50 | (injection eo50 with f1_ f2_ f3_; have f4_ := f1_.symm; have f5_ := f3_.symm; clear f1_ f2_ f3_; subst f4_; subst f5_))
        refine norm_ (a' := ?_) ?_ ?_
        rotate_left
        ·simp only [putAll, Act.put, List.setIfInBounds_toArray, List.set_cons_zero, List.set_cons_succ]
         rfl
        refine one_ (i := 10) (N := some 11) #[true, true, true, true, true, true, true, true, true, true, true, false] rfl rfl (one_of HT_.out (by kernel_rfl)) (by decide) (fun K hK => ?_)
        refine box_step ?hg (N := 11) ?hd (cs := #[.int .i64 0, .slice none 0 0]) (t := 36) ?hr ?_; (case hd => rfl); (case hg => rfl); (case hr => first | (go_simp; done) | (go_simp; rfl))
        intro gb233 hg w51 hbox hb
        have n0_ := Aside0.mk (Kd.R_below (q_r (HO_202001.out)) hb)
        have n1_ := Aside0.mk (Kd.R_below (q_r (HO229.out)) hb)
        have n2_ := Aside0.mk (Kd.R_below (q_r (HO232.out)) hb)
        have n3_ := Aside0.mk (blk_below (q_b BK200.out) hb)
        have n4_ := Aside0.mk (blk_below (q_b BK201.out) hb)
        have n5_ := Aside0.mk (IsS130.below q_I130_0_1 hb)
        have n6_ := Aside0.mk (blk_below (q_b BK215.out) hb)
        have n7_ := Aside0.mk (blk_below (q_b BK220.out) hb)
        have n8_ := Aside0.mk (KeepBut.trans q_K (KeepBut.of_below hb g none) (.inl rfl))
        have n9_ := Aside0.mk (below_step q_B130_0 hb)
        have n10_ := Aside0.mk (hbox)
        have n11_ := Aside0.mk ((by rw [hg]; exact (keep_size (w := w) (g := g) (row := none) q_K) : w.heap.size ≤ gb233))
        have n12_ := Aside0.mk ((Nat.le_trans HW0.out (by rw [hg]; exact (keep_size (w := w) (g := g) (row := none) q_K) : w.heap.size ≤ gb233) : w0.heap.size ≤ gb233))
        have n13_ := Aside0.mk ((q_n hg (q_b BK200.out) : gb200 ≠ gb233))
        have n14_ := Aside0.mk ((q_m hg (q_b BK200.out) : gb233 ≠ gb200))
        have n15_ := Aside0.mk ((q_n hg (q_b BK201.out) : gb201 ≠ gb233))
        have n16_ := Aside0.mk ((q_m hg (q_b BK201.out) : gb233 ≠ gb201))
        have n17_ := Aside0.mk ((q_n hg (q_b BK215.out) : gb215 ≠ gb233))
        have n18_ := Aside0.mk ((q_m hg (q_b BK215.out) : gb233 ≠ gb215))
        have n19_ := Aside0.mk ((q_n hg (q_b BK220.out) : gb220 ≠ gb233))
        have n20_ := Aside0.mk ((q_m hg (q_b BK220.out) : gb233 ≠ gb220))
        have n21_ := Aside0.mk ((by rw [hg]; exact Nat.ne_of_lt (IsS130.lt (show IsS130 w0 _ g s0_0 t219 from q_I130_0_1)) : g ≠ gb233))
        have n22_ := Aside0.mk ((by rw [hg]; exact Nat.ne_of_gt (IsS130.lt (show IsS130 w0 _ g s0_0 t219 from q_I130_0_1)) : gb233 ≠ g))
        clear HO_202001
        clear HO229
        clear HO232
        clear BK200
        clear BK201
        clear HI0
        clear BK215
        clear BK220
        clear HK
        clear HB
        have HO_202001 := n0_
        have HO229 := n1_
        have HO232 := n2_
        have BK200 := n3_
        have BK201 := n4_
        have HI0 := n5_
        have BK215 := n6_
        have BK220 := n7_
        have HK := n8_
        have HB := n9_
        have BK233 := n10_
        have GW233 := n11_
        have GE233 := n12_
        have NB200_233 := n13_
        have NB233_200 := n14_
        have NB201_233 := n15_
        have NB233_201 := n16_
        have NB215_233 := n17_
        have NB233_215 := n18_
        have NB220_233 := n19_
        have NB233_220 := n20_
        have NB0_233 := n21_
        have NB233_0 := n22_
        clear n0_ n1_ n2_ n3_ n4_ n5_ n6_ n7_ n8_ n9_ n10_ n11_ n12_ n13_ n14_ n15_ n16_ n17_ n18_ n19_ n20_ n21_ n22_
        clear hb hbox hg
        refine hK.out _ _ ⟨q_z BK201.out 0, q_z BK201.out 1, q_z BK215.out 0, q_z BK215.out 1, q_z BK215.out 2, q_z BK215.out 3, q_z BK220.out 0, q_z BK220.out 1, q_z BK220.out 2, q_z BK220.out 3⟩ (fun hHeld => ?_)
        clear hK K
        refine norm_ (a' := ?_) ?_ ?_
        rotate_left
        ·show Act.put _ (some 11) _ = _
         simp only [Act.put, List.setIfInBounds_toArray, List.set_cons_zero, List.set_cons_succ, i64_w, i32_w]
         rfl
        exact norm_ (by first | (simp only [putAll, Act.put, List.setIfInBounds_toArray, List.set_cons_zero, List.set_cons_succ]; done) | (simp only [putAll, Act.put, List.setIfInBounds_toArray, List.set_cons_zero, List.set_cons_succ]; rfl)) (hJ1_4_7_8_10 (v222, v225, v228, .slice Ao50 y230.length co50, gb233) _ ⟨hHeld, (q_r (HO229.out)), (q_r (HO232.out)), (q_r (HO_202001.out)), kq, kq, kq, kq, kq, GW233.out, GE233.out, NB0_233.out, NB233_0.out, NB200_233.out, NB233_200.out, NB201_233.out, NB233_201.out, NB215_233.out, NB233_215.out, NB220_233.out, NB233_220.out, q_I130_0_1, q_K, q_B130_0⟩)
      rintro ⟨v222, v225, v228, v231, gb233⟩ w50 ⟨hS_, h0_, h1_, h2_, h3_, h4_, h5_, h6_, h7_, h8_, h9_, h10_, h11_, h12_, h13_, h14_, h15_, h16_, h17_, h18_, h19_, h20_, h21_, h22_⟩
      have n0_ : Aside0 (Kd.R k89 89 w50 w.heap.size (fun k_ => some k_ ≠ (v231 : Value).ownBlock ∧ some k_ ≠ (.slice Ao38 x202001_1.length co38 : Value).ownBlock ∧ k_ ≠ gb215 ∧ k_ ≠ gb220) v228 y227) := ⟨h0_⟩
      have n1_ : Aside0 (Kd.R k89 89 w50 w.heap.size (fun k_ => some k_ ≠ (v228 : Value).ownBlock ∧ some k_ ≠ (.slice Ao38 x202001_1.length co38 : Value).ownBlock ∧ k_ ≠ gb215 ∧ k_ ≠ gb220) v231 y230) := ⟨h1_⟩
      have n2_ : Aside0 (Kd.R k89 89 w50 w.heap.size (fun k_ => some k_ ≠ (v228 : Value).ownBlock ∧ some k_ ≠ (v231 : Value).ownBlock ∧ k_ ≠ gb215 ∧ k_ ≠ gb220) (.slice Ao38 x202001_1.length co38) x202001_1) := ⟨h2_⟩
      have n3_ : Aside0 (w50.heap[gb200]? = some (.cells #[.int .i64 0, .slice none 0 0] 36 (0, 0))) := ⟨h3_⟩
      have n4_ : Aside0 (w50.heap[gb201]? = some (.cells #[.int .i64 x202000_1, .slice Ao38 x202001_1.length co38] 36 (0, 0))) := ⟨h4_⟩
      have n5_ : Aside0 (w50.heap[gb215]? = some (.cells #[.int .i64 t211, .int .i64 t213, .int .i64 t207, .int .i64 (wrap64 (-(wrap64 (1 + t209))))] 89 (0, 0))) := ⟨h5_⟩
      have n6_ : Aside0 (w50.heap[gb220]? = some (.cells #[.int .i64 t216, .int .i64 t218, .int .i64 t207, .int .i64 (wrap64 (1 + t209))] 89 (0, 0))) := ⟨h6_⟩
      have n7_ : Aside0 (w50.heap[gb233]? = some (.cells #[.int .i64 0, .slice none 0 0] 36 (0, 0))) := ⟨h7_⟩
      have n8_ : Aside0 (w.heap.size ≤ gb233) := ⟨h8_⟩
      have n9_ : Aside0 (w0.heap.size ≤ gb233) := ⟨h9_⟩
      have n10_ : Aside0 (g ≠ gb233) := ⟨h10_⟩
      have n11_ : Aside0 (gb233 ≠ g) := ⟨h11_⟩
      have n12_ : Aside0 (gb200 ≠ gb233) := ⟨h12_⟩
      have n13_ : Aside0 (gb233 ≠ gb200) := ⟨h13_⟩
      have n14_ : Aside0 (gb201 ≠ gb233) := ⟨h14_⟩
      have n15_ : Aside0 (gb233 ≠ gb201) := ⟨h15_⟩
      have n16_ : Aside0 (gb215 ≠ gb233) := ⟨h16_⟩
      have n17_ : Aside0 (gb233 ≠ gb215) := ⟨h17_⟩
      have n18_ : Aside0 (gb220 ≠ gb233) := ⟨h18_⟩
      have n19_ : Aside0 (gb233 ≠ gb220) := ⟨h19_⟩
      have n20_ : Aside0 (IsS130 w0 w50 g s0_0 t219) := ⟨h20_⟩
      have n21_ : Aside0 (KeepBut w w50 g none) := ⟨h21_⟩
      have n22_ : Aside0 (Below w0.heap.size w0 w50) := ⟨h22_⟩
      clear HO_202001
      clear BK200
      clear BK201
      clear BK215
      clear BK220
      clear HI0
      clear HK
      clear HB
      clear h0_ h1_ h2_ h3_ h4_ h5_ h6_ h7_ h8_ h9_ h10_ h11_ h12_ h13_ h14_ h15_ h16_ h17_ h18_ h19_ h20_ h21_ h22_
      have HO229 := n0_
      have HO232 := n1_
      have HO_202001 := n2_
      have BK200 := n3_
      have BK201 := n4_
      have BK215 := n5_
      have BK220 := n6_
      have BK233 := n7_
      have GW233 := n8_
      have GE233 := n9_
      have NB0_233 := n10_
      have NB233_0 := n11_
      have NB200_233 := n12_
      have NB233_200 := n13_
      have NB201_233 := n14_
      have NB233_201 := n15_
      have NB215_233 := n16_
      have NB233_215 := n17_
      have NB220_233 := n18_
      have NB233_220 := n19_
      have HI0 := n20_
      have HK := n21_
      have HB := n22_
      clear n0_ n1_ n2_ n3_ n4_ n5_ n6_ n7_ n8_ n9_ n10_ n11_ n12_ n13_ n14_ n15_ n16_ n17_ n18_ n19_ n20_ n21_ n22_
      have hHeld : w50.cell? ⟨gb201, 0, none⟩ = some (.int .i64 x202000_1) ∧ w50.cell? ⟨gb201, 1, none⟩ = some (.slice Ao38 x202001_1.length co38) ∧ w50.cell? ⟨gb215, 0, none⟩ = some (.int .i64 t211) ∧ w50.cell? ⟨gb215, 1, none⟩ = some (.int .i64 t213) ∧ w50.cell? ⟨gb215, 2, none⟩ = some (.int .i64 t207) ∧ w50.cell? ⟨gb215, 3, none⟩ = some (.int .i64 (wrap64 (-(wrap64 (1 + t209))))) ∧ w50.cell? ⟨gb220, 0, none⟩ = some (.int .i64 t216) ∧ w50.cell? ⟨gb220, 1, none⟩ = some (.int .i64 t218) ∧ w50.cell? ⟨gb220, 2, none⟩ = some (.int .i64 t207) ∧ w50.cell? ⟨gb220, 3, none⟩ = some (.int .i64 (wrap64 (1 + t209))) := hS_
      obtain ⟨Ao51, co51, eo51⟩ := Kd.R_slice HO232.out
      (first | subst eo51 | (injection eo51 with f1_ f2_ f3_; have f4_ := f1_.symm; have f5_ := f3_.symm; clear f1_ f2_ f3_; subst f4_; subst f5_))
      refine norm_ (a' := ?_) ?_ ?_
      rotate_left
      ·simp only [putAll, Act.put, List.setIfInBounds_toArray, List.set_cons_zero, List.set_cons_succ]
       rfl
      refine one_ (i := 11) (N := none) #[true, true, true, true, true, true, true, true, true, true, true, true] rfl rfl (one_of HT_.out (by kernel_rfl)) (by decide) (fun K hK => ?_)
      have hs52 : w50.cell? ⟨gb233, 0, none⟩ = some (.int .i64 0) := (blk_cell BK233.out 0).trans rfl
      have hfs52 := blk_frozen BK233.out 0
      have hns52_0 := NB200_233.out
      have hns52_1 := NB201_233.out
      have hns52_2 := NB215_233.out
      have hns52_3 := NB220_233.out
      have hms52_0 := NB233_200.out
      have hms52_1 := NB233_201.out
      have hms52_2 := NB233_215.out
      have hms52_3 := NB233_220.out
      have hs53 : w50.cell? ⟨gb233, 1, none⟩ = some (.slice none 0 0) := (blk_cell BK233.out 1).trans rfl
      have hfs53 := blk_frozen BK233.out 1
      have hns53_0 := NB200_233.out
      have hns53_1 := NB201_233.out
      have hns53_2 := NB215_233.out
      have hns53_3 := NB220_233.out
      have hms53_0 := NB233_200.out
      have hms53_1 := NB233_201.out
      have hms53_2 := NB233_215.out
      have hms53_3 := NB233_220.out
      refine skip_ (w1 := ?_) (by rfl) rfl ?_ ?_
      rotate_left
      ·go_simp
       rfl
      refine hK.out _ _ ⟨((cell_far (p := ⟨gb233, _, none⟩) NB201_233.out _).trans (((cell_far (p := ⟨gb233, _, none⟩) NB201_233.out _).trans (hHeld.1)))), ((cell_far (p := ⟨gb233, _, none⟩) NB201_233.out _).trans (((cell_far (p := ⟨gb233, _, none⟩) NB201_233.out _).trans (hHeld.2.1)))), ((cell_far (p := ⟨gb233, _, none⟩) NB215_233.out _).trans (((cell_far (p := ⟨gb233, _, none⟩) NB215_233.out _).trans (hHeld.2.2.1)))), ((cell_far (p := ⟨gb233, _, none⟩) NB215_233.out _).trans (((cell_far (p := ⟨gb233, _, none⟩) NB215_233.out _).trans (hHeld.2.2.2.1)))), ((cell_far (p := ⟨gb233, _, none⟩) NB215_233.out _).trans (((cell_far (p := ⟨gb233, _, none⟩) NB215_233.out _).trans (hHeld.2.2.2.2.1)))), ((cell_far (p := ⟨gb233, _, none⟩) NB215_233.out _).trans (((cell_far (p := ⟨gb233, _, none⟩) NB215_233.out _).trans (hHeld.2.2.2.2.2.1)))), ((cell_far (p := ⟨gb233, _, none⟩) NB220_233.out _).trans (((cell_far (p := ⟨gb233, _, none⟩) NB220_233.out _).trans (hHeld.2.2.2.2.2.2.1)))), ((cell_far (p := ⟨gb233, _, none⟩) NB220_233.out _).trans (((cell_far (p := ⟨gb233, _, none⟩) NB220_233.out _).trans (hHeld.2.2.2.2.2.2.2.1)))), ((cell_far (p := ⟨gb233, _, none⟩) NB220_233.out _).trans (((cell_far (p := ⟨gb233, _, none⟩) NB220_233.out _).trans (hHeld.2.2.2.2.2.2.2.2.1)))), ((cell_far (p := ⟨gb233, _, none⟩) NB220_233.out _).trans (((cell_far (p := ⟨gb233, _, none⟩) NB220_233.out _).trans (hHeld.2.2.2.2.2.2.2.2.2))))⟩ (fun hHeld => ?_)
      clear hK K
      refine done_ (done_of HT_.out (by kernel_rfl)) ?_
      have H := HQ_.out
      clear HQ_
      by_cases c20 : t234 = 0
      ·rw [if_pos c20] at H
       have c20b0 : (t234 == 0) = true := beq_iff_eq.mpr c20
       have c20b1 : (t234 != 0) = false := bne_eq_false_iff_eq.mpr c20
       clear c20
       have H' := Aside0.mk H
       clear H
       have hnb54 := NB233_200.out
       have hnc54 := NB200_233.out
       have hnb55 := NB233_201.out
       have hnc55 := NB201_233.out
       have hnb56 := NB233_215.out
       have hnc56 := NB215_233.out
       have hnb57 := NB233_220.out
       have hnc57 := NB220_233.out
       have hnb58 := NB233_0.out
       have hnc58 := NB0_233.out
       obtain ⟨hcz59_0, hcz59_1, hfz59_0, hfz59_1⟩ := q_2 BK233.out
       try go_wp2_with (first | ((with_reducible refine gate_callee (f := 25) rfl ?_); refine goesLq (some 52) rfl rfl Try.func25 (by kernel_rfl) rfl #[.agg #[.int .i64 a1, .slice Ao51 y230.length co51]] rfl ?_; (with_reducible refine (spec_ContractFault.calls k1 a1 _ _ y230 t234 _ ?side1 ?side2 A19.out).mono ?_); (case side1 => refine (Kd.R_reads' (e := 89) (base := w.heap.size) (ok := fun k_ => (some k_ ≠ (v228 : Value).ownBlock ∧ (some k_ ≠ (.slice Ao38 x202001_1.length co38 : Value).ownBlock ∧ (k_ ≠ gb215 ∧ k_ ≠ gb220)))) (n := y230.length) (c := co51) ?_).2.2; exact (by (with_reducible repeat (first | apply Kd.R_alloc | apply Kd.R_drewN | apply Kd.R_drew)); exact (Kd.R_mono (Kd.R_far (p := ⟨gb233, 1, none⟩) (Kd.R_far (p := ⟨gb233, 0, none⟩) (Kd.R_types HO232.out BK233.out (by decide)) (fun _ hk => hk.2) (.int .i64 a1)) (fun _ hk => hk.2) (.slice Ao51 y230.length co51)) (fun _ h_ => h_.1)))); (case side2 => exact (Kd.R_reads' HO232.out).2.1); rintro e w60 ⟨rfl, hb⟩; refine ⟨_, rfl, ?_⟩; have n0_ := Aside0.mk (Kd.R_below (by (with_reducible repeat (first | apply Kd.R_alloc | apply Kd.R_drewN | apply Kd.R_drew)); exact (Kd.R_mono (Kd.R_far (p := ⟨gb233, 1, none⟩) (Kd.R_far (p := ⟨gb233, 0, none⟩) (Kd.R_types HO_202001.out BK233.out (by decide)) (fun _ hk => hk.2) (.int .i64 a1)) (fun _ hk => hk.2) (.slice Ao51 y230.length co51)) (fun _ h_ => h_.1))) hb); have n1_ := Aside0.mk (Kd.R_below (by (with_reducible repeat (first | apply Kd.R_alloc | apply Kd.R_drewN | apply Kd.R_drew)); exact (Kd.R_mono (Kd.R_far (p := ⟨gb233, 1, none⟩) (Kd.R_far (p := ⟨gb233, 0, none⟩) (Kd.R_types HO229.out BK233.out (by decide)) (fun _ hk => hk.2) (.int .i64 a1)) (fun _ hk => hk.2) (.slice Ao51 y230.length co51)) (fun _ h_ => h_.1))) hb); have n2_ := Aside0.mk (Kd.R_below (by (with_reducible repeat (first | apply Kd.R_alloc | apply Kd.R_drewN | apply Kd.R_drew)); exact (Kd.R_mono (Kd.R_far (p := ⟨gb233, 1, none⟩) (Kd.R_far (p := ⟨gb233, 0, none⟩) (Kd.R_types HO232.out BK233.out (by decide)) (fun _ hk => hk.2) (.int .i64 a1)) (fun _ hk => hk.2) (.slice Ao51 y230.length co51)) (fun _ h_ => h_.1))) hb); have n3_ := Aside0.mk (blk_below (g := gb200) (o := .cells #[.int .i64 0, .slice none 0 0] 36 (0, 0)) (by (with_reducible repeat (first | refine blk_drewN ?_ _ | refine blk_drew ?_ | refine blk_alloc ?_ _)); refine blk_far ?_ NB200_233.out _; (with_reducible repeat (first | refine blk_drewN ?_ _ | refine blk_drew ?_ | refine blk_alloc ?_ _)); refine blk_far ?_ NB200_233.out _; (with_reducible repeat (first | refine blk_drewN ?_ _ | refine blk_drew ?_ | refine blk_alloc ?_ _)); exact BK200.out) hb); have n4_ := Aside0.mk (blk_below (g := gb201) (o := .cells #[.int .i64 x202000_1, .slice Ao38 x202001_1.length co38] 36 (0, 0)) (by (with_reducible repeat (first | refine blk_drewN ?_ _ | refine blk_drew ?_ | refine blk_alloc ?_ _)); refine blk_far ?_ NB201_233.out _; (with_reducible repeat (first | refine blk_drewN ?_ _ | refine blk_drew ?_ | refine blk_alloc ?_ _)); refine blk_far ?_ NB201_233.out _; (with_reducible repeat (first | refine blk_drewN ?_ _ | refine blk_drew ?_ | refine blk_alloc ?_ _)); exact BK201.out) hb); have n5_ := Aside0.mk (IsS130.below (show IsS130 w0 ((w50.setCell ⟨gb233, 0, none⟩ (.int .i64 a1)).setCell ⟨gb233, 1, none⟩ (.slice Ao51 y230.length co51)) g s0_0 t219 from q_I130_0_1) hb); have n6_ := Aside0.mk (blk_below (g := gb215) (o := .cells #[.int .i64 t211, .int .i64 t213, .int .i64 t207, .int .i64 (wrap64 (-(wrap64 (1 + t209))))] 89 (0, 0)) (by (with_reducible repeat (first | refine blk_drewN ?_ _ | refine blk_drew ?_ | refine blk_alloc ?_ _)); refine blk_far ?_ NB215_233.out _; (with_reducible repeat (first | refine blk_drewN ?_ _ | refine blk_drew ?_ | refine blk_alloc ?_ _)); refine blk_far ?_ NB215_233.out _; (with_reducible repeat (first | refine blk_drewN ?_ _ | refine blk_drew ?_ | refine blk_alloc ?_ _)); exact BK215.out) hb); have n7_ := Aside0.mk (blk_below (g := gb220) (o := .cells #[.int .i64 t216, .int .i64 t218, .int .i64 t207, .int .i64 (wrap64 (1 + t209))] 89 (0, 0)) (by (with_reducible repeat (first | refine blk_drewN ?_ _ | refine blk_drew ?_ | refine blk_alloc ?_ _)); refine blk_far ?_ NB220_233.out _; (with_reducible repeat (first | refine blk_drewN ?_ _ | refine blk_drew ?_ | refine blk_alloc ?_ _)); refine blk_far ?_ NB220_233.out _; (with_reducible repeat (first | refine blk_drewN ?_ _ | refine blk_drew ?_ | refine blk_alloc ?_ _)); exact BK220.out) hb); have n8_ := Aside0.mk (blk_below (g := gb233) (o := .cells #[.int .i64 a1, .slice Ao51 y230.length co51] 36 (0, 0)) (by (with_reducible repeat (first | refine blk_drewN ?_ _ | refine blk_drew ?_ | refine blk_alloc ?_ _)); refine blk_put (cs := #[.int .i64 a1, .slice none 0 0]) ?_ 1 _ rfl; (with_reducible repeat (first | refine blk_drewN ?_ _ | refine blk_drew ?_ | refine blk_alloc ?_ _)); refine blk_put (cs := #[.int .i64 0, .slice none 0 0]) ?_ 0 _ rfl; (with_reducible repeat (first | refine blk_drewN ?_ _ | refine blk_drew ?_ | refine blk_alloc ?_ _)); exact BK233.out) hb); have n9_ := Aside0.mk (KeepBut.trans q_K (KeepBut.of_below hb g none) (.inl rfl)); have n10_ := Aside0.mk (below_step q_B130_0 hb); revert n0_ n1_ n2_ n3_ n4_ n5_ n6_ n7_ n8_ n9_ n10_; clear HO_202001 HO229 HO232 BK200 BK201 HI0 BK215 BK220 BK233 HK HB; intro HO_202001 HO229 HO232 BK200 BK201 HI0 BK215 BK220 BK233 HK HB; (try clear hb); (try clear hb2); (try clear hk); (try clear hi); obtain ⟨hcz61_0, hcz61_1, hfz61_0, hfz61_1⟩ := q_2 BK233.out; have hnb62 := NB201_200.out; have hnc62 := NB200_201.out; have hnb63 := NB201_0.out; have hnc63 := NB0_201.out; obtain ⟨hcz64_0, hcz64_1, hfz64_0, hfz64_1⟩ := q_2 BK201.out))
       go_roundg k1
       case measure => have := HK1.out; omega
       case rel => exact ⟨(wrap64 (x6_1 - 1)), (t219), (a1), (y230), (.slice Ao51 y230.length co51), q_i, H', ⟨by have := HK1.out; omega⟩, ⟨by (with_reducible repeat (first | apply Kd.R_alloc | apply Kd.R_drewN | apply Kd.R_drew)); exact Kd.R_mono (Kd.R_far (p := ⟨gb201, 1, none⟩) (Kd.R_far (p := ⟨gb201, 0, none⟩) (Kd.R_types HO232.out BK201.out (by decide)) (fun _ hk => hk.2) (.int .i64 a1)) (fun _ hk => hk.2) (.slice Ao51 y230.length co51)) (fun _ hk => trivial)⟩, ⟨by (with_reducible repeat (first | refine blk_drewN ?_ _ | refine blk_drew ?_ | refine blk_alloc ?_ _)); refine blk_far ?_ NB200_201.out _; (with_reducible repeat (first | refine blk_drewN ?_ _ | refine blk_drew ?_ | refine blk_alloc ?_ _)); refine blk_far ?_ NB200_201.out _; (with_reducible repeat (first | refine blk_drewN ?_ _ | refine blk_drew ?_ | refine blk_alloc ?_ _)); exact BK200.out⟩, ⟨by (with_reducible repeat (first | refine blk_drewN ?_ _ | refine blk_drew ?_ | refine blk_alloc ?_ _)); refine blk_put (cs := #[.int .i64 a1, .slice Ao38 x202001_1.length co38]) ?_ 1 _ rfl; (with_reducible repeat (first | refine blk_drewN ?_ _ | refine blk_drew ?_ | refine blk_alloc ?_ _)); refine blk_put (cs := #[.int .i64 x202000_1, .slice Ao38 x202001_1.length co38]) ?_ 0 _ rfl; (with_reducible repeat (first | refine blk_drewN ?_ _ | refine blk_drew ?_ | refine blk_alloc ?_ _)); exact BK201.out⟩, ⟨q_I130_0_1⟩, ⟨q_K⟩, ⟨q_B130_0⟩⟩
      ·rw [if_neg c20] at H
       have c20b0 : (t234 == 0) = false := beq_eq_false_iff_ne.mpr c20
       have c20b1 : (t234 != 0) = true := bne_iff_ne.mpr c20
       have H' := Aside0.mk H
       clear H
       have hnb98 := NB233_200.out
       have hnc98 := NB200_233.out
       have hnb99 := NB233_201.out
       have hnc99 := NB201_233.out
       have hnb100 := NB233_215.out
       have hnc100 := NB215_233.out
       have hnb101 := NB233_220.out
       have hnc101 := NB220_233.out
       have hnb102 := NB233_0.out
       have hnc102 := NB0_233.out
       obtain ⟨hcz103_0, hcz103_1, hfz103_0, hfz103_1⟩ := q_2 BK233.out
       try go_wp2_with (first | ((with_reducible refine gate_callee (f := 25) rfl ?_); refine goesLq (some 52) rfl rfl Try.func25 (by kernel_rfl) rfl #[.agg #[.int .i64 a1, .slice Ao51 y230.length co51]] rfl ?_; (with_reducible refine (spec_ContractFault.calls k1 a1 _ _ y230 t234 _ ?side1 ?side2 A19.out).mono ?_); (case side1 => refine (Kd.R_reads' (e := 89) (base := w.heap.size) (ok := fun k_ => (some k_ ≠ (v228 : Value).ownBlock ∧ (some k_ ≠ (.slice Ao38 x202001_1.length co38 : Value).ownBlock ∧ (k_ ≠ gb215 ∧ k_ ≠ gb220)))) (n := y230.length) (c := co51) ?_).2.2; exact (by (with_reducible repeat (first | apply Kd.R_alloc | apply Kd.R_drewN | apply Kd.R_drew)); exact (Kd.R_mono (Kd.R_far (p := ⟨gb233, 1, none⟩) (Kd.R_far (p := ⟨gb233, 0, none⟩) (Kd.R_types HO232.out BK233.out (by decide)) (fun _ hk => hk.2) (.int .i64 a1)) (fun _ hk => hk.2) (.slice Ao51 y230.length co51)) (fun _ h_ => h_.1)))); (case side2 => exact (Kd.R_reads' HO232.out).2.1); rintro e w104 ⟨rfl, hb⟩; refine ⟨_, rfl, ?_⟩; have n0_ := Aside0.mk (Kd.R_below (by (with_reducible repeat (first | apply Kd.R_alloc | apply Kd.R_drewN | apply Kd.R_drew)); exact (Kd.R_mono (Kd.R_far (p := ⟨gb233, 1, none⟩) (Kd.R_far (p := ⟨gb233, 0, none⟩) (Kd.R_types HO_202001.out BK233.out (by decide)) (fun _ hk => hk.2) (.int .i64 a1)) (fun _ hk => hk.2) (.slice Ao51 y230.length co51)) (fun _ h_ => h_.1))) hb); have n1_ := Aside0.mk (Kd.R_below (by (with_reducible repeat (first | apply Kd.R_alloc | apply Kd.R_drewN | apply Kd.R_drew)); exact (Kd.R_mono (Kd.R_far (p := ⟨gb233, 1, none⟩) (Kd.R_far (p := ⟨gb233, 0, none⟩) (Kd.R_types HO229.out BK233.out (by decide)) (fun _ hk => hk.2) (.int .i64 a1)) (fun _ hk => hk.2) (.slice Ao51 y230.length co51)) (fun _ h_ => h_.1))) hb); have n2_ := Aside0.mk (Kd.R_below (by (with_reducible repeat (first | apply Kd.R_alloc | apply Kd.R_drewN | apply Kd.R_drew)); exact (Kd.R_mono (Kd.R_far (p := ⟨gb233, 1, none⟩) (Kd.R_far (p := ⟨gb233, 0, none⟩) (Kd.R_types HO232.out BK233.out (by decide)) (fun _ hk => hk.2) (.int .i64 a1)) (fun _ hk => hk.2) (.slice Ao51 y230.length co51)) (fun _ h_ => h_.1))) hb); have n3_ := Aside0.mk (blk_below (g := gb200) (o := .cells #[.int .i64 0, .slice none 0 0] 36 (0, 0)) (by (with_reducible repeat (first | refine blk_drewN ?_ _ | refine blk_drew ?_ | refine blk_alloc ?_ _)); refine blk_far ?_ NB200_233.out _; (with_reducible repeat (first | refine blk_drewN ?_ _ | refine blk_drew ?_ | refine blk_alloc ?_ _)); refine blk_far ?_ NB200_233.out _; (with_reducible repeat (first | refine blk_drewN ?_ _ | refine blk_drew ?_ | refine blk_alloc ?_ _)); exact BK200.out) hb); have n4_ := Aside0.mk (blk_below (g := gb201) (o := .cells #[.int .i64 x202000_1, .slice Ao38 x202001_1.length co38] 36 (0, 0)) (by (with_reducible repeat (first | refine blk_drewN ?_ _ | refine blk_drew ?_ | refine blk_alloc ?_ _)); refine blk_far ?_ NB201_233.out _; (with_reducible repeat (first | refine blk_drewN ?_ _ | refine blk_drew ?_ | refine blk_alloc ?_ _)); refine blk_far ?_ NB201_233.out _; (with_reducible repeat (first | refine blk_drewN ?_ _ | refine blk_drew ?_ | refine blk_alloc ?_ _)); exact BK201.out) hb); have n5_ := Aside0.mk (IsS130.below (show IsS130 w0 ((w50.setCell ⟨gb233, 0, none⟩ (.int .i64 a1)).setCell ⟨gb233, 1, none⟩ (.slice Ao51 y230.length co51)) g s0_0 t219 from q_I130_0_1) hb); have n6_ := Aside0.mk (blk_below (g := gb215) (o := .cells #[.int .i64 t211, .int .i64 t213, .int .i64 t207, .int .i64 (wrap64 (-(wrap64 (1 + t209))))] 89 (0, 0)) (by (with_reducible repeat (first | refine blk_drewN ?_ _ | refine blk_drew ?_ | refine blk_alloc ?_ _)); refine blk_far ?_ NB215_233.out _; (with_reducible repeat (first | refine blk_drewN ?_ _ | refine blk_drew ?_ | refine blk_alloc ?_ _)); refine blk_far ?_ NB215_233.out _; (with_reducible repeat (first | refine blk_drewN ?_ _ | refine blk_drew ?_ | refine blk_alloc ?_ _)); exact BK215.out) hb); have n7_ := Aside0.mk (blk_below (g := gb220) (o := .cells #[.int .i64 t216, .int .i64 t218, .int .i64 t207, .int .i64 (wrap64 (1 + t209))] 89 (0, 0)) (by (with_reducible repeat (first | refine blk_drewN ?_ _ | refine blk_drew ?_ | refine blk_alloc ?_ _)); refine blk_far ?_ NB220_233.out _; (with_reducible repeat (first | refine blk_drewN ?_ _ | refine blk_drew ?_ | refine blk_alloc ?_ _)); refine blk_far ?_ NB220_233.out _; (with_reducible repeat (first | refine blk_drewN ?_ _ | refine blk_drew ?_ | refine blk_alloc ?_ _)); exact BK220.out) hb); have n8_ := Aside0.mk (blk_below (g := gb233) (o := .cells #[.int .i64 a1, .slice Ao51 y230.length co51] 36 (0, 0)) (by (with_reducible repeat (first | refine blk_drewN ?_ _ | refine blk_drew ?_ | refine blk_alloc ?_ _)); refine blk_put (cs := #[.int .i64 a1, .slice none 0 0]) ?_ 1 _ rfl; (with_reducible repeat (first | refine blk_drewN ?_ _ | refine blk_drew ?_ | refine blk_alloc ?_ _)); refine blk_put (cs := #[.int .i64 0, .slice none 0 0]) ?_ 0 _ rfl; (with_reducible repeat (first | refine blk_drewN ?_ _ | refine blk_drew ?_ | refine blk_alloc ?_ _)); exact BK233.out) hb); have n9_ := Aside0.mk (KeepBut.trans q_K (KeepBut.of_below hb g none) (.inl rfl)); have n10_ := Aside0.mk (below_step q_B130_0 hb); revert n0_ n1_ n2_ n3_ n4_ n5_ n6_ n7_ n8_ n9_ n10_; clear HO_202001 HO229 HO232 BK200 BK201 HI0 BK215 BK220 BK233 HK HB; intro HO_202001 HO229 HO232 BK200 BK201 HI0 BK215 BK220 BK233 HK HB; (try clear hb); (try clear hb2); (try clear hk); (try clear hi)))
       go_roundg k1
       case measure => have := HK1.out; omega
       case rel => exact ⟨(wrap64 (x6_1 - 1)), (t219), (x202000_1), (x202001_1), (.slice Ao38 x202001_1.length co38), q_i, H', ⟨by have := HK1.out; omega⟩, ⟨q_r (Kd.R_mono HO_202001.out (fun _ hk => trivial))⟩, ⟨q_b BK200.out⟩, ⟨q_b BK201.out⟩, ⟨q_I130_0_1⟩, ⟨q_K⟩, ⟨q_B130_0⟩⟩
     ·rw [if_neg c18] at H
      exact absurd H (by simp)
    ·rw [if_neg c17] at H
     exact absurd H (by simp)
   ·rw [if_neg c10] at H
    have c10b0 := decide_eq_false c10
    clear c10
    by_cases c105 : (x202001_1.length : Int) = 0
    ·rw [if_pos c105] at H
     have c105b0 : ((x202001_1.length : Int) == 0) = true := beq_iff_eq.mpr c105
     have c105b1 : ((x202001_1.length : Int) != 0) = false := bne_eq_false_iff_eq.mpr c105
     clear c105
     obtain ⟨y204, hy204⟩ : ∃ y_ : List (S89), y_ = (([(⟨0, 0, 0, (-5)⟩ : S89), (⟨1, 0, 0, 5⟩ : S89)] : List (S89))) := ⟨_, rfl⟩
     replace H : (some (x202000_1, y204, x1001_1)) = some (r1, r2, r3) := q_h hy204 H
     have Ny204 := Aside0.mk hy204
     clear hy204
     simp only [Option.some.injEq, Prod.mk.injEq] at H
     obtain ⟨rfl, rfl, rfl⟩ := H
     have hnb106 := NB201_200.out
     have hnc106 := NB200_201.out
     have hnb107 := NB201_0.out
     have hnc107 := NB0_201.out
     obtain ⟨hcz108_0, hcz108_1, hfz108_0, hfz108_1⟩ := q_2 BK201.out
     obtain ⟨Ao109, co109, eo109⟩ := Kd.R_slice HO_202001.out
     subst eo109
     go_wp2_with (first | ((with_reducible refine gate_dst (N := 61) rfl ?_); refine Kd.R_lit k89 _ 89 ?hg (N := 61) ?hd (xs := ([(⟨0, 0, 0, (-5)⟩ : S89), (⟨1, 0, 0, 5⟩ : S89)] : List (S89))) (inner := [.int .i64 0, .int .i64 0, .int .i64 0, .int .i64 (-5), .int .i64 1, .int .i64 0, .int .i64 0, .int .i64 5]) (ok := fun _ => True) (okp := fun _ => True) ?hr ?hp (fun _ hk => hk) trivial (Below.refl _ _) (Nat.le_refl _) (by simp) ?_; (case hd => rfl); (case hg => rfl); (case hr => first | (go_simp; done) | (go_simp; rfl)); (case hp => exact (Reps.c4 (show Kd.M k89 _ _ _ (⟨0, 0, 0, (-5)⟩ : S89) [.int .i64 0, .int .i64 0, .int .i64 0, .int .i64 (-5)] from (k89_mkM _ _ _ (⟨0, 0, 0, (-5)⟩ : S89) )) (Reps.c4 (show Kd.M k89 _ _ _ (⟨1, 0, 0, 5⟩ : S89) [.int .i64 1, .int .i64 0, .int .i64 0, .int .i64 5] from (k89_mkM _ _ _ (⟨1, 0, 0, 5⟩ : S89) )) (Reps.none _ _)))); intro v205 w110 ho111 hb hg_ hnew_; clear hg_ hnew_; (first | rw [← Ny204.out] at ho111 | (simp only [Int.reduceToNat] at ho111; rw [← Ny204.out] at ho111)); have n0_ := Aside0.mk (Kd.R_elder' (q_r (HO_202001.out)) (Kd.R_base ho111) hb); have n1_ := Aside0.mk (Kd.R_lower (Kd.R_new' ho111 (Kd.R_lt (q_r (HO_202001.out)))) (keep_size (w := w) (g := g) (row := none) q_K)); have n2_ := Aside0.mk (blk_below (q_b BK200.out) hb); have n3_ := Aside0.mk (blk_below (q_b BK201.out) hb); have n4_ := Aside0.mk (IsS130.below q_I130_0_1 hb); have n5_ := Aside0.mk (KeepBut.trans q_K (KeepBut.of_below hb g none) (.inl rfl)); have n6_ := Aside0.mk (below_step q_B130_0 hb); revert n0_ n1_ n2_ n3_ n4_ n5_ n6_; clear HO_202001 BK200 BK201 HI0 HK HB; intro HO_202001 HO206 BK200 BK201 HI0 HK HB; clear hb ho111; obtain ⟨Ao112, co112, eo112⟩ := Kd.R_slice HO206.out; subst eo112; obtain ⟨hcz113_0, hcz113_1, hfz113_0, hfz113_1⟩ := q_2 BK201.out; have hnb114 := NB200_0.out; have hnc114 := NB0_200.out; obtain ⟨hcz115_0, hcz115_1, hfz115_0, hfz115_1⟩ := q_2 BK200.out))
     refine bodyPost_ret (results_cell_row rfl _ _ gb200 36 #[.int .i64 x202000_1, .slice Ao112 y204.length co112] (0, 0) _ rfl (by (with_reducible repeat (first | refine blk_drewN ?_ _ | refine blk_drew ?_ | refine blk_alloc ?_ _)); refine blk_put (cs := #[.int .i64 x202000_1, .slice none 0 0]) ?_ 1 _ rfl; (with_reducible repeat (first | refine blk_drewN ?_ _ | refine blk_drew ?_ | refine blk_alloc ?_ _)); refine blk_put (cs := #[.int .i64 0, .slice none 0 0]) ?_ 0 _ rfl; (with_reducible repeat (first | refine blk_drewN ?_ _ | refine blk_drew ?_ | refine blk_alloc ?_ _)); refine blk_far ?_ NB200_201.out _; (with_reducible repeat (first | refine blk_drewN ?_ _ | refine blk_drew ?_ | refine blk_alloc ?_ _)); exact BK200.out) Try.underlying36 rfl (by kernel_rfl)) rfl ?_
     exact ⟨_, q_e, by (with_reducible repeat (first | apply Kd.R_alloc | apply Kd.R_drewN | apply Kd.R_drew)); exact Kd.R_mono (Kd.R_far (p := ⟨gb200, 1, none⟩) (Kd.R_far (p := ⟨gb200, 0, none⟩) (Kd.R_far (p := ⟨gb201, 1, none⟩) (Kd.R_types (Kd.R_types HO206.out BK201.out (by decide)) BK200.out (by decide)) (fun _ hk => hk.1.2) (.slice Ao112 y204.length co112)) (fun _ hk => hk.2) (.int .i64 x202000_1)) (fun _ hk => hk.2) (.slice Ao112 y204.length co112)) (fun _ hk => trivial), q_I130_0_1, q_B130_0, q_K⟩
    ·rw [if_neg c105] at H
     have c105b0 : ((x202001_1.length : Int) == 0) = false := beq_eq_false_iff_ne.mpr c105
     have c105b1 : ((x202001_1.length : Int) != 0) = true := bne_iff_ne.mpr c105
     have c105b2 : ¬ (x202001_1 = []) := fun h_ => c105 (by rw [h_]; rfl)
     simp only [Option.some.injEq, Prod.mk.injEq] at H
     obtain ⟨rfl, rfl, rfl⟩ := H
     have hnb116 := NB201_200.out
     have hnc116 := NB200_201.out
     have hnb117 := NB201_0.out
     have hnc117 := NB0_201.out
     obtain ⟨hcz118_0, hcz118_1, hfz118_0, hfz118_1⟩ := q_2 BK201.out
     obtain ⟨Ao119, co119, eo119⟩ := Kd.R_slice HO_202001.out
     subst eo119
     have hnb120 := NB200_0.out
     have hnc120 := NB0_200.out
     obtain ⟨hcz121_0, hcz121_1, hfz121_0, hfz121_1⟩ := q_2 BK200.out
     go_wp2
     refine bodyPost_ret (results_cell_row rfl _ _ gb200 36 #[.int .i64 x202000_1, .slice Ao119 x202001_1.length co119] (0, 0) _ rfl (by (with_reducible repeat (first | refine blk_drewN ?_ _ | refine blk_drew ?_ | refine blk_alloc ?_ _)); refine blk_put (cs := #[.int .i64 x202000_1, .slice none 0 0]) ?_ 1 _ rfl; (with_reducible repeat (first | refine blk_drewN ?_ _ | refine blk_drew ?_ | refine blk_alloc ?_ _)); refine blk_put (cs := #[.int .i64 0, .slice none 0 0]) ?_ 0 _ rfl; (with_reducible repeat (first | refine blk_drewN ?_ _ | refine blk_drew ?_ | refine blk_alloc ?_ _)); exact BK200.out) Try.underlying36 rfl (by kernel_rfl)) rfl ?_
     exact ⟨_, q_e, by (with_reducible repeat (first | apply Kd.R_alloc | apply Kd.R_drewN | apply Kd.R_drew)); exact Kd.R_mono (Kd.R_far (p := ⟨gb200, 1, none⟩) (Kd.R_far (p := ⟨gb200, 0, none⟩) (Kd.R_types HO_202001.out BK200.out (by decide)) (fun _ hk => hk.2) (.int .i64 x202000_1)) (fun _ hk => hk.2) (.slice Ao119 x202001_1.length co119)) (fun _ hk => trivial), q_I130_0_1, q_B130_0, q_K⟩

end Go.Proofs.Ytooiamkaipdmpaa.PFnContracts
