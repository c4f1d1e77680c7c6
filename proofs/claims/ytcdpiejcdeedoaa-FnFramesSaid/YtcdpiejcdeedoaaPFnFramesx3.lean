/- The functions that a law reaches, each as a plain Lean function with the proof that the machine comes to its answer: written by program (the kit's print, turned by wip/gen). No conditions. -/
import Derived.Test.YtcdpiejcdeedoaaPFnFramesx0
import Derived.Test.YtcdpiejcdeedoaaPFnFramesx1
import Derived.Test.YtcdpiejcdeedoaaPFnFramesx2
namespace Go.Proofs.Ytcdpiejcdeedoaa.PFnFrames
open Go.RowKit Go.Proofs.YtcdpiejcdeedoaaW.PrintWords Go.Proofs.YtcdpiejcdeedoaaW.PrintLast Go.Proofs.YtcdpiejcdeedoaaW.PrintMore
attribute [local go_sem] max2_int min2_int max_two min_two max_three min_three max_four min_four   -- for this text's walks alone
set_option linter.unusedVariables false
set_option linter.unusedSimpArgs false

/-! ### impl_UnframeAll: function 30 -/
def impl_UnframeAll.l0 : Nat → List Int → Int → Int → List (List Int) → Option (Int × Int × (List (List Int)))
  | 0, _, _, _, _ => none
  | k + 1, x0, x206000, x206001, x206002 => if 0 ≤ x206001 then (if x206001 ≤ (x0.length : Int) then ((impl_unframe.f k (x0.drop (x206001 : Int).toNat)).bind fun bt207 => (if bt207.2 = true then ((bytes_Clone.f bt207.1).bind fun t211 => (if x206002.length < 5864062014805 then ((impl_size_byte.f bt207.1).bind fun t217 => (impl_UnframeAll.l0 k x0 x206000 (wrap64 (x206001 + (wrap64 (4 + t217)))) (x206002 ++ [t211]))) else (none))) else (some (x206000, x206001, x206002)))) else (none)) else (none)
def impl_UnframeAll.f (k : Nat) (l0 : List Int) : Option (Int × Int × (List (List Int))) := if (l0.length : Int) > 6000 then (some (2, 0, ([] : List (List Int)))) else (impl_UnframeAll.l0 k l0 0 0 ([] : List (List Int)))
def impl_UnframeAll.T7 : Bool × List (List Nat × List Nat) := (true, [([], []), ([0], [0]), ([], []), ([2], [2]), ([3], [3]), ([1, 4, 3], [1, 4]), ([0, 1, 2, 3, 4, 5], []), ([6, 5, 5, 0, 1, 2, 3, 4, 5], [5, 6])])
def impl_UnframeAll.B7 : List Nat := [0, 1, 0, 4, 12, 31, 63, 127]
theorem impl_UnframeAll.tab7 : rtab .any (opsOf Try.f30 7) = impl_UnframeAll.T7 := by kernel_rfl
theorem impl_UnframeAll.bits7 : waitsOk impl_UnframeAll.T7.2 impl_UnframeAll.B7 = true := by kernel_rfl
def impl_UnframeAll.T8 : Bool × List (List Nat × List Nat) := (true, [([], []), ([0], [0]), ([], []), ([2], [2]), ([3], [3]), ([1, 4], [1, 4]), ([0, 1, 2, 3, 4, 5], []), ([6, 5, 3, 0, 1, 2, 3, 4, 5], [5, 6])])
def impl_UnframeAll.B8 : List Nat := [0, 1, 0, 4, 12, 31, 63, 127]
theorem impl_UnframeAll.tab8 : rtab .any (opsOf Try.f30 8) = impl_UnframeAll.T8 := by kernel_rfl
theorem impl_UnframeAll.bits8 : waitsOk impl_UnframeAll.T8.2 impl_UnframeAll.B8 = true := by kernel_rfl
set_option maxHeartbeats 8000000 in
set_option maxRecDepth 100000 in
theorem impl_UnframeAll.calls (k : Nat) (A0 : Option Addr) (c0 : Nat) (l0 : List Int) (r1 : Int) (r2 : Int) (r3 : List (List Int)) (w : World) (hr0 : Kd.C (Kd.int .u8) w A0 l0.length l0) (hc0 : l0.length ≤ c0) (h : impl_UnframeAll.f k l0 = some (r1, r2, r3)) :
  Calls Try.prog 30 #[.slice A0 l0.length c0] w fun e w' => ∃ v2_ : Value, e = .returned (.agg #[.int .i64 r1, .int .i64 r2, v2_]) ∧ Kd.S (Kd.slice 5 (Kd.int .u8)) 22 w' w.heap.size (fun _ => True) v2_ r3 ∧ Below w.heap.size w w' := by
 have hu43 := Try.underlying43
 have HR0 := Aside0.mk hr0
 have HC0 := Aside0.mk hc0
 clear hr0 hc0
 have HB := Aside0.mk (Below.refl w.heap.size w)
 have H : (if (l0.length : Int) > 6000 then (some (2, 0, ([] : List (List Int)))) else (impl_UnframeAll.l0 k l0 0 0 ([] : List (List Int)))) = some (r1, r2, r3) := h
 clear h
 by_cases c2 : (l0.length : Int) > 6000
 ·rw [if_pos c2] at H
  have c2b0 := decide_eq_true c2
  have c2b1 : decide (6000 < l0.length) = true := decide_eq_true (by omega)
  clear c2
  simp only [Option.some.injEq, Prod.mk.injEq] at H
  obtain ⟨rfl, rfl, rfl⟩ := H
  go_enter Try.func30, Try.ntmps30
  go_wp2_with (first | ((with_reducible refine gate_dst (N := 2) rfl ?_); refine q_box (N := 2) (cs := #[.int .i64 0, .int .i64 0, .slice none 0 0]) (t := 43) ?_; intro gb204 hg w3 hbox hb; have n0_ := Aside0.mk (below_step bq hb); have n1_ := Aside0.mk (hbox); have n2_ := Aside0.mk ((q_g hg bq : w.heap.size ≤ gb204)); have n3_ := Aside0.mk ((q_g hg bq : w.heap.size ≤ gb204)); revert n0_ n1_ n2_ n3_; clear HB; intro HB BK204 GW204 GE204; clear hb hbox hg; obtain ⟨hcz4_0, hcz4_1, hcz4_2, hfz4_0, hfz4_1, hfz4_2⟩ := q_3 BK204.out))
  refine bodyPost_ret (results_cell_row rfl _ _ gb204 43 #[.int .i64 2, .int .i64 0, .slice none 0 0] (0, 0) _ rfl (by (with_reducible repeat (first | refine blk_drewN ?_ _ | refine blk_drew ?_ | refine blk_alloc ?_ _)); refine blk_put (cs := #[.int .i64 2, .int .i64 0, .slice none 0 0]) ?_ 2 _ rfl; (with_reducible repeat (first | refine blk_drewN ?_ _ | refine blk_drew ?_ | refine blk_alloc ?_ _)); refine blk_put (cs := #[.int .i64 2, .int .i64 0, .slice none 0 0]) ?_ 1 _ rfl; (with_reducible repeat (first | refine blk_drewN ?_ _ | refine blk_drew ?_ | refine blk_alloc ?_ _)); refine blk_put (cs := #[.int .i64 0, .int .i64 0, .slice none 0 0]) ?_ 0 _ rfl; (with_reducible repeat (first | refine blk_drewN ?_ _ | refine blk_drew ?_ | refine blk_alloc ?_ _)); exact BK204.out) Try.underlying43 rfl (by kernel_rfl)) rfl ?_
  exact ⟨_, q_e, by first | exact Kd.S_nil _ _ _ _ _ | exact Kd.N_nil _ _ _ _ _ | exact Kd.V_nil _ _ _ _ _ | exact Kd.Q_nil _ _ _ _ _ | exact Kd.R_nil _ _ _ _ _, bq⟩
 ·rw [if_neg c2] at H
  have c2b0 := decide_eq_false c2
  have c2b1 : decide (6000 < l0.length) = false := decide_eq_false (by omega)
  clear c2
  have H' := Aside0.mk H
  clear H
  go_enter Try.func30, Try.ntmps30
  go_wp2_with (first | ((with_reducible refine gate_dst (N := 2) rfl ?_); refine q_box (N := 2) (cs := #[.int .i64 0, .int .i64 0, .slice none 0 0]) (t := 43) ?_; intro gb204 hg w5 hbox hb; have n0_ := Aside0.mk (below_step bq hb); have n1_ := Aside0.mk (hbox); have n2_ := Aside0.mk ((q_g hg bq : w.heap.size ≤ gb204)); have n3_ := Aside0.mk ((q_g hg bq : w.heap.size ≤ gb204)); revert n0_ n1_ n2_ n3_; clear HB; intro HB BK204 GW204 GE204; clear hb hbox hg) | ((with_reducible refine gate_dst (N := 3) rfl ?_); refine q_box (N := 3) (cs := #[.int .i64 0, .int .i64 0, .slice none 0 0]) (t := 43) ?_; intro gb205 hg w6 hbox hb; have n0_ := Aside0.mk (blk_below (q_b BK204.out) hb); have n1_ := Aside0.mk (below_step bq hb); have n2_ := Aside0.mk (hbox); have n3_ := Aside0.mk ((q_g hg bq : w.heap.size ≤ gb205)); have n4_ := Aside0.mk ((q_g hg bq : w.heap.size ≤ gb205)); have n5_ := Aside0.mk ((q_n hg (q_b BK204.out) : gb204 ≠ gb205)); have n6_ := Aside0.mk ((q_m hg (q_b BK204.out) : gb205 ≠ gb204)); revert n0_ n1_ n2_ n3_ n4_ n5_ n6_; clear BK204 HB; intro BK204 HB BK205 GW205 GE205 NB204_205 NB205_204; clear hb hbox hg; have hnb7 := NB205_204.out; have hnc7 := NB204_205.out; obtain ⟨hcz8_0, hcz8_1, hcz8_2, hfz8_0, hfz8_1, hfz8_2⟩ := q_3 BK205.out))
  go_loopg [] k (fun kq w' => ∃ (x205000_1 : Int) (x205001_1 : Int) (x206001_1 : Int) (x206002_1 : List (List Int)) (u206002 : Value), Aside0 (impl_UnframeAll.l0 kq l0 0 x206001_1 x206002_1 = some (r1, r2, r3)) ∧ Aside0 (kq ≤ k) ∧ Aside0 (Kd.S (Kd.slice 5 (Kd.int .u8)) 22 w' w.heap.size (fun _ => True) u206002 x206002_1) ∧ Aside0 (w'.heap[gb204]? = some (.cells #[.int .i64 x205000_1, .int .i64 x205001_1, (.slice none 0 0)] 43 (0, 0))) ∧ Aside0 (w'.heap[gb205]? = some (.cells #[.int .i64 0, .int .i64 x206001_1, u206002] 43 (0, 0))) ∧ Aside0 (Below w.heap.size w w'))
  case atStart => exact ⟨(0), (0), (0), (([] : List (List Int))), (.slice none 0 0), H', ⟨Nat.le_refl _⟩, ⟨by first | exact Kd.S_nil _ _ _ _ _ | exact Kd.N_nil _ _ _ _ _ | exact Kd.V_nil _ _ _ _ _ | exact Kd.Q_nil _ _ _ _ _ | exact Kd.R_nil _ _ _ _ _⟩, ⟨by (with_reducible repeat (first | refine blk_drewN ?_ _ | refine blk_drew ?_ | refine blk_alloc ?_ _)); refine blk_far ?_ NB204_205.out _; (with_reducible repeat (first | refine blk_drewN ?_ _ | refine blk_drew ?_ | refine blk_alloc ?_ _)); refine blk_far ?_ NB204_205.out _; (with_reducible repeat (first | refine blk_drewN ?_ _ | refine blk_drew ?_ | refine blk_alloc ?_ _)); refine blk_far ?_ NB204_205.out _; (with_reducible repeat (first | refine blk_drewN ?_ _ | refine blk_drew ?_ | refine blk_alloc ?_ _)); exact BK204.out⟩, ⟨by (with_reducible repeat (first | refine blk_drewN ?_ _ | refine blk_drew ?_ | refine blk_alloc ?_ _)); refine blk_put (cs := #[.int .i64 0, .int .i64 0, .slice none 0 0]) ?_ 2 _ rfl; (with_reducible repeat (first | refine blk_drewN ?_ _ | refine blk_drew ?_ | refine blk_alloc ?_ _)); refine blk_put (cs := #[.int .i64 0, .int .i64 0, .slice none 0 0]) ?_ 1 _ rfl; (with_reducible repeat (first | refine blk_drewN ?_ _ | refine blk_drew ?_ | refine blk_alloc ?_ _)); refine blk_put (cs := #[.int .i64 0, .int .i64 0, .slice none 0 0]) ?_ 0 _ rfl; (with_reducible repeat (first | refine blk_drewN ?_ _ | refine blk_drew ?_ | refine blk_alloc ?_ _)); exact BK205.out⟩, ⟨bq⟩⟩
  case round =>
   clear H'
   (try clear c2); (try clear c2b0); (try clear c2b1); (try clear p2); (try clear c3); (try clear c7); (try clear hcz4_0); (try clear hcz4_1); (try clear hcz4_2); (try clear hcz8_0); (try clear hcz8_1)
   (try clear hcz8_2); (try clear hfz4_0); (try clear hfz4_1); (try clear hfz4_2); (try clear hfz8_0); (try clear hfz8_1); (try clear hfz8_2)
   obtain ⟨x205000_1, x205001_1, x206001_1, x206002_1, u206002, HA, HK1, HO_206002, BK204, BK205, HB⟩ := hrel
   cases gk with
   | zero => exact absurd HA.out (by simp [impl_UnframeAll.l0])
   | succ k1 =>
    have H := HA.out
    clear HA
    simp only [impl_UnframeAll.l0] at H
    by_cases c9 : 0 ≤ x206001_1
    ·rw [if_pos c9] at H
     have c9b0 := eq_true c9
     have c9b1 := decide_eq_true c9
     clear c9
     by_cases c10 : x206001_1 ≤ (l0.length : Int)
     ·rw [if_pos c10] at H
      have c10b0 := eq_true c10
      have c10b1 := decide_eq_true c10
      clear c10
      replace H := Option.bind_eq_some_iff.mp H
      obtain ⟨⟨t207, t210⟩, A110, H⟩ := H
      replace H : (if t210 = true then ((bytes_Clone.f t207).bind fun t211 => (if x206002_1.length < 5864062014805 then ((impl_size_byte.f t207).bind fun t217 => (impl_UnframeAll.l0 k1 l0 0 (wrap64 (x206001_1 + (wrap64 (4 + t217)))) (x206002_1 ++ [t211]))) else (none))) else (some (0, x206001_1, x206002_1))) = some (r1, r2, r3) := H
      have A11 := Aside0.mk A110
      clear A110
      by_cases c12 : t210 = true
      ·subst c12
       have H1 : ((bytes_Clone.f t207).bind fun t211 => (if x206002_1.length < 5864062014805 then ((impl_size_byte.f t207).bind fun t217 => (impl_UnframeAll.l0 k1 l0 0 (wrap64 (x206001_1 + (wrap64 (4 + t217)))) (x206002_1 ++ [t211]))) else (none))) = some (r1, r2, r3) := by rw [if_pos rfl] at H; exact H
       clear H
       have H := H1
       clear H1
       replace H := Option.bind_eq_some_iff.mp H
       obtain ⟨t211, A130, H⟩ := H
       replace H : (if x206002_1.length < 5864062014805 then ((impl_size_byte.f t207).bind fun t217 => (impl_UnframeAll.l0 k1 l0 0 (wrap64 (x206001_1 + (wrap64 (4 + t217)))) (x206002_1 ++ [t211]))) else (none)) = some (r1, r2, r3) := H
       have A13 := Aside0.mk A130
       clear A130
       by_cases c14 : x206002_1.length < 5864062014805
       ·rw [if_pos c14] at H
        have LMc14 := Aside0.mk c14
        clear c14
        obtain ⟨y214, hy214⟩ : ∃ y_ : List (List Int), y_ = (x206002_1 ++ [t211]) := ⟨_, rfl⟩
        replace H : ((impl_size_byte.f t207).bind fun t217 => (impl_UnframeAll.l0 k1 l0 0 (wrap64 (x206001_1 + (wrap64 (4 + t217)))) y214)) = some (r1, r2, r3) := q_h hy214 H
        have Ny214 := Aside0.mk hy214
        clear hy214
        replace H := Option.bind_eq_some_iff.mp H
        obtain ⟨t217, A150, H⟩ := H
        replace H : (impl_UnframeAll.l0 k1 l0 0 (wrap64 (x206001_1 + (wrap64 (4 + t217)))) y214) = some (r1, r2, r3) := H
        have A15 := Aside0.mk A150
        clear A150
        have H' := Aside0.mk H
        clear H
        have hnb16 := NB205_204.out
        have hnc16 := NB204_205.out
        obtain ⟨hcz17_0, hcz17_1, hcz17_2, hfz17_0, hfz17_1, hfz17_2⟩ := q_3 BK205.out
        obtain ⟨i018, hi018, _, hsz18, _⟩ := info_parts info5
        obtain ⟨A18, hcut18, hA18, hC18⟩ := print_drop_of (P := Try.prog) (Value.int .u8) 0 22 5 .i64 Try.underlying22 hi018 hsz18 A0 c0 l0 x206001_1 q_d q_d HC0.out
        have HR206 := Aside0.mk (Kd.C_of_reads (h1 := fun _ => rfl) (hA18 _ (Kd.reads_of_C HR0.out)))
        have HC206 := Aside0.mk hC18
        clear hA18 hC18 hi018 hsz18
        try go_wp2_with (first | ((with_reducible refine gate_callee (f := 59) rfl ?_); refine goesL_ (some 16) rfl rfl Try.func59 (by kernel_rfl) rfl #[.slice A18 (l0.drop (x206001_1 : Int).toNat).length (c0 - x206001_1.toNat)] rfl (by (try simp only [List.map_toArray, List.map_cons, List.map_nil]); first | done | (rw [show (l0.drop (x206001_1 : Int).toNat).length = (l0.length - x206001_1.toNat) from List.length_drop] <;> rfl) | rfl | (simp only [List.length_drop, List.length_take]; rfl)) ?_; (with_reducible refine (impl_unframe.calls k1 (fun k_ => k_ < w.heap.size) _ _ (l0.drop (x206001_1 : Int).toNat) t207 true _ ?side1 A11.out).mono ?_); (case side1 => exact Kd.V_mk HC206.out (Kd.F_below (Kd.C_F (Kd.heap_int .u8) HR206.out) bq)); rintro e w19 ⟨v208, rfl, ho0, hb⟩; refine ⟨_, rfl, ?_⟩; have n0_ := Aside0.mk (Kd.S_below (q_s (HO_206002.out)) hb); have n1_ := Aside0.mk (Kd.V_lower (Kd.V_mono (ok' := fun k_ => some k_ ≠ (u206002 : Value).ownBlock ∧ k_ ≠ gb204 ∧ k_ ≠ gb205) ho0 (fun k_ hk_ => ⟨Or.elim hk_ (fun hs_ => fun e_ => Nat.not_le.2 hs_ (Kd.S_base HO_206002.out k_ e_.symm)) (fun hn_ => (Kd.fresh' (Kd.S_lt (q_s (HO_206002.out))) k_ hn_)), Or.elim hk_ (fun hs_ => fun e_ => Nat.not_le.2 hs_ (by rw [e_]; exact GW204.out)) (fun hn_ => (Kd.freshB (q_b BK204.out) k_ hn_)), Or.elim hk_ (fun hs_ => fun e_ => Nat.not_le.2 hs_ (by rw [e_]; exact GW205.out)) (fun hn_ => (Kd.freshB (q_b BK205.out) k_ hn_))⟩)) (below_size bq)); have n2_ := Aside0.mk (blk_below (q_b BK204.out) hb); have n3_ := Aside0.mk (blk_below (q_b BK205.out) hb); have n4_ := Aside0.mk (below_step bq hb); revert n0_ n1_ n2_ n3_ n4_; clear HO_206002 BK204 BK205 HB; intro HO_206002 HO209 BK204 BK205 HB; (try clear hb); (try clear hb2); (try clear hk); (try clear hi); (try clear ho0)))
        have n0_ := Aside0.mk (Kd.S_drew HO_206002.out)
        have n1_ := Aside0.mk (Kd.V_drew HO209.out)
        have n2_ := Aside0.mk (blk_drew BK204.out)
        have n3_ := Aside0.mk (blk_drew BK205.out)
        have n4_ := Aside0.mk (below_drew1 HB.out)
        clear HO_206002
        clear HO209
        clear BK204
        clear BK205
        clear HB
        have HO_206002 := n0_
        have HO209 := n1_
        have BK204 := n2_
        have BK205 := n3_
        have HB := n4_
        clear n0_ n1_ n2_ n3_ n4_
        obtain ⟨Ao21, co21, eo21⟩ := Kd.V_slice HO209.out
        (first | subst eo21 | (injection eo21 with f1_ f2_ f3_; have f4_ := f1_.symm; have f5_ := f3_.symm; clear f1_ f2_ f3_; subst f4_; subst f5_))
        refine start_ (n := 8) (S := fun w' => w'.cell? ⟨gb205, 0, none⟩ = some (.int .i64 0) ∧ w'.cell? ⟨gb205, 1, none⟩ = some (.int .i64 x206001_1) ∧ w'.cell? ⟨gb205, 2, none⟩ = some (u206002)) (ds := [7]) #[false, false, false, false, false, false, false, false] (by kernel_rfl) rfl rfl ⟨q_z BK205.out 0, q_z BK205.out 1, q_z BK205.out 2⟩ (fun hHeld => ?_); refine with_tabW impl_UnframeAll.tab7 impl_UnframeAll.bits7 (fun HT_ HW_ => ?_)
        generalize w19.drew = w20 at HO_206002 HO209 BK204 BK205 HB hHeld ⊢
        refine q_p 0 (some 22) #[true, false, false, false, false, false, false, false] HT_.out ?_
        refine q_p 2 (some 24) #[true, false, true, false, false, false, false, false] HT_.out ?_
        refine q_t 1 (some 23) #[true, true, true, false, false, false, false, false] HT_.out HW_.out hHeld ?_
        refine one_ (i := 3) (N := some 25) #[true, true, true, true, false, false, false, false] rfl rfl (one_of HT_.out (by kernel_rfl)) (by decide) (fun K hK => ?_)
        refine goes_ Try.func60 (by kernel_rfl) rfl #[.slice Ao21 t207.length co21] (by rfl) rfl rfl (by (try simp only [List.map_toArray, List.map_cons, List.map_nil]); first | done | rfl | (simp only [List.length_drop, List.length_take]; rfl)) ?_
        with_reducible refine (bytes_Clone.calls _ _ t207 t211 _ ?side1 ?side2 A13.out).mono ?_
        (case side1 => exact q_c ((Kd.V_reads' HO209.out).2.2))
        (case side2 => exact (Kd.V_reads' HO209.out).2.1)
        rintro e w22 ⟨v212, rfl, ho0, hb⟩
        refine ⟨_, rfl, ?_⟩
        have n0_ := Aside0.mk (Kd.S_elder' (q_s (HO_206002.out)) (Kd.R_base ho0) hb)
        have n1_ := Aside0.mk (Kd.V_elder' (q_v (HO209.out)) (Kd.R_base ho0) hb)
        have n2_ := Aside0.mk (Kd.R_lower ho0 (below_size bq))
        have n3_ := Aside0.mk (blk_below (q_b BK204.out) hb)
        have n4_ := Aside0.mk (blk_below (q_b BK205.out) hb)
        have n5_ := Aside0.mk (below_step bq hb)
        clear HO_206002
        clear HO209
        clear BK204
        clear BK205
        clear HB
        have HO_206002 := n0_
        have HO209 := n1_
        have HO213 := n2_
        have BK204 := n3_
        have BK205 := n4_
        have HB := n5_
        clear n0_ n1_ n2_ n3_ n4_ n5_
        (try clear hb)
        (try clear hb2)
        (try clear hk)
        (try clear hi)
        (try clear ho0)
        obtain ⟨Ao24, co24, eo24⟩ := Kd.R_slice HO213.out
        (first | subst eo24 | (injection eo24 with f1_ f2_ f3_; have f4_ := f1_.symm; have f5_ := f3_.symm; clear f1_ f2_ f3_; subst f4_; subst f5_))
        refine hK.out _ _ ⟨q_z BK205.out 0, q_z BK205.out 1, q_z BK205.out 2⟩ (fun hHeld => ?_)
        clear hK K
        refine norm_ (a' := ?_) ?_ ?_
        rotate_left
        ·show Act.put _ (some 25) _ = _
         simp only [Act.put, List.setIfInBounds_toArray, List.set_cons_zero, List.set_cons_succ, i64_w, i32_w]
         rfl
        refine one_ (i := 4) (N := some 26) #[true, true, true, true, true, false, false, false] rfl rfl (one_of HT_.out (by kernel_rfl)) (by decide) (fun K hK => ?_)
        refine value_ (w1 := ?_) (v := ?_) (by rfl) rfl ?_ ?_
        rotate_left 2
        ·go_simp
         constructor
         ·rfl
         ·rfl
        refine hK.out _ _ ⟨(blk_cell (blk_alloc BK205.out _) 0).trans rfl, (blk_cell (blk_alloc BK205.out _) 1).trans rfl, (blk_cell (blk_alloc BK205.out _) 2).trans rfl⟩ (fun hHeld => ?_)
        clear hK K
        refine norm_ (a' := ?_) ?_ ?_
        rotate_left
        ·show Act.put _ (some 26) _ = _
         simp only [Act.put, List.setIfInBounds_toArray, List.set_cons_zero, List.set_cons_succ, i64_w, i32_w]
         rfl
        refine one_ (i := 5) (N := some 27) #[true, true, true, true, true, true, false, false] rfl rfl (one_of HT_.out (by kernel_rfl)) (by decide) (fun K hK => ?_)
        refine Kd.S_append_step (Kd.slice 5 (Kd.int .u8)) (w0 := w) w.heap.size (by rfl) (.tmp 23) (.tmp 26) 40 22 (.slice none 0 0) 24 rfl Try.underlying40 info22 rfl (by decide) (by omega) u206002 x206002_1 t211 [.slice Ao24 t211.length co24] (fun _ => True) (fun k_ => some k_ = (.slice Ao24 t211.length co24 : Value).ownBlock) rfl rfl ?aP (fun k_ hk_ => ((Kd.R_mono (ok' := fun k_ => ((fun _ => True)) k_ ∧ some k_ ≠ (u206002 : Value).ownBlock) (Kd.R_apart' (HO213.out) (Kd.S_typed HO_206002.out) (by decide)) (fun k_ hk => ⟨trivial, hk.2⟩))).1 k_ hk_.symm) ?aF ?aO ?aB ?aS ?aL ?_
        (case aP => exact Kd.M_row (Kd.R_mono (Kd.R_tight rfl (Kd.R_mono (ok' := fun k_ => ((fun _ => True)) k_ ∧ some k_ ≠ (u206002 : Value).ownBlock) (Kd.R_apart' (HO213.out) (Kd.S_typed HO_206002.out) (by decide)) (fun k_ hk => ⟨trivial, hk.2⟩))) (fun _ h_ => h_)))
        (case aB => exact bq)
        (case aF => exact (fun _ _ => trivial))
        (case aO => exact (by (with_reducible repeat (first | apply Kd.S_alloc | apply Kd.S_drewN | apply Kd.S_drew)); exact Kd.S_mono HO_206002.out (fun k_ hk => ⟨trivial, fun e_ => hk.2 e_⟩)))
        (case aS => exact (below_size bq))
        (case aL => have := LMc14.out; omega)
        intro v215 w23 ho hb hg hat
        rw [← Ny214.out] at ho
        have n0_ := Aside0.mk (blk_grown (q_b BK204.out) hg (Kd.S_ne HO_206002.out BK204.out (by decide)))
        have n1_ := Aside0.mk (blk_grown (q_b BK205.out) hg (Kd.S_ne HO_206002.out BK205.out (by decide)))
        have n2_ := Aside0.mk (Kd.V_afterv (ok := (fun k_ => some k_ ≠ (.slice Ao24 t211.length co24 : Value).ownBlock ∧ k_ ≠ gb204 ∧ k_ ≠ gb205)) (by (with_reducible repeat (first | apply Kd.V_alloc | apply Kd.V_drewN | apply Kd.V_drew)); exact Kd.V_mono HO209.out (fun _ hk => ⟨⟨hk.2, ⟨hk.1.2.1, hk.1.2.2⟩⟩, hk.1.1⟩)) hg hat)
        have n3_ := Aside0.mk (hb)
        have n4_ := Aside0.mk (ho)
        clear BK204
        clear BK205
        clear HO209
        clear HB
        clear HO_206002
        clear HO213
        have BK204 := n0_
        have BK205 := n1_
        have HO209 := n2_
        have HB := n3_
        have HO216 := n4_
        clear n0_ n1_ n2_ n3_ n4_
        clear ho hb hg hat
        obtain ⟨Ao25, co25, eo25⟩ := Kd.S_slice HO216.out
        (first | subst eo25 | (injection eo25 with f1_ f2_ f3_; have f4_ := f1_.symm; have f5_ := f3_.symm; clear f1_ f2_ f3_; subst f4_; subst f5_))
        refine hK.out _ _ ⟨q_z BK205.out 0, q_z BK205.out 1, q_z BK205.out 2⟩ (fun hHeld => ?_)
        clear hK K
        refine norm_ (a' := ?_) ?_ ?_
        rotate_left
        ·show Act.put _ (some 27) _ = _
         simp only [Act.put, List.setIfInBounds_toArray, List.set_cons_zero, List.set_cons_succ, i64_w, i32_w]
         rfl
        refine q_p 6 (some 28) #[true, true, true, true, true, true, true, false] HT_.out ?_
        refine last_ (i := 7) (N := none) #[true, true, true, true, true, true, true, true] rfl rfl (one_of HT_.out (by kernel_rfl)) (by decide) (fun K hK => ?_)
        have hs26 : w23.cell? ⟨gb205, 2, none⟩ = some (u206002) := (blk_cell BK205.out 2).trans rfl
        have hfs26 := blk_frozen BK205.out 2
        have hns26_0 := NB204_205.out
        have hms26_0 := NB205_204.out
        refine skip_ (w1 := ?_) (by rfl) rfl ?_ ?_
        rotate_left
        ·go_simp
         rfl
        refine hK.out _ _ ?_
        clear hK K
        refine done_ (done_of HT_.out (by kernel_rfl)) ?_
        try go_wp2
        have n0_ : Aside0 (Kd.V (Kd.int .u8) 5 (w23.setCell ⟨gb205, 2, none⟩ (.slice Ao25 y214.length co25)) w.heap.size (fun k_ => some k_ ≠ (.slice Ao25 y214.length co25 : Value).ownBlock ∧ k_ ≠ gb204 ∧ k_ ≠ gb205) (.slice Ao21 t207.length co21) t207) := ⟨by (with_reducible repeat (first | apply Kd.V_alloc | apply Kd.V_drewN | apply Kd.V_drew)); exact Kd.V_mono (Kd.V_far (p := ⟨gb205, 2, none⟩) (Kd.V_mono HO209.out (fun k_ hk => (⟨hk, hk.1.2.2⟩ : _ ∧ k_ ≠ gb205))) (fun _ hk => hk.2) (.slice Ao25 y214.length co25)) (fun _ hk => ⟨hk.1.2, ⟨hk.1.1.2.1, hk.1.1.2.2⟩⟩)⟩
        have n1_ : Aside0 (Kd.S (Kd.slice 5 (Kd.int .u8)) 22 (w23.setCell ⟨gb205, 2, none⟩ (.slice Ao25 y214.length co25)) w.heap.size (fun _ => True) (.slice Ao25 y214.length co25) y214) := ⟨by (with_reducible repeat (first | apply Kd.S_alloc | apply Kd.S_drewN | apply Kd.S_drew)); exact Kd.S_mono (Kd.S_far (p := ⟨gb205, 2, none⟩) (Kd.S_types HO216.out BK205.out (by decide)) (fun _ hk => hk.2) (.slice Ao25 y214.length co25)) (fun _ hk => trivial)⟩
        have n2_ : Aside0 ((w23.setCell ⟨gb205, 2, none⟩ (.slice Ao25 y214.length co25)).heap[gb204]? = some (.cells #[.int .i64 x205000_1, .int .i64 x205001_1, .slice none 0 0] 43 (0, 0))) := ⟨by (with_reducible repeat (first | refine blk_drewN ?_ _ | refine blk_drew ?_ | refine blk_alloc ?_ _)); refine blk_far ?_ NB204_205.out _; (with_reducible repeat (first | refine blk_drewN ?_ _ | refine blk_drew ?_ | refine blk_alloc ?_ _)); exact BK204.out⟩
        have n3_ : Aside0 ((w23.setCell ⟨gb205, 2, none⟩ (.slice Ao25 y214.length co25)).heap[gb205]? = some (.cells #[.int .i64 0, .int .i64 x206001_1, .slice Ao25 y214.length co25] 43 (0, 0))) := ⟨by (with_reducible repeat (first | refine blk_drewN ?_ _ | refine blk_drew ?_ | refine blk_alloc ?_ _)); refine blk_put (cs := #[.int .i64 0, .int .i64 x206001_1, u206002]) ?_ 2 _ rfl; (with_reducible repeat (first | refine blk_drewN ?_ _ | refine blk_drew ?_ | refine blk_alloc ?_ _)); exact BK205.out⟩
        have n4_ : Aside0 (Below w.heap.size w (w23.setCell ⟨gb205, 2, none⟩ (.slice Ao25 y214.length co25))) := ⟨bq⟩
        (try clear HO209)
        (try clear HO216)
        (try clear BK204)
        (try clear BK205)
        (try clear HB)
        generalize (w23.setCell ⟨gb205, 2, none⟩ (.slice Ao25 y214.length co25)) = w27 at n0_ n1_ n2_ n3_ n4_ ⊢
        have HO209 := n0_
        have HO216 := n1_
        have BK204 := n2_
        have BK205 := n3_
        have HB := n4_
        clear n0_ n1_ n2_ n3_ n4_
        have n0_ := Aside0.mk (Kd.V_drew HO209.out)
        have n1_ := Aside0.mk (Kd.S_drew HO216.out)
        have n2_ := Aside0.mk (blk_drew BK204.out)
        have n3_ := Aside0.mk (blk_drew BK205.out)
        have n4_ := Aside0.mk (below_drew1 HB.out)
        clear HO209
        clear HO216
        clear BK204
        clear BK205
        clear HB
        have HO209 := n0_
        have HO216 := n1_
        have BK204 := n2_
        have BK205 := n3_
        have HB := n4_
        clear n0_ n1_ n2_ n3_ n4_
        refine start_ (n := 8) (S := fun w' => w'.cell? ⟨gb205, 0, none⟩ = some (.int .i64 0) ∧ w'.cell? ⟨gb205, 1, none⟩ = some (.int .i64 x206001_1) ∧ w'.cell? ⟨gb205, 2, none⟩ = some (.slice Ao25 y214.length co25)) (ds := [7]) #[false, false, false, false, false, false, false, false] (by kernel_rfl) rfl rfl ⟨q_z BK205.out 0, q_z BK205.out 1, q_z BK205.out 2⟩ (fun hHeld => ?_); refine with_tabW impl_UnframeAll.tab8 impl_UnframeAll.bits8 (fun HT_ HW_ => ?_)
        generalize w27.drew = w28 at HO209 HO216 BK204 BK205 HB hHeld ⊢
        refine q_p 0 (some 29) #[true, false, false, false, false, false, false, false] HT_.out ?_
        refine q_p 2 (some 31) #[true, false, true, false, false, false, false, false] HT_.out ?_
        refine q_t 1 (some 30) #[true, true, true, false, false, false, false, false] HT_.out HW_.out hHeld ?_
        refine one_ (i := 3) (N := some 32) #[true, true, true, true, false, false, false, false] rfl rfl (one_of HT_.out (by kernel_rfl)) (by decide) (fun K hK => ?_)
        refine goes_ Try.func54 (by kernel_rfl) rfl #[.slice Ao21 t207.length co21] (by rfl) rfl rfl (by (try simp only [List.map_toArray, List.map_cons, List.map_nil]); first | done | rfl | (simp only [List.length_drop, List.length_take]; rfl)) ?_
        with_reducible refine (impl_size_byte.calls _ _ t207 t217 _ ?side1 ?side2 A15.out).mono ?_
        (case side1 => exact q_c ((Kd.V_reads' HO209.out).2.2))
        (case side2 => exact (Kd.V_reads' HO209.out).2.1)
        rintro e w' ⟨rfl, ⟨nd, rfl⟩⟩
        refine ⟨_, rfl, ?_⟩
        refine hK.out _ _ ⟨q_z BK205.out 0, q_z BK205.out 1, q_z BK205.out 2⟩ (fun hHeld => ?_)
        clear hK K
        refine norm_ (a' := ?_) ?_ ?_
        rotate_left
        ·show Act.put _ (some 32) _ = _
         simp only [Act.put, List.setIfInBounds_toArray, List.set_cons_zero, List.set_cons_succ, i64_w, i32_w]
         rfl
        refine q_p 4 (some 33) #[true, true, true, true, true, false, false, false] HT_.out ?_
        refine q_p 5 (some 34) #[true, true, true, true, true, true, false, false] HT_.out ?_
        refine q_p 6 (some 35) #[true, true, true, true, true, true, true, false] HT_.out ?_
        refine last_ (i := 7) (N := none) #[true, true, true, true, true, true, true, true] rfl rfl (one_of HT_.out (by kernel_rfl)) (by decide) (fun K hK => ?_)
        have hs29 : w28.cell? ⟨gb205, 1, none⟩ = some (.int .i64 x206001_1) := (blk_cell BK205.out 1).trans rfl
        have hfs29 := blk_frozen BK205.out 1
        have hns29_0 := NB204_205.out
        have hms29_0 := NB205_204.out
        refine skip_ (w1 := ?_) (by rfl) rfl ?_ ?_
        rotate_left
        ·go_simp
         rfl
        refine hK.out _ _ ?_
        clear hK K
        refine done_ (done_of HT_.out (by kernel_rfl)) ?_
        try go_wp2
        go_roundg k1
        case measure => have := HK1.out; omega
        case rel => exact ⟨(x205000_1), (x205001_1), (wrap64 (x206001_1 + (wrap64 (4 + t217)))), (y214), (.slice Ao25 y214.length co25), H', ⟨by have := HK1.out; omega⟩, ⟨by (with_reducible repeat (first | apply Kd.S_alloc | apply Kd.S_drewN | apply Kd.S_drew)); exact Kd.S_mono (Kd.S_far (p := ⟨gb205, 1, none⟩) (Kd.S_types HO216.out BK205.out (by decide)) (fun _ hk => hk.2) (.int .i64 (wrap64 (x206001_1 + (wrap64 (4 + t217)))))) (fun _ hk => trivial)⟩, ⟨by (with_reducible repeat (first | refine blk_drewN ?_ _ | refine blk_drew ?_ | refine blk_alloc ?_ _)); refine blk_far ?_ NB204_205.out _; (with_reducible repeat (first | refine blk_drewN ?_ _ | refine blk_drew ?_ | refine blk_alloc ?_ _)); exact BK204.out⟩, ⟨by (with_reducible repeat (first | refine blk_drewN ?_ _ | refine blk_drew ?_ | refine blk_alloc ?_ _)); refine blk_put (cs := #[.int .i64 0, .int .i64 x206001_1, .slice Ao25 y214.length co25]) ?_ 1 _ rfl; (with_reducible repeat (first | refine blk_drewN ?_ _ | refine blk_drew ?_ | refine blk_alloc ?_ _)); exact BK205.out⟩, ⟨bq⟩⟩
       ·rw [if_neg c14] at H
        exact absurd H (by simp)
      ·replace c12 := Bool.eq_false_iff.mpr c12
       subst c12
       have H1 : (some (0, x206001_1, x206002_1)) = some (r1, r2, r3) := by rw [if_neg (show ¬ (false = true) by decide)] at H; exact H
       clear H
       have H := H1
       clear H1
       simp only [Option.some.injEq, Prod.mk.injEq] at H
       obtain ⟨rfl, rfl, rfl⟩ := H
       have hnb30 := NB205_204.out
       have hnc30 := NB204_205.out
       obtain ⟨hcz31_0, hcz31_1, hcz31_2, hfz31_0, hfz31_1, hfz31_2⟩ := q_3 BK205.out
       obtain ⟨i032, hi032, _, hsz32, _⟩ := info_parts info5
       obtain ⟨A32, hcut32, hA32, hC32⟩ := print_drop_of (P := Try.prog) (Value.int .u8) 0 22 5 .i64 Try.underlying22 hi032 hsz32 A0 c0 l0 x206001_1 q_d q_d HC0.out
       have HR206 := Aside0.mk (Kd.C_of_reads (h1 := fun _ => rfl) (hA32 _ (Kd.reads_of_C HR0.out)))
       have HC206 := Aside0.mk hC32
       clear hA32 hC32 hi032 hsz32
       go_wp2_with (first | ((with_reducible refine gate_callee (f := 59) rfl ?_); refine goesL_ (some 16) rfl rfl Try.func59 (by kernel_rfl) rfl #[.slice A32 (l0.drop (x206001_1 : Int).toNat).length (c0 - x206001_1.toNat)] rfl (by (try simp only [List.map_toArray, List.map_cons, List.map_nil]); first | done | (rw [show (l0.drop (x206001_1 : Int).toNat).length = (l0.length - x206001_1.toNat) from List.length_drop] <;> rfl) | rfl | (simp only [List.length_drop, List.length_take]; rfl)) ?_; (with_reducible refine (impl_unframe.calls k1 (fun k_ => k_ < w.heap.size) _ _ (l0.drop (x206001_1 : Int).toNat) t207 false _ ?side1 A11.out).mono ?_); (case side1 => exact Kd.V_mk HC206.out (Kd.F_below (Kd.C_F (Kd.heap_int .u8) HR206.out) bq)); rintro e w33 ⟨v208, rfl, ho0, hb⟩; refine ⟨_, rfl, ?_⟩; have n0_ := Aside0.mk (Kd.S_below (q_s (HO_206002.out)) hb); have n1_ := Aside0.mk (Kd.V_lower (Kd.V_mono (ok' := fun k_ => some k_ ≠ (u206002 : Value).ownBlock ∧ k_ ≠ gb204 ∧ k_ ≠ gb205) ho0 (fun k_ hk_ => ⟨Or.elim hk_ (fun hs_ => fun e_ => Nat.not_le.2 hs_ (Kd.S_base HO_206002.out k_ e_.symm)) (fun hn_ => (Kd.fresh' (Kd.S_lt (q_s (HO_206002.out))) k_ hn_)), Or.elim hk_ (fun hs_ => fun e_ => Nat.not_le.2 hs_ (by rw [e_]; exact GW204.out)) (fun hn_ => (Kd.freshB (q_b BK204.out) k_ hn_)), Or.elim hk_ (fun hs_ => fun e_ => Nat.not_le.2 hs_ (by rw [e_]; exact GW205.out)) (fun hn_ => (Kd.freshB (q_b BK205.out) k_ hn_))⟩)) (below_size bq)); have n2_ := Aside0.mk (blk_below (q_b BK204.out) hb); have n3_ := Aside0.mk (blk_below (q_b BK205.out) hb); have n4_ := Aside0.mk (below_step bq hb); revert n0_ n1_ n2_ n3_ n4_; clear HO_206002 BK204 BK205 HB; intro HO_206002 HO209 BK204 BK205 HB; (try clear hb); (try clear hb2); (try clear hk); (try clear hi); (try clear ho0); obtain ⟨hcz34_0, hcz34_1, hcz34_2, hfz34_0, hfz34_1, hfz34_2⟩ := q_3 BK205.out; obtain ⟨hcz35_0, hcz35_1, hcz35_2, hfz35_0, hfz35_1, hfz35_2⟩ := q_3 BK204.out; obtain ⟨Ao36, co36, eo36⟩ := Kd.S_slice HO_206002.out; subst eo36))
       refine bodyPost_ret (results_cell_row rfl _ _ gb204 43 #[.int .i64 0, .int .i64 x206001_1, .slice Ao36 x206002_1.length co36] (0, 0) _ rfl (by (with_reducible repeat (first | refine blk_drewN ?_ _ | refine blk_drew ?_ | refine blk_alloc ?_ _)); refine blk_put (cs := #[.int .i64 0, .int .i64 x206001_1, .slice none 0 0]) ?_ 2 _ rfl; (with_reducible repeat (first | refine blk_drewN ?_ _ | refine blk_drew ?_ | refine blk_alloc ?_ _)); refine blk_put (cs := #[.int .i64 0, .int .i64 x205001_1, .slice none 0 0]) ?_ 1 _ rfl; (with_reducible repeat (first | refine blk_drewN ?_ _ | refine blk_drew ?_ | refine blk_alloc ?_ _)); refine blk_put (cs := #[.int .i64 x205000_1, .int .i64 x205001_1, .slice none 0 0]) ?_ 0 _ rfl; (with_reducible repeat (first | refine blk_drewN ?_ _ | refine blk_drew ?_ | refine blk_alloc ?_ _)); exact BK204.out) Try.underlying43 rfl (by kernel_rfl)) rfl ?_
       exact ⟨_, q_e, by (with_reducible repeat (first | apply Kd.S_alloc | apply Kd.S_drewN | apply Kd.S_drew)); exact Kd.S_mono (Kd.S_far (p := ⟨gb204, 2, none⟩) (Kd.S_far (p := ⟨gb204, 1, none⟩) (Kd.S_far (p := ⟨gb204, 0, none⟩) (Kd.S_types HO_206002.out BK204.out (by decide)) (fun _ hk => hk.2) (.int .i64 0)) (fun _ hk => hk.2) (.int .i64 x206001_1)) (fun _ hk => hk.2) (.slice Ao36 x206002_1.length co36)) (fun _ hk => trivial), bq⟩
     ·rw [if_neg c10] at H
      exact absurd H (by simp)
    ·rw [if_neg c9] at H
     exact absurd H (by simp)

end Go.Proofs.Ytcdpiejcdeedoaa.PFnFrames
