/- The functions that a law reaches, each as a plain Lean function with the proof that the machine comes to its answer: written by program (the kit's print, turned by wip/gen). No conditions. -/
import Derived.Test.YtcdpiejcdeedoaaPFnAppendsx0
import Derived.Test.YtcdpiejcdeedoaaPFnAppendsx1
import Derived.Test.YtcdpiejcdeedoaaPFnAppendsx3
import Derived.Test.YtcdpiejcdeedoaaPFnAppendsx5
namespace Go.Proofs.Ytcdpiejcdeedoaa.PFnAppends
open Go.RowKit Go.Proofs.YtcdpiejcdeedoaaW.PrintWords Go.Proofs.YtcdpiejcdeedoaaW.PrintLast Go.Proofs.YtcdpiejcdeedoaaW.PrintMore
attribute [local go_sem] max2_int min2_int max_two min_two max_three min_three max_four min_four   -- for this text's walks alone
set_option linter.unusedVariables false
set_option linter.unusedSimpArgs false

/-! ### impl_UnframeAll: function 30 -/
def impl_UnframeAll.l0 : Nat → List Int → Int → Int → List (List Int) → Option (Int × Int × (List (List Int)))
  | 0, _, _, _, _ => none
  | k + 1, x0, x269000, x269001, x269002 => if 0 ≤ x269001 then (if x269001 ≤ (x0.length : Int) then ((impl_unframe.f k (x0.drop (x269001 : Int).toNat)).bind fun bt270 => (if bt270.2 = true then ((bytes_Clone.f bt270.1).bind fun t274 => (if x269002.length < 5864062014805 then ((impl_size_byte.f bt270.1).bind fun t280 => (impl_UnframeAll.l0 k x0 x269000 (wrap64 (x269001 + (wrap64 (4 + t280)))) (x269002 ++ [t274]))) else (none))) else (some (x269000, x269001, x269002)))) else (none)) else (none)
def impl_UnframeAll.f (k : Nat) (l0 : List Int) : Option (Int × Int × (List (List Int))) := if (l0.length : Int) > 6000 then (some (2, 0, ([] : List (List Int)))) else (impl_UnframeAll.l0 k l0 0 0 ([] : List (List Int)))
def impl_UnframeAll.T7 : Bool × List (List Nat × List Nat) := (true, [([], []), ([0], [0]), ([], []), ([2], [2]), ([3], [3]), ([1, 4, 3], [1, 4]), ([0, 1, 2, 3, 4, 5], []), ([6, 5, 5, 0, 1, 2, 3, 4, 5], [5, 6])])
def impl_UnframeAll.B7 : List Nat := [0, 1, 0, 4, 12, 31, 63, 127]
theorem impl_UnframeAll.tab7 : rtab .any (opsOf Try.f30 7) = impl_UnframeAll.T7 := by kernel_rfl
theorem impl_UnframeAll.bits7 : waitsOk impl_UnframeAll.T7.2 impl_UnframeAll.B7 = true := by kernel_rfl
def impl_UnframeAll.T8 : Bool × List (List Nat × List Nat) := (true, [([], []), ([0], [0]), ([], []), ([2], [2]), ([3], [3]), ([1, 4], [1, 4]), ([0, 1, 2, 3, 4, 5], []), ([6, 5, 3, 0, 1, 2, 3, 4, 5], [5, 6])])
def impl_UnframeAll.B8 : List Nat := [0, 1, 0, 4, 12, 31, 63, 127]
theorem impl_UnframeAll.tab8 : rtab .any (opsOf Try.f30 8) = impl_UnframeAll.T8 := by kernel_rfl
theorem impl_UnframeAll.bits8 : waitsOk impl_UnframeAll.T8.2 impl_UnframeAll.B8 = true := by kernel_rfl
set_option maxHeartbeats 8000000 in
set_option maxRecDepth 100000 in
theorem impl_UnframeAll.calls (k : Nat) (A0 : Option Addr) (c0 : Nat) (l0 : List Int) (r1 : Int) (r2 : Int) (r3 : List (List Int)) (w : World) (hr0 : Kd.C (Kd.int .u8) w A0 l0.length l0) (hc0 : l0.length ≤ c0) (h : impl_UnframeAll.f k l0 = some (r1, r2, r3)) :
  Calls Try.prog 30 #[.slice A0 l0.length c0] w fun e w' => ∃ v2_ : Value, e = .returned (.agg #[.int .i64 r1, .int .i64 r2, v2_]) ∧ Kd.S (Kd.slice 5 (Kd.int .u8)) 22 w' w.heap.size (fun _ => True) v2_ r3 ∧ Below w.heap.size w w' := by
 have hu43 := Try.underlying43
 have HR0 := Aside0.mk hr0
 have HC0 := Aside0.mk hc0
 clear hr0 hc0
 have HB := Aside0.mk (Below.refl w.heap.size w)
 have H : (if (l0.length : Int) > 6000 then (some (2, 0, ([] : List (List Int)))) else (impl_UnframeAll.l0 k l0 0 0 ([] : List (List Int)))) = some (r1, r2, r3) := h
 clear h
 by_cases c2 : (l0.length : Int) > 6000
 ·rw [if_pos c2] at H
  have c2b0 := decide_eq_true c2
  have c2b1 : decide (6000 < l0.length) = true := decide_eq_true (by omega)
  clear c2
  simp only [Option.some.injEq, Prod.mk.injEq] at H
  obtain ⟨rfl, rfl, rfl⟩ := H
  go_enter Try.func30, Try.ntmps30
  go_wp2_with (first | ((with_reducible refine gate_dst (N := 2) rfl ?_); refine q_box (N := 2) (cs := #[.int .i64 0, .int .i64 0, .slice none 0 0]) (t := 43) ?_; intro gb267 hg w3 hbox hb; have n0_ := Aside0.mk (below_step bq hb); have n1_ := Aside0.mk (hbox); have n2_ := Aside0.mk ((q_g hg bq : w.heap.size ≤ gb267)); have n3_ := Aside0.mk ((q_g hg bq : w.heap.size ≤ gb267)); revert n0_ n1_ n2_ n3_; clear HB; intro HB BK267 GW267 GE267; clear hb hbox hg; obtain ⟨hcz4_0, hcz4_1, hcz4_2, hfz4_0, hfz4_1, hfz4_2⟩ := q_3 BK267.out))
  refine bodyPost_ret (results_cell_row rfl _ _ gb267 43 #[.int .i64 2, .int .i64 0, .slice none 0 0] (0, 0) _ rfl (by (with_reducible repeat (first | refine blk_drewN ?_ _ | refine blk_drew ?_ | refine blk_alloc ?_ _)); refine blk_put (cs := #[.int .i64 2, .int .i64 0, .slice none 0 0]) ?_ 2 _ rfl; (with_reducible repeat (first | refine blk_drewN ?_ _ | refine blk_drew ?_ | refine blk_alloc ?_ _)); refine blk_put (cs := #[.int .i64 2, .int .i64 0, .slice none 0 0]) ?_ 1 _ rfl; (with_reducible repeat (first | refine blk_drewN ?_ _ | refine blk_drew ?_ | refine blk_alloc ?_ _)); refine blk_put (cs := #[.int .i64 0, .int .i64 0, .slice none 0 0]) ?_ 0 _ rfl; (with_reducible repeat (first | refine blk_drewN ?_ _ | refine blk_drew ?_ | refine blk_alloc ?_ _)); exact BK267.out) Try.underlying43 rfl (by kernel_rfl)) rfl ?_
  exact ⟨_, q_e, by first | exact Kd.S_nil _ _ _ _ _ | exact Kd.N_nil _ _ _ _ _ | exact Kd.V_nil _ _ _ _ _ | exact Kd.Q_nil _ _ _ _ _ | exact Kd.R_nil _ _ _ _ _, bq⟩
 ·rw [if_neg c2] at H
  have c2b0 := decide_eq_false c2
  have c2b1 : decide (6000 < l0.length) = false := decide_eq_false (by omega)
  clear c2
  have H' := Aside0.mk H
  clear H
  go_enter Try.func30, Try.ntmps30
  go_wp2_with (first | ((with_reducible refine gate_dst (N := 2) rfl ?_); refine q_box (N := 2) (cs := #[.int .i64 0, .int .i64 0, .slice none 0 0]) (t := 43) ?_; intro gb267 hg w5 hbox hb; have n0_ := Aside0.mk (below_step bq hb); have n1_ := Aside0.mk (hbox); have n2_ := Aside0.mk ((q_g hg bq : w.heap.size ≤ gb267)); have n3_ := Aside0.mk ((q_g hg bq : w.heap.size ≤ gb267)); revert n0_ n1_ n2_ n3_; clear HB; intro HB BK267 GW267 GE267; clear hb hbox hg) | ((with_reducible refine gate_dst (N := 3) rfl ?_); refine q_box (N := 3) (cs := #[.int .i64 0, .int .i64 0, .slice none 0 0]) (t := 43) ?_; intro gb268 hg w6 hbox hb; have n0_ := Aside0.mk (blk_below (q_b BK267.out) hb); have n1_ := Aside0.mk (below_step bq hb); have n2_ := Aside0.mk (hbox); have n3_ := Aside0.mk ((q_g hg bq : w.heap.size ≤ gb268)); have n4_ := Aside0.mk ((q_g hg bq : w.heap.size ≤ gb268)); have n5_ := Aside0.mk ((q_n hg (q_b BK267.out) : gb267 ≠ gb268)); have n6_ := Aside0.mk ((q_m hg (q_b BK267.out) : gb268 ≠ gb267)); revert n0_ n1_ n2_ n3_ n4_ n5_ n6_; clear BK267 HB; intro BK267 HB BK268 GW268 GE268 NB267_268 NB268_267; clear hb hbox hg; have hnb7 := NB268_267.out; have hnc7 := NB267_268.out; obtain ⟨hcz8_0, hcz8_1, hcz8_2, hfz8_0, hfz8_1, hfz8_2⟩ := q_3 BK268.out))
  go_loopg [] k (fun kq w' => ∃ (x268000_1 : Int) (x268001_1 : Int) (x269001_1 : Int) (x269002_1 : List (List Int)) (u269002 : Value), Aside0 (impl_UnframeAll.l0 kq l0 0 x269001_1 x269002_1 = some (r1, r2, r3)) ∧ Aside0 (kq ≤ k) ∧ Aside0 (Kd.S (Kd.slice 5 (Kd.int .u8)) 22 w' w.heap.size (fun _ => True) u269002 x269002_1) ∧ Aside0 (w'.heap[gb267]? = some (.cells #[.int .i64 x268000_1, .int .i64 x268001_1, (.slice none 0 0)] 43 (0, 0))) ∧ Aside0 (w'.heap[gb268]? = some (.cells #[.int .i64 0, .int .i64 x269001_1, u269002] 43 (0, 0))) ∧ Aside0 (Below w.heap.size w w'))
  case atStart => exact ⟨(0), (0), (0), (([] : List (List Int))), (.slice none 0 0), H', ⟨Nat.le_refl _⟩, ⟨by first | exact Kd.S_nil _ _ _ _ _ | exact Kd.N_nil _ _ _ _ _ | exact Kd.V_nil _ _ _ _ _ | exact Kd.Q_nil _ _ _ _ _ | exact Kd.R_nil _ _ _ _ _⟩, ⟨by (with_reducible repeat (first | refine blk_drewN ?_ _ | refine blk_drew ?_ | refine blk_alloc ?_ _)); refine blk_far ?_ NB267_268.out _; (with_reducible repeat (first | refine blk_drewN ?_ _ | refine blk_drew ?_ | refine blk_alloc ?_ _)); refine blk_far ?_ NB267_268.out _; (with_reducible repeat (first | refine blk_drewN ?_ _ | refine blk_drew ?_ | refine blk_alloc ?_ _)); refine blk_far ?_ NB267_268.out _; (with_reducible repeat (first | refine blk_drewN ?_ _ | refine blk_drew ?_ | refine blk_alloc ?_ _)); exact BK267.out⟩, ⟨by (with_reducible repeat (first | refine blk_drewN ?_ _ | refine blk_drew ?_ | refine blk_alloc ?_ _)); refine blk_put (cs := #[.int .i64 0, .int .i64 0, .slice none 0 0]) ?_ 2 _ rfl; (with_reducible repeat (first | refine blk_drewN ?_ _ | refine blk_drew ?_ | refine blk_alloc ?_ _)); refine blk_put (cs := #[.int .i64 0, .int .i64 0, .slice none 0 0]) ?_ 1 _ rfl; (with_reducible repeat (first | refine blk_drewN ?_ _ | refine blk_drew ?_ | refine blk_alloc ?_ _)); refine blk_put (cs := #[.int .i64 0, .int .i64 0, .slice none 0 0]) ?_ 0 _ rfl; (with_reducible repeat (first | refine blk_drewN ?_ _ | refine blk_drew ?_ | refine blk_alloc ?_ _)); exact BK268.out⟩, ⟨bq⟩⟩
  case round =>
   clear H'
   (try clear c2); (try clear c2b0); (try clear c2b1); (try clear p2); (try clear c3); (try clear c7); (try clear hcz4_0); (try clear hcz4_1); (try clear hcz4_2); (try clear hcz8_0); (try clear hcz8_1)
   (try clear hcz8_2); (try clear hfz4_0); (try clear hfz4_1); (try clear hfz4_2); (try clear hfz8_0); (try clear hfz8_1); (try clear hfz8_2)
   obtain ⟨x268000_1, x268001_1, x269001_1, x269002_1, u269002, HA, HK1, HO_269002, BK267, BK268, HB⟩ := hrel
   cases gk with
   | zero => exact absurd HA.out (by simp [impl_UnframeAll.l0])
   | succ k1 =>
    have H := HA.out
    clear HA
    simp only [impl_UnframeAll.l0] at H
    by_cases c9 : 0 ≤ x269001_1
    ·rw [if_pos c9] at H
     have c9b0 := eq_true c9
     have c9b1 := decide_eq_true c9
     clear c9
     by_cases c10 : x269001_1 ≤ (l0.length : Int)
     ·rw [if_pos c10] at H
      have c10b0 := eq_true c10
      have c10b1 := decide_eq_true c10
      clear c10
      replace H := Option.bind_eq_some_iff.mp H
      obtain ⟨⟨t270, t273⟩, A110, H⟩ := H
      replace H : (if t273 = true then ((bytes_Clone.f t270).bind fun t274 => (if x269002_1.length < 5864062014805 then ((impl_size_byte.f t270).bind fun t280 => (impl_UnframeAll.l0 k1 l0 0 (wrap64 (x269001_1 + (wrap64 (4 + t280)))) (x269002_1 ++ [t274]))) else (none))) else (some (0, x269001_1, x269002_1))) = some (r1, r2, r3) := H
      have A11 := Aside0.mk A110
      clear A110
      by_cases c12 : t273 = true
      ·subst c12
       have H1 : ((bytes_Clone.f t270).bind fun t274 => (if x269002_1.length < 5864062014805 then ((impl_size_byte.f t270).bind fun t280 => (impl_UnframeAll.l0 k1 l0 0 (wrap64 (x269001_1 + (wrap64 (4 + t280)))) (x269002_1 ++ [t274]))) else (none))) = some (r1, r2, r3) := by rw [if_pos rfl] at H; exact H
       clear H
       have H := H1
       clear H1
       replace H := Option.bind_eq_some_iff.mp H
       obtain ⟨t274, A130, H⟩ := H
       replace H : (if x269002_1.length < 5864062014805 then ((impl_size_byte.f t270).bind fun t280 => (impl_UnframeAll.l0 k1 l0 0 (wrap64 (x269001_1 + (wrap64 (4 + t280)))) (x269002_1 ++ [t274]))) else (none)) = some (r1, r2, r3) := H
       have A13 := Aside0.mk A130
       clear A130
       by_cases c14 : x269002_1.length < 5864062014805
       ·rw [if_pos c14] at H
        have LMc14 := Aside0.mk c14
        clear c14
        obtain ⟨y277, hy277⟩ : ∃ y_ : List (List Int), y_ = (x269002_1 ++ [t274]) := ⟨_, rfl⟩
        replace H : ((impl_size_byte.f t270).bind fun t280 => (impl_UnframeAll.l0 k1 l0 0 (wrap64 (x269001_1 + (wrap64 (4 + t280)))) y277)) = some (r1, r2, r3) := q_h hy277 H
        have Ny277 := Aside0.mk hy277
        clear hy277
        replace H := Option.bind_eq_some_iff.mp H
        obtain ⟨t280, A150, H⟩ := H
        replace H : (impl_UnframeAll.l0 k1 l0 0 (wrap64 (x269001_1 + (wrap64 (4 + t280)))) y277) = some (r1, r2, r3) := H
        have A15 := Aside0.mk A150
        clear A150
        have H' := Aside0.mk H
        clear H
        have hnb16 := NB268_267.out
        have hnc16 := NB267_268.out
        obtain ⟨hcz17_0, hcz17_1, hcz17_2, hfz17_0, hfz17_1, hfz17_2⟩ := q_3 BK268.out
        obtain ⟨i018, hi018, _, hsz18, _⟩ := info_parts info5
        obtain ⟨A18, hcut18, hA18, hC18⟩ := print_drop_of (P := Try.prog) (Value.int .u8) 0 22 5 .i64 Try.underlying22 hi018 hsz18 A0 c0 l0 x269001_1 q_d q_d HC0.out
        have HR269 := Aside0.mk (Kd.C_of_reads (h1 := fun _ => rfl) (hA18 _ (Kd.reads_of_C HR0.out)))
        have HC269 := Aside0.mk hC18
        clear hA18 hC18 hi018 hsz18
        try go_wp2_with (first | ((with_reducible refine gate_callee (f := 59) rfl ?_); refine goesL_ (some 16) rfl rfl Try.func59 (by kernel_rfl) rfl #[.slice A18 (l0.drop (x269001_1 : Int).toNat).length (c0 - x269001_1.toNat)] rfl (by (try simp only [List.map_toArray, List.map_cons, List.map_nil]); first | done | (rw [show (l0.drop (x269001_1 : Int).toNat).length = (l0.length - x269001_1.toNat) from List.length_drop] <;> rfl) | rfl | (simp only [List.length_drop, List.length_take]; rfl)) ?_; (with_reducible refine (impl_unframe.calls k1 (fun k_ => k_ < w.heap.size) _ _ (l0.drop (x269001_1 : Int).toNat) t270 true _ ?side1 A11.out).mono ?_); (case side1 => exact Kd.V_mk HC269.out (Kd.F_below (Kd.C_F (Kd.heap_int .u8) HR269.out) bq)); rintro e w19 ⟨v271, rfl, ho0, hb⟩; refine ⟨_, rfl, ?_⟩; have n0_ := Aside0.mk (Kd.S_below (q_s (HO_269002.out)) hb); have n1_ := Aside0.mk (Kd.V_lower (Kd.V_mono (ok' := fun k_ => some k_ ≠ (u269002 : Value).ownBlock ∧ k_ ≠ gb267 ∧ k_ ≠ gb268) ho0 (fun k_ hk_ => ⟨Or.elim hk_ (fun hs_ => fun e_ => Nat.not_le.2 hs_ (Kd.S_base HO_269002.out k_ e_.symm)) (fun hn_ => (Kd.fresh' (Kd.S_lt (q_s (HO_269002.out))) k_ hn_)), Or.elim hk_ (fun hs_ => fun e_ => Nat.not_le.2 hs_ (by rw [e_]; exact GW267.out)) (fun hn_ => (Kd.freshB (q_b BK267.out) k_ hn_)), Or.elim hk_ (fun hs_ => fun e_ => Nat.not_le.2 hs_ (by rw [e_]; exact GW268.out)) (fun hn_ => (Kd.freshB (q_b BK268.out) k_ hn_))⟩)) (below_size bq)); have n2_ := Aside0.mk (blk_below (q_b BK267.out) hb); have n3_ := Aside0.mk (blk_below (q_b BK268.out) hb); have n4_ := Aside0.mk (below_step bq hb); revert n0_ n1_ n2_ n3_ n4_; clear HO_269002 BK267 BK268 HB; intro HO_269002 HO272 BK267 BK268 HB; (try clear hb); (try clear hb2); (try clear hk); (try clear hi); (try clear ho0)))
        have n0_ := Aside0.mk (Kd.S_drew HO_269002.out)
        have n1_ := Aside0.mk (Kd.V_drew HO272.out)
        have n2_ := Aside0.mk (blk_drew BK267.out)
        have n3_ := Aside0.mk (blk_drew BK268.out)
        have n4_ := Aside0.mk (below_drew1 HB.out)
        clear HO_269002
        clear HO272
        clear BK267
        clear BK268
        clear HB
        have HO_269002 := n0_
        have HO272 := n1_
        have BK267 := n2_
        have BK268 := n3_
        have HB := n4_
        clear n0_ n1_ n2_ n3_ n4_
        obtain ⟨Ao21, co21, eo21⟩ := Kd.V_slice HO272.out
        (first | subst eo21 | (injection eo21 with f1_ f2_ f3_; have f4_ := f1_.symm; have f5_ := f3_.symm; clear f1_ f2_ f3_; subst f4_; subst f5_))
        refine start_ (n := 8) (S := fun w' => w'.cell? ⟨gb268, 0, none⟩ = some (.int .i64 0) ∧ w'.cell? ⟨gb268, 1, none⟩ = some (.int .i64 x269001_1) ∧ w'.cell? ⟨gb268, 2, none⟩ = some (u269002)) (ds := [7]) #[false, false, false, false, false, false, false, false] (by kernel_rfl) rfl rfl ⟨q_z BK268.out 0, q_z BK268.out 1, q_z BK268.out 2⟩ (fun hHeld => ?_); refine with_tabW impl_UnframeAll.tab7 impl_UnframeAll.bits7 (fun HT_ HW_ => ?_)
        generalize w19.drew = w20 at HO_269002 HO272 BK267 BK268 HB hHeld ⊢
        refine q_p 0 (some 22) #[true, false, false, false, false, false, false, false] HT_.out ?_
        refine q_p 2 (some 24) #[true, false, true, false, false, false, false, false] HT_.out ?_
        refine q_t 1 (some 23) #[true, true, true, false, false, false, false, false] HT_.out HW_.out hHeld ?_
        refine one_ (i := 3) (N := some 25) #[true, true, true, true, false, false, false, false] rfl rfl (one_of HT_.out (by kernel_rfl)) (by decide) (fun K hK => ?_)
        refine goes_ Try.func60 (by kernel_rfl) rfl #[.slice Ao21 t270.length co21] (by rfl) rfl rfl (by (try simp only [List.map_toArray, List.map_cons, List.map_nil]); first | done | rfl | (simp only [List.length_drop, List.length_take]; rfl)) ?_
        with_reducible refine (bytes_Clone.calls _ _ t270 t274 _ ?side1 ?side2 A13.out).mono ?_
        (case side1 => exact q_c ((Kd.V_reads' HO272.out).2.2))
        (case side2 => exact (Kd.V_reads' HO272.out).2.1)
        rintro e w22 ⟨v275, rfl, ho0, hb⟩
        refine ⟨_, rfl, ?_⟩
        have n0_ := Aside0.mk (Kd.S_elder' (q_s (HO_269002.out)) (Kd.R_base ho0) hb)
        have n1_ := Aside0.mk (Kd.V_elder' (q_v (HO272.out)) (Kd.R_base ho0) hb)
        have n2_ := Aside0.mk (Kd.R_lower ho0 (below_size bq))
        have n3_ := Aside0.mk (blk_below (q_b BK267.out) hb)
        have n4_ := Aside0.mk (blk_below (q_b BK268.out) hb)
        have n5_ := Aside0.mk (below_step bq hb)
        clear HO_269002
        clear HO272
        clear BK267
        clear BK268
        clear HB
        have HO_269002 := n0_
        have HO272 := n1_
        have HO276 := n2_
        have BK267 := n3_
        have BK268 := n4_
        have HB := n5_
        clear n0_ n1_ n2_ n3_ n4_ n5_
        (try clear hb)
        (try clear hb2)
        (try clear hk)
        (try clear hi)
        (try clear ho0)
        obtain ⟨Ao24, co24, eo24⟩ := Kd.R_slice HO276.out
        (first | subst eo24 | (injection eo24 with f1_ f2_ f3_; have f4_ := f1_.symm; have f5_ := f3_.symm; clear f1_ f2_ f3_; subst f4_; subst f5_))
        refine hK.out _ _ ⟨q_z BK268.out 0, q_z BK268.out 1, q_z BK268.out 2⟩ (fun hHeld => ?_)
        clear hK K
        refine norm_ (a' := ?_) ?_ ?_
        rotate_left
        ·show Act.put _ (some 25) _ = _
         simp only [Act.put, List.setIfInBounds_toArray, List.set_cons_zero, List.set_cons_succ, i64_w, i32_w]
         rfl
        refine one_ (i := 4) (N := some 26) #[true, true, true, true, true, false, false, false] rfl rfl (one_of HT_.out (by kernel_rfl)) (by decide) (fun K hK => ?_)
        refine value_ (w1 := ?_) (v := ?_) (by rfl) rfl ?_ ?_
        rotate_left 2
        ·go_simp
         constructor
         ·rfl
         ·rfl
        refine hK.out _ _ ⟨(blk_cell (blk_alloc BK268.out _) 0).trans rfl, (blk_cell (blk_alloc BK268.out _) 1).trans rfl, (blk_cell (blk_alloc BK268.out _) 2).trans rfl⟩ (fun hHeld => ?_)
        clear hK K
        refine norm_ (a' := ?_) ?_ ?_
        rotate_left
        ·show Act.put _ (some 26) _ = _
         simp only [Act.put, List.setIfInBounds_toArray, List.set_cons_zero, List.set_cons_succ, i64_w, i32_w]
         rfl
        refine one_ (i := 5) (N := some 27) #[true, true, true, true, true, true, false, false] rfl rfl (one_of HT_.out (by kernel_rfl)) (by decide) (fun K hK => ?_)
        refine Kd.S_append_step (Kd.slice 5 (Kd.int .u8)) (w0 := w) w.heap.size (by rfl) (.tmp 23) (.tmp 26) 40 22 (.slice none 0 0) 24 rfl Try.underlying40 info22 rfl (by decide) (by omega) u269002 x269002_1 t274 [.slice Ao24 t274.length co24] (fun _ => True) (fun k_ => some k_ = (.slice Ao24 t274.length co24 : Value).ownBlock) rfl rfl ?aP (fun k_ hk_ => ((Kd.R_mono (ok' := fun k_ => ((fun _ => True)) k_ ∧ some k_ ≠ (u269002 : Value).ownBlock) (Kd.R_apart' (HO276.out) (Kd.S_typed HO_269002.out) (by decide)) (fun k_ hk => ⟨trivial, hk.2⟩))).1 k_ hk_.symm) ?aF ?aO ?aB ?aS ?aL ?_
        (case aP => exact Kd.M_row (Kd.R_mono (Kd.R_tight rfl (Kd.R_mono (ok' := fun k_ => ((fun _ => True)) k_ ∧ some k_ ≠ (u269002 : Value).ownBlock) (Kd.R_apart' (HO276.out) (Kd.S_typed HO_269002.out) (by decide)) (fun k_ hk => ⟨trivial, hk.2⟩))) (fun _ h_ => h_)))
        (case aB => exact bq)
        (case aF => exact (fun _ _ => trivial))
        (case aO => exact (by (with_reducible repeat (first | apply Kd.S_alloc | apply Kd.S_drewN | apply Kd.S_drew)); exact Kd.S_mono HO_269002.out (fun k_ hk => ⟨trivial, fun e_ => hk.2 e_⟩)))
        (case aS => exact (below_size bq))
        (case aL => have := LMc14.out; omega)
        intro v278 w23 ho hb hg hat
        rw [← Ny277.out] at ho
        have n0_ := Aside0.mk (blk_grown (q_b BK267.out) hg (Kd.S_ne HO_269002.out BK267.out (by decide)))
        have n1_ := Aside0.mk (blk_grown (q_b BK268.out) hg (Kd.S_ne HO_269002.out BK268.out (by decide)))
        have n2_ := Aside0.mk (Kd.V_afterv (ok := (fun k_ => some k_ ≠ (.slice Ao24 t274.length co24 : Value).ownBlock ∧ k_ ≠ gb267 ∧ k_ ≠ gb268)) (by (with_reducible repeat (first | apply Kd.V_alloc | apply Kd.V_drewN | apply Kd.V_drew)); exact Kd.V_mono HO272.out (fun _ hk => ⟨⟨hk.2, ⟨hk.1.2.1, hk.1.2.2⟩⟩, hk.1.1⟩)) hg hat)
        have n3_ := Aside0.mk (hb)
        have n4_ := Aside0.mk (ho)
        clear BK267
        clear BK268
        clear HO272
        clear HB
        clear HO_269002
        clear HO276
        have BK267 := n0_
        have BK268 := n1_
        have HO272 := n2_
        have HB := n3_
        have HO279 := n4_
        clear n0_ n1_ n2_ n3_ n4_
        clear ho hb hg hat
        obtain ⟨Ao25, co25, eo25⟩ := Kd.S_slice HO279.out
        (first | subst eo25 | (injection eo25 with f1_ f2_ f3_; have f4_ := f1_.symm; have f5_ := f3_.symm; clear f1_ f2_ f3_; subst f4_; subst f5_))
        refine hK.out _ _ ⟨q_z BK268.out 0, q_z BK268.out 1, q_z BK268.out 2⟩ (fun hHeld => ?_)
        clear hK K
        refine norm_ (a' := ?_) ?_ ?_
        rotate_left
        ·show Act.put _ (some 27) _ = _
         simp only [Act.put, List.setIfInBounds_toArray, List.set_cons_zero, List.set_cons_succ, i64_w, i32_w]
         rfl
        refine q_p 6 (some 28) #[true, true, true, true, true, true, true, false] HT_.out ?_
        refine last_ (i := 7) (N := none) #[true, true, true, true, true, true, true, true] rfl rfl (one_of HT_.out (by kernel_rfl)) (by decide) (fun K hK => ?_)
        have hs26 : w23.cell? ⟨gb268, 2, none⟩ = some (u269002) := (blk_cell BK268.out 2).trans rfl
        have hfs26 := blk_frozen BK268.out 2
        have hns26_0 := NB267_268.out
        have hms26_0 := NB268_267.out
        refine skip_ (w1 := ?_) (by rfl) rfl ?_ ?_
        rotate_left
        ·go_simp
         rfl
        refine hK.out _ _ ?_
        clear hK K
        refine done_ (done_of HT_.out (by kernel_rfl)) ?_
        try go_wp2
        have n0_ : Aside0 (Kd.V (Kd.int .u8) 5 (w23.setCell ⟨gb268, 2, none⟩ (.slice Ao25 y277.length co25)) w.heap.size (fun k_ => some k_ ≠ (.slice Ao25 y277.length co25 : Value).ownBlock ∧ k_ ≠ gb267 ∧ k_ ≠ gb268) (.slice Ao21 t270.length co21) t270) := ⟨by (with_reducible repeat (first | apply Kd.V_alloc | apply Kd.V_drewN | apply Kd.V_drew)); exact Kd.V_mono (Kd.V_far (p := ⟨gb268, 2, none⟩) (Kd.V_mono HO272.out (fun k_ hk => (⟨hk, hk.1.2.2⟩ : _ ∧ k_ ≠ gb268))) (fun _ hk => hk.2) (.slice Ao25 y277.length co25)) (fun _ hk => ⟨hk.1.2, ⟨hk.1.1.2.1, hk.1.1.2.2⟩⟩)⟩
        have n1_ : Aside0 (Kd.S (Kd.slice 5 (Kd.int .u8)) 22 (w23.setCell ⟨gb268, 2, none⟩ (.slice Ao25 y277.length co25)) w.heap.size (fun _ => True) (.slice Ao25 y277.length co25) y277) := ⟨by (with_reducible repeat (first | apply Kd.S_alloc | apply Kd.S_drewN | apply Kd.S_drew)); exact Kd.S_mono (Kd.S_far (p := ⟨gb268, 2, none⟩) (Kd.S_types HO279.out BK268.out (by decide)) (fun _ hk => hk.2) (.slice Ao25 y277.length co25)) (fun _ hk => trivial)⟩
        have n2_ : Aside0 ((w23.setCell ⟨gb268, 2, none⟩ (.slice Ao25 y277.length co25)).heap[gb267]? = some (.cells #[.int .i64 x268000_1, .int .i64 x268001_1, .slice none 0 0] 43 (0, 0))) := ⟨by (with_reducible repeat (first | refine blk_drewN ?_ _ | refine blk_drew ?_ | refine blk_alloc ?_ _)); refine blk_far ?_ NB267_268.out _; (with_reducible repeat (first | refine blk_drewN ?_ _ | refine blk_drew ?_ | refine blk_alloc ?_ _)); exact BK267.out⟩
        have n3_ : Aside0 ((w23.setCell ⟨gb268, 2, none⟩ (.slice Ao25 y277.length co25)).heap[gb268]? = some (.cells #[.int .i64 0, .int .i64 x269001_1, .slice Ao25 y277.length co25] 43 (0, 0))) := ⟨by (with_reducible repeat (first | refine blk_drewN ?_ _ | refine blk_drew ?_ | refine blk_alloc ?_ _)); refine blk_put (cs := #[.int .i64 0, .int .i64 x269001_1, u269002]) ?_ 2 _ rfl; (with_reducible repeat (first | refine blk_drewN ?_ _ | refine blk_drew ?_ | refine blk_alloc ?_ _)); exact BK268.out⟩
        have n4_ : Aside0 (Below w.heap.size w (w23.setCell ⟨gb268, 2, none⟩ (.slice Ao25 y277.length co25))) := ⟨bq⟩
        (try clear HO272)
        (try clear HO279)
        (try clear BK267)
        (try clear BK268)
        (try clear HB)
        generalize (w23.setCell ⟨gb268, 2, none⟩ (.slice Ao25 y277.length co25)) = w27 at n0_ n1_ n2_ n3_ n4_ ⊢
        have HO272 := n0_
        have HO279 := n1_
        have BK267 := n2_
        have BK268 := n3_
        have HB := n4_
        clear n0_ n1_ n2_ n3_ n4_
        have n0_ := Aside0.mk (Kd.V_drew HO272.out)
        have n1_ := Aside0.mk (Kd.S_drew HO279.out)
        have n2_ := Aside0.mk (blk_drew BK267.out)
        have n3_ := Aside0.mk (blk_drew BK268.out)
        have n4_ := Aside0.mk (below_drew1 HB.out)
        clear HO272
        clear HO279
        clear BK267
        clear BK268
        clear HB
        have HO272 := n0_
        have HO279 := n1_
        have BK267 := n2_
        have BK268 := n3_
        have HB := n4_
        clear n0_ n1_ n2_ n3_ n4_
        refine start_ (n := 8) (S := fun w' => w'.cell? ⟨gb268, 0, none⟩ = some (.int .i64 0) ∧ w'.cell? ⟨gb268, 1, none⟩ = some (.int .i64 x269001_1) ∧ w'.cell? ⟨gb268, 2, none⟩ = some (.slice Ao25 y277.length co25)) (ds := [7]) #[false, false, false, false, false, false, false, false] (by kernel_rfl) rfl rfl ⟨q_z BK268.out 0, q_z BK268.out 1, q_z BK268.out 2⟩ (fun hHeld => ?_); refine with_tabW impl_UnframeAll.tab8 impl_UnframeAll.bits8 (fun HT_ HW_ => ?_)
        generalize w27.drew = w28 at HO272 HO279 BK267 BK268 HB hHeld ⊢
        refine q_p 0 (some 29) #[true, false, false, false, false, false, false, false] HT_.out ?_
        refine q_p 2 (some 31) #[true, false, true, false, false, false, false, false] HT_.out ?_
        refine q_t 1 (some 30) #[true, true, true, false, false, false, false, false] HT_.out HW_.out hHeld ?_
        refine one_ (i := 3) (N := some 32) #[true, true, true, true, false, false, false, false] rfl rfl (one_of HT_.out (by kernel_rfl)) (by decide) (fun K hK => ?_)
        refine goes_ Try.func54 (by kernel_rfl) rfl #[.slice Ao21 t270.length co21] (by rfl) rfl rfl (by (try simp only [List.map_toArray, List.map_cons, List.map_nil]); first | done | rfl | (simp only [List.length_drop, List.length_take]; rfl)) ?_
        with_reducible refine (impl_size_byte.calls _ _ t270 t280 _ ?side1 ?side2 A15.out).mono ?_
        (case side1 => exact q_c ((Kd.V_reads' HO272.out).2.2))
        (case side2 => exact (Kd.V_reads' HO272.out).2.1)
        rintro e w' ⟨rfl, ⟨nd, rfl⟩⟩
        refine ⟨_, rfl, ?_⟩
        refine hK.out _ _ ⟨q_z BK268.out 0, q_z BK268.out 1, q_z BK268.out 2⟩ (fun hHeld => ?_)
        clear hK K
        refine norm_ (a' := ?_) ?_ ?_
        rotate_left
        ·show Act.put _ (some 32) _ = _
         simp only [Act.put, List.setIfInBounds_toArray, List.set_cons_zero, List.set_cons_succ, i64_w, i32_w]
         rfl
        refine q_p 4 (some 33) #[true, true, true, true, true, false, false, false] HT_.out ?_
        refine q_p 5 (some 34) #[true, true, true, true, true, true, false, false] HT_.out ?_
        refine q_p 6 (some 35) #[true, true, true, true, true, true, true, false] HT_.out ?_
        refine last_ (i := 7) (N := none) #[true, true, true, true, true, true, true, true] rfl rfl (one_of HT_.out (by kernel_rfl)) (by decide) (fun K hK => ?_)
        have hs29 : w28.cell? ⟨gb268, 1, none⟩ = some (.int .i64 x269001_1) := (blk_cell BK268.out 1).trans rfl
        have hfs29 := blk_frozen BK268.out 1
        have hns29_0 := NB267_268.out
        have hms29_0 := NB268_267.out
        refine skip_ (w1 := ?_) (by rfl) rfl ?_ ?_
        rotate_left
        ·go_simp
         rfl
        refine hK.out _ _ ?_
        clear hK K
        refine done_ (done_of HT_.out (by kernel_rfl)) ?_
        try go_wp2
        go_roundg k1
        case measure => have := HK1.out; omega
        case rel => exact ⟨(x268000_1), (x268001_1), (wrap64 (x269001_1 + (wrap64 (4 + t280)))), (y277), (.slice Ao25 y277.length co25), H', ⟨by have := HK1.out; omega⟩, ⟨by (with_reducible repeat (first | apply Kd.S_alloc | apply Kd.S_drewN | apply Kd.S_drew)); exact Kd.S_mono (Kd.S_far (p := ⟨gb268, 1, none⟩) (Kd.S_types HO279.out BK268.out (by decide)) (fun _ hk => hk.2) (.int .i64 (wrap64 (x269001_1 + (wrap64 (4 + t280)))))) (fun _ hk => trivial)⟩, ⟨by (with_reducible repeat (first | refine blk_drewN ?_ _ | refine blk_drew ?_ | refine blk_alloc ?_ _)); refine blk_far ?_ NB267_268.out _; (with_reducible repeat (first | refine blk_drewN ?_ _ | refine blk_drew ?_ | refine blk_alloc ?_ _)); exact BK267.out⟩, ⟨by (with_reducible repeat (first | refine blk_drewN ?_ _ | refine blk_drew ?_ | refine blk_alloc ?_ _)); refine blk_put (cs := #[.int .i64 0, .int .i64 x269001_1, .slice Ao25 y277.length co25]) ?_ 1 _ rfl; (with_reducible repeat (first | refine blk_drewN ?_ _ | refine blk_drew ?_ | refine blk_alloc ?_ _)); exact BK268.out⟩, ⟨bq⟩⟩
       ·rw [if_neg c14] at H
        exact absurd H (by simp)
      ·replace c12 := Bool.eq_false_iff.mpr c12
       subst c12
       have H1 : (some (0, x269001_1, x269002_1)) = some (r1, r2, r3) := by rw [if_neg (show ¬ (false = true) by decide)] at H; exact H
       clear H
       have H := H1
       clear H1
       simp only [Option.some.injEq, Prod.mk.injEq] at H
       obtain ⟨rfl, rfl, rfl⟩ := H
       have hnb30 := NB268_267.out
       have hnc30 := NB267_268.out
       obtain ⟨hcz31_0, hcz31_1, hcz31_2, hfz31_0, hfz31_1, hfz31_2⟩ := q_3 BK268.out
       obtain ⟨i032, hi032, _, hsz32, _⟩ := info_parts info5
       obtain ⟨A32, hcut32, hA32, hC32⟩ := print_drop_of (P := Try.prog) (Value.int .u8) 0 22 5 .i64 Try.underlying22 hi032 hsz32 A0 c0 l0 x269001_1 q_d q_d HC0.out
       have HR269 := Aside0.mk (Kd.C_of_reads (h1 := fun _ => rfl) (hA32 _ (Kd.reads_of_C HR0.out)))
       have HC269 := Aside0.mk hC32
       clear hA32 hC32 hi032 hsz32
       go_wp2_with (first | ((with_reducible refine gate_callee (f := 59) rfl ?_); refine goesL_ (some 16) rfl rfl Try.func59 (by kernel_rfl) rfl #[.slice A32 (l0.drop (x269001_1 : Int).toNat).length (c0 - x269001_1.toNat)] rfl (by (try simp only [List.map_toArray, List.map_cons, List.map_nil]); first | done | (rw [show (l0.drop (x269001_1 : Int).toNat).length = (l0.length - x269001_1.toNat) from List.length_drop] <;> rfl) | rfl | (simp only [List.length_drop, List.length_take]; rfl)) ?_; (with_reducible refine (impl_unframe.calls k1 (fun k_ => k_ < w.heap.size) _ _ (l0.drop (x269001_1 : Int).toNat) t270 false _ ?side1 A11.out).mono ?_); (case side1 => exact Kd.V_mk HC269.out (Kd.F_below (Kd.C_F (Kd.heap_int .u8) HR269.out) bq)); rintro e w33 ⟨v271, rfl, ho0, hb⟩; refine ⟨_, rfl, ?_⟩; have n0_ := Aside0.mk (Kd.S_below (q_s (HO_269002.out)) hb); have n1_ := Aside0.mk (Kd.V_lower (Kd.V_mono (ok' := fun k_ => some k_ ≠ (u269002 : Value).ownBlock ∧ k_ ≠ gb267 ∧ k_ ≠ gb268) ho0 (fun k_ hk_ => ⟨Or.elim hk_ (fun hs_ => fun e_ => Nat.not_le.2 hs_ (Kd.S_base HO_269002.out k_ e_.symm)) (fun hn_ => (Kd.fresh' (Kd.S_lt (q_s (HO_269002.out))) k_ hn_)), Or.elim hk_ (fun hs_ => fun e_ => Nat.not_le.2 hs_ (by rw [e_]; exact GW267.out)) (fun hn_ => (Kd.freshB (q_b BK267.out) k_ hn_)), Or.elim hk_ (fun hs_ => fun e_ => Nat.not_le.2 hs_ (by rw [e_]; exact GW268.out)) (fun hn_ => (Kd.freshB (q_b BK268.out) k_ hn_))⟩)) (below_size bq)); have n2_ := Aside0.mk (blk_below (q_b BK267.out) hb); have n3_ := Aside0.mk (blk_below (q_b BK268.out) hb); have n4_ := Aside0.mk (below_step bq hb); revert n0_ n1_ n2_ n3_ n4_; clear HO_269002 BK267 BK268 HB; intro HO_269002 HO272 BK267 BK268 HB; (try clear hb); (try clear hb2); (try clear hk); (try clear hi); (try clear ho0); obtain ⟨hcz34_0, hcz34_1, hcz34_2, hfz34_0, hfz34_1, hfz34_2⟩ := q_3 BK268.out; obtain ⟨hcz35_0, hcz35_1, hcz35_2, hfz35_0, hfz35_1, hfz35_2⟩ := q_3 BK267.out; obtain ⟨Ao36, co36, eo36⟩ := Kd.S_slice HO_269002.out; subst eo36))
       refine bodyPost_ret (results_cell_row rfl _ _ gb267 43 #[.int .i64 0, .int .i64 x269001_1, .slice Ao36 x269002_1.length co36] (0, 0) _ rfl (by (with_reducible repeat (first | refine blk_drewN ?_ _ | refine blk_drew ?_ | refine blk_alloc ?_ _)); refine blk_put (cs := #[.int .i64 0, .int .i64 x269001_1, .slice none 0 0]) ?_ 2 _ rfl; (with_reducible repeat (first | refine blk_drewN ?_ _ | refine blk_drew ?_ | refine blk_alloc ?_ _)); refine blk_put (cs := #[.int .i64 0, .int .i64 x268001_1, .slice none 0 0]) ?_ 1 _ rfl; (with_reducible repeat (first | refine blk_drewN ?_ _ | refine blk_drew ?_ | refine blk_alloc ?_ _)); refine blk_put (cs := #[.int .i64 x268000_1, .int .i64 x268001_1, .slice none 0 0]) ?_ 0 _ rfl; (with_reducible repeat (first | refine blk_drewN ?_ _ | refine blk_drew ?_ | refine blk_alloc ?_ _)); exact BK267.out) Try.underlying43 rfl (by kernel_rfl)) rfl ?_
       exact ⟨_, q_e, by (with_reducible repeat (first | apply Kd.S_alloc | apply Kd.S_drewN | apply Kd.S_drew)); exact Kd.S_mono (Kd.S_far (p := ⟨gb267, 2, none⟩) (Kd.S_far (p := ⟨gb267, 1, none⟩) (Kd.S_far (p := ⟨gb267, 0, none⟩) (Kd.S_types HO_269002.out BK267.out (by decide)) (fun _ hk => hk.2) (.int .i64 0)) (fun _ hk => hk.2) (.int .i64 x269001_1)) (fun _ hk => hk.2) (.slice Ao36 x269002_1.length co36)) (fun _ hk => trivial), bq⟩
     ·rw [if_neg c10] at H
      exact absurd H (by simp)
    ·rw [if_neg c9] at H
     exact absurd H (by simp)

/-! ### impl_ReadLog: function 48 -/
def impl_ReadLog.f (k : Nat) (l0_0 : List Int) (l0_1 : List Int) : Option (Int × Int × (List (List Int))) := (impl_LogFault.f l0_0 l0_1).bind fun t283 => (if t283 = 0 then ((slices_Concat_byte.f k (([l0_0, l0_1] : List (List Int)))).bind fun t287 => ((impl_UnframeAll.f k t287).bind fun bt290 => (some (bt290.1, bt290.2.1, bt290.2.2)))) else (some (t283, 0, ([] : List (List Int)))))
set_option maxHeartbeats 8000000 in
set_option maxRecDepth 100000 in
theorem impl_ReadLog.calls (k : Nat) (P0_0_ : Nat → Prop) (A0_0 : Option Addr) (c0_0 : Nat) (l0_0 : List Int) (P0_1_ : Nat → Prop) (A0_1 : Option Addr) (c0_1 : Nat) (l0_1 : List Int) (r1 : Int) (r2 : Int) (r3 : List (List Int)) (w : World) (hs0_0 : Kd.V (Kd.int .u8) 5 w w.heap.size (fun k_ => P0_0_ k_) (.slice A0_0 l0_0.length c0_0) l0_0) (hs0_1 : Kd.V (Kd.int .u8) 5 w w.heap.size (fun k_ => P0_1_ k_) (.slice A0_1 l0_1.length c0_1) l0_1) (h : impl_ReadLog.f k l0_0 l0_1 = some (r1, r2, r3)) :
  Calls Try.prog 48 #[.agg #[.slice A0_0 l0_0.length c0_0, .slice A0_1 l0_1.length c0_1]] w fun e w' => ∃ v2_ : Value, e = .returned (.agg #[.int .i64 r1, .int .i64 r2, v2_]) ∧ Kd.N (Kd.slice 5 (Kd.int .u8)) 22 w' w.heap.size (fun k_ => ((P0_0_ k_ ∨ P0_1_ k_) ∨ w.heap.size ≤ k_)) v2_ r3 ∧ Below w.heap.size w w' := by
 have hu27 := Try.underlying27
 have hu43 := Try.underlying43
 have HO0_0 := Aside0.mk (show Kd.V (Kd.int .u8) 5 w w.heap.size (fun k_ => ((P0_0_ k_ ∨ P0_1_ k_) ∨ w.heap.size ≤ k_)) (.slice A0_0 l0_0.length c0_0) l0_0 from Kd.V_mono hs0_0 (fun k_ hk => .inl (.inl hk)))
 have HO0_1 := Aside0.mk (show Kd.V (Kd.int .u8) 5 w w.heap.size (fun k_ => ((P0_0_ k_ ∨ P0_1_ k_) ∨ w.heap.size ≤ k_)) (.slice A0_1 l0_1.length c0_1) l0_1 from Kd.V_mono hs0_1 (fun k_ hk => .inl (.inr hk)))
 have HB := Aside0.mk (Below.refl w.heap.size w)
 have H : ((impl_LogFault.f l0_0 l0_1).bind fun t283 => (if t283 = 0 then ((slices_Concat_byte.f k (([l0_0, l0_1] : List (List Int)))).bind fun t287 => ((impl_UnframeAll.f k t287).bind fun bt290 => (some (bt290.1, bt290.2.1, bt290.2.2)))) else (some (t283, 0, ([] : List (List Int)))))) = some (r1, r2, r3) := h
 clear h
 replace H := Option.bind_eq_some_iff.mp H
 obtain ⟨t283, A20, H⟩ := H
 replace H : (if t283 = 0 then ((slices_Concat_byte.f k (([l0_0, l0_1] : List (List Int)))).bind fun t287 => ((impl_UnframeAll.f k t287).bind fun bt290 => (some (bt290.1, bt290.2.1, bt290.2.2)))) else (some (t283, 0, ([] : List (List Int))))) = some (r1, r2, r3) := H
 have A2 := Aside0.mk A20
 clear A20
 by_cases c3 : t283 = 0
 ·rw [if_pos c3] at H
  have c3b0 : (t283 == 0) = true := beq_iff_eq.mpr c3
  have c3b1 : (t283 != 0) = false := bne_eq_false_iff_eq.mpr c3
  clear c3
  obtain ⟨y284, hy284⟩ : ∃ y_ : List (List Int), y_ = (([l0_0, l0_1] : List (List Int))) := ⟨_, rfl⟩
  replace H : ((slices_Concat_byte.f k y284).bind fun t287 => ((impl_UnframeAll.f k t287).bind fun bt290 => (some (bt290.1, bt290.2.1, bt290.2.2)))) = some (r1, r2, r3) := q_h hy284 H
  have Ny284 := Aside0.mk hy284
  clear hy284
  replace H := Option.bind_eq_some_iff.mp H
  obtain ⟨t287, A40, H⟩ := H
  replace H : ((impl_UnframeAll.f k t287).bind fun bt290 => (some (bt290.1, bt290.2.1, bt290.2.2))) = some (r1, r2, r3) := H
  have A4 := Aside0.mk A40
  clear A40
  replace H := Option.bind_eq_some_iff.mp H
  obtain ⟨⟨t290, t291, t292⟩, A50, H⟩ := H
  replace H : (some (t290, t291, t292)) = some (r1, r2, r3) := H
  have A5 := Aside0.mk A50
  clear A50
  simp only [Option.some.injEq, Prod.mk.injEq] at H
  obtain ⟨rfl, rfl, rfl⟩ := H
  go_enter Try.func48, Try.ntmps48
  go_wp2_with (first | ((with_reducible refine gate_dst (N := 1) rfl ?_); refine q_box (N := 1) (cs := #[.slice A0_0 l0_0.length c0_0, .slice A0_1 l0_1.length c0_1]) (t := 27) ?_; intro gb281 hg w6 hbox hb; have n0_ := Aside0.mk (Kd.V_below (Kd.V_elderB (q_v (HO0_0.out)) gb281 (Nat.le_of_eq hg.symm)) hb); have n1_ := Aside0.mk (Kd.V_below (Kd.V_elderB (q_v (HO0_1.out)) gb281 (Nat.le_of_eq hg.symm)) hb); have n2_ := Aside0.mk (below_step bq hb); have n3_ := Aside0.mk (hbox); have n4_ := Aside0.mk ((q_g hg bq : w.heap.size ≤ gb281)); have n5_ := Aside0.mk ((q_g hg bq : w.heap.size ≤ gb281)); revert n0_ n1_ n2_ n3_ n4_ n5_; clear HO0_0 HO0_1 HB; intro HO0_0 HO0_1 HB BK281 GW281 GE281; clear hb hbox hg) | ((with_reducible refine gate_dst (N := 2) rfl ?_); refine q_box (N := 2) (cs := #[.int .i64 0, .int .i64 0, .slice none 0 0]) (t := 43) ?_; intro gb282 hg w7 hbox hb; have n0_ := Aside0.mk (Kd.V_below (Kd.V_elderB (q_v (HO0_0.out)) gb282 (Nat.le_of_eq hg.symm)) hb); have n1_ := Aside0.mk (Kd.V_below (Kd.V_elderB (q_v (HO0_1.out)) gb282 (Nat.le_of_eq hg.symm)) hb); have n2_ := Aside0.mk (blk_below (q_b BK281.out) hb); have n3_ := Aside0.mk (below_step bq hb); have n4_ := Aside0.mk (hbox); have n5_ := Aside0.mk ((q_g hg bq : w.heap.size ≤ gb282)); have n6_ := Aside0.mk ((q_g hg bq : w.heap.size ≤ gb282)); have n7_ := Aside0.mk ((q_n hg (q_b BK281.out) : gb281 ≠ gb282)); have n8_ := Aside0.mk ((q_m hg (q_b BK281.out) : gb282 ≠ gb281)); revert n0_ n1_ n2_ n3_ n4_ n5_ n6_ n7_ n8_; clear HO0_0 HO0_1 BK281 HB; intro HO0_0 HO0_1 BK281 HB BK282 GW282 GE282 NB281_282 NB282_281; clear hb hbox hg; have hnb8 := NB281_282.out; have hnc8 := NB282_281.out; obtain ⟨hcz9_0, hcz9_1, hfz9_0, hfz9_1⟩ := q_2 BK281.out) | ((with_reducible refine gate_callee (f := 17) rfl ?_); refine goesLq (some 5) rfl rfl Try.func17 (by kernel_rfl) rfl #[.agg #[.slice A0_0 l0_0.length c0_0, .slice A0_1 l0_1.length c0_1]] rfl ?_; (with_reducible refine (impl_LogFault.calls _ _ l0_0 _ _ l0_1 t283 _ ?side1 ?side2 ?side3 ?side4 A2.out).mono ?_); (case side1 => exact q_c ((Kd.V_reads' HO0_0.out).2.2)); (case side2 => exact (Kd.V_reads' HO0_0.out).2.1); (case side3 => exact q_c ((Kd.V_reads' HO0_1.out).2.2)); (case side4 => exact (Kd.V_reads' HO0_1.out).2.1); rintro e w10 ⟨rfl, hb⟩; refine ⟨_, rfl, ?_⟩; have n0_ := Aside0.mk (Kd.V_below (q_v (HO0_0.out)) hb); have n1_ := Aside0.mk (Kd.V_below (q_v (HO0_1.out)) hb); have n2_ := Aside0.mk (blk_below (q_b BK281.out) hb); have n3_ := Aside0.mk (blk_below (q_b BK282.out) hb); have n4_ := Aside0.mk (below_step bq hb); revert n0_ n1_ n2_ n3_ n4_; clear HO0_0 HO0_1 BK281 BK282 HB; intro HO0_0 HO0_1 BK281 BK282 HB; (try clear hb); (try clear hb2); (try clear hk); (try clear hi); obtain ⟨hcz11_0, hcz11_1, hfz11_0, hfz11_1⟩ := q_2 BK281.out) | ((with_reducible refine gate_dst (N := 14) rfl ?_); refine Kd.N_lit (Kd.slice 5 (Kd.int .u8)) _ 22 ?hg (N' := 14) ?hd (xs := ([l0_0, l0_1] : List (List Int))) (inner := [.slice A0_0 l0_0.length c0_0, .slice A0_1 l0_1.length c0_1]) (ok := (fun k_ => ((P0_0_ k_ ∨ P0_1_ k_) ∨ w.heap.size ≤ k_) ∧ k_ ≠ gb281 ∧ k_ ≠ gb282)) (okp := (fun k_ => ((P0_0_ k_ ∨ P0_1_ k_) ∨ w.heap.size ≤ k_) ∧ k_ ≠ gb281 ∧ k_ ≠ gb282)) ?hr ?hp (fun _ hk => hk) ((show ∀ k_, w10.heap.size ≤ k_ → (fun k_ => ((P0_0_ k_ ∨ P0_1_ k_) ∨ w.heap.size ≤ k_) ∧ k_ ≠ gb281 ∧ k_ ≠ gb282) k_ from fun k_ hk => ⟨(.inr (Nat.le_trans (below_size bq) hk)), Kd.freshB (q_b BK281.out) k_ hk, Kd.freshB (q_b BK282.out) k_ hk⟩) _ (Nat.le_refl _)) (Below.refl _ _) (Nat.le_refl _) (by simp) ?_; (case hd => rfl); (case hg => rfl); (case hr => first | (go_simp; done) | (go_simp; rfl)); (case hp => exact (Reps.one (show Kd.FK (Kd.slice 5 (Kd.int .u8)) _ _ l0_0 [.slice A0_0 l0_0.length c0_0] from (Kd.FK_slice_mk (Kd.V_reads' (Kd.V_mono (ok' := (fun k_ => ((P0_0_ k_ ∨ P0_1_ k_) ∨ w.heap.size ≤ k_) ∧ k_ ≠ gb281 ∧ k_ ≠ gb282)) (HO0_0.out) (fun k_ hk => ⟨hk.1.1, ⟨hk.1.2, hk.2⟩⟩))).2.1 (Kd.V_F (Kd.V_mono (ok' := (fun k_ => ((P0_0_ k_ ∨ P0_1_ k_) ∨ w.heap.size ≤ k_) ∧ k_ ≠ gb281 ∧ k_ ≠ gb282)) (HO0_0.out) (fun k_ hk => ⟨hk.1.1, ⟨hk.1.2, hk.2⟩⟩))))) (Reps.one (show Kd.FK (Kd.slice 5 (Kd.int .u8)) _ _ l0_1 [.slice A0_1 l0_1.length c0_1] from (Kd.FK_slice_mk (Kd.V_reads' (Kd.V_mono (ok' := (fun k_ => ((P0_0_ k_ ∨ P0_1_ k_) ∨ w.heap.size ≤ k_) ∧ k_ ≠ gb281 ∧ k_ ≠ gb282)) (HO0_1.out) (fun k_ hk => ⟨hk.1.1, ⟨hk.1.2, hk.2⟩⟩))).2.1 (Kd.V_F (Kd.V_mono (ok' := (fun k_ => ((P0_0_ k_ ∨ P0_1_ k_) ∨ w.heap.size ≤ k_) ∧ k_ ≠ gb281 ∧ k_ ≠ gb282)) (HO0_1.out) (fun k_ hk => ⟨hk.1.1, ⟨hk.1.2, hk.2⟩⟩))))) (Reps.none _ _)))); intro v285 w12 ho13 hb hg_ hnew_; clear hg_ hnew_; (first | rw [← Ny284.out] at ho13 | (simp only [Int.reduceToNat] at ho13; rw [← Ny284.out] at ho13)); have n0_ := Aside0.mk (Kd.V_elder' (q_v (HO0_0.out)) (by first | exact Kd.N_base ho13 | exact Kd.R_base (Kd.S_R ho13)) hb); have n1_ := Aside0.mk (Kd.V_elder' (q_v (HO0_1.out)) (by first | exact Kd.N_base ho13 | exact Kd.R_base (Kd.S_R ho13)) hb); have n2_ := Aside0.mk (Kd.N_lower ho13 (below_size bq)); have n3_ := Aside0.mk (blk_below (q_b BK281.out) hb); have n4_ := Aside0.mk (blk_below (q_b BK282.out) hb); have n5_ := Aside0.mk (below_step bq hb); revert n0_ n1_ n2_ n3_ n4_ n5_; clear HO0_0 HO0_1 BK281 BK282 HB; intro HO0_0 HO0_1 HO286 BK281 BK282 HB; clear hb ho13; obtain ⟨Ao14, co14, eo14⟩ := Kd.N_slice HO286.out; subst eo14) | ((with_reducible refine gate_callee (f := 62) rfl ?_); refine goesLq (some 15) rfl rfl Try.func62 (by kernel_rfl) rfl #[.slice Ao14 y284.length co14] rfl ?_; (with_reducible refine (slices_Concat_byte.calls k _ _ y284 t287 _ ?side1 ?side2 A4.out).mono ?_); (case side1 => exact q_c ((Kd.N_reads' HO286.out).2.2)); (case side2 => exact (Kd.N_reads' HO286.out).2.1); rintro e w15 ⟨v288, rfl, ho0, hb⟩; refine ⟨_, rfl, ?_⟩; have n0_ := Aside0.mk (Kd.V_elder' (q_v (HO0_0.out)) (Kd.R_base ho0) hb); have n1_ := Aside0.mk (Kd.V_elder' (q_v (HO0_1.out)) (Kd.R_base ho0) hb); have n2_ := Aside0.mk (Kd.N_elder' (by (with_reducible repeat (first | apply Kd.N_alloc | apply Kd.N_drewN | apply Kd.N_drew)); exact HO286.out) (Kd.R_base ho0) hb); have n3_ := Aside0.mk (Kd.R_lower (Kd.R_newM (M := fun k_ => (w.heap.size ≤ k_)) ho0 (below_size bq) (fun k_ h_ => h_)) (below_size bq)); have n4_ := Aside0.mk (blk_below (q_b BK281.out) hb); have n5_ := Aside0.mk (blk_below (q_b BK282.out) hb); have n6_ := Aside0.mk (below_step bq hb); revert n0_ n1_ n2_ n3_ n4_ n5_ n6_; clear HO0_0 HO0_1 HO286 BK281 BK282 HB; intro HO0_0 HO0_1 HO286 HO289 BK281 BK282 HB; (try clear hb); (try clear hb2); (try clear hk); (try clear hi); (try clear ho0); obtain ⟨Ao16, co16, eo16⟩ := Kd.R_slice HO289.out; subst eo16) | ((with_reducible refine gate_callee (f := 30) rfl ?_); refine goesLq (some 16) rfl rfl Try.func30 (by kernel_rfl) rfl #[.slice Ao16 t287.length co16] rfl ?_; (with_reducible refine (impl_UnframeAll.calls k _ _ t287 t290 t291 t292 _ ?side1 ?side2 A5.out).mono ?_); (case side1 => exact q_c ((Kd.R_reads' HO289.out).2.2)); (case side2 => exact (Kd.R_reads' HO289.out).2.1); rintro e w17 ⟨v293, rfl, ho0, hb⟩; refine ⟨_, rfl, ?_⟩; have n0_ := Aside0.mk (Kd.V_elder' (q_v (HO0_0.out)) (Kd.R_base (Kd.S_R ho0)) hb); have n1_ := Aside0.mk (Kd.V_elder' (q_v (HO0_1.out)) (Kd.R_base (Kd.S_R ho0)) hb); have n2_ := Aside0.mk (Kd.N_elder' (by (with_reducible repeat (first | apply Kd.N_alloc | apply Kd.N_drewN | apply Kd.N_drew)); exact HO286.out) (Kd.R_base (Kd.S_R ho0)) hb); have n3_ := Aside0.mk (Kd.R_below (q_r (HO289.out)) hb); have n4_ := Aside0.mk (Kd.N_lower (Kd.N_mono (ok' := fun k_ => ((P0_0_ k_ ∨ P0_1_ k_) ∨ w.heap.size ≤ k_) ∧ some k_ ≠ (.slice Ao14 y284.length co14 : Value).ownBlock ∧ some k_ ≠ (.slice Ao16 t287.length co16 : Value).ownBlock ∧ k_ ≠ gb281 ∧ k_ ≠ gb282) (Kd.S_N (Kd.S_bound ho0)) (fun k_ hk_ => ⟨(.inr (Nat.le_trans (below_size bq) hk_.2.1)), (Kd.fresh' (Kd.N_lt (by (with_reducible repeat (first | apply Kd.N_alloc | apply Kd.N_drewN | apply Kd.N_drew)); exact HO286.out)) k_ hk_.2.1), (Kd.fresh' (Kd.R_lt (q_r (HO289.out))) k_ hk_.2.1), (Kd.freshB (q_b BK281.out) k_ hk_.2.1), (Kd.freshB (q_b BK282.out) k_ hk_.2.1)⟩)) (below_size bq)); have n5_ := Aside0.mk (blk_below (q_b BK281.out) hb); have n6_ := Aside0.mk (blk_below (q_b BK282.out) hb); have n7_ := Aside0.mk (below_step bq hb); revert n0_ n1_ n2_ n3_ n4_ n5_ n6_ n7_; clear HO0_0 HO0_1 HO286 HO289 BK281 BK282 HB; intro HO0_0 HO0_1 HO286 HO289 HO294 BK281 BK282 HB; (try clear hb); (try clear hb2); (try clear hk); (try clear hi); (try clear ho0); obtain ⟨hcz18_0, hcz18_1, hcz18_2, hfz18_0, hfz18_1, hfz18_2⟩ := q_3 BK282.out; obtain ⟨Ao19, co19, eo19⟩ := Kd.N_slice HO294.out; subst eo19))
  refine bodyPost_ret (results_cell_row rfl _ _ gb282 43 #[.int .i64 t290, .int .i64 t291, .slice Ao19 t292.length co19] (0, 0) _ rfl (by (with_reducible repeat (first | refine blk_drewN ?_ _ | refine blk_drew ?_ | refine blk_alloc ?_ _)); refine blk_put (cs := #[.int .i64 t290, .int .i64 t291, .slice none 0 0]) ?_ 2 _ rfl; (with_reducible repeat (first | refine blk_drewN ?_ _ | refine blk_drew ?_ | refine blk_alloc ?_ _)); refine blk_put (cs := #[.int .i64 t290, .int .i64 0, .slice none 0 0]) ?_ 1 _ rfl; (with_reducible repeat (first | refine blk_drewN ?_ _ | refine blk_drew ?_ | refine blk_alloc ?_ _)); refine blk_put (cs := #[.int .i64 0, .int .i64 0, .slice none 0 0]) ?_ 0 _ rfl; (with_reducible repeat (first | refine blk_drewN ?_ _ | refine blk_drew ?_ | refine blk_alloc ?_ _)); exact BK282.out) Try.underlying43 rfl (by kernel_rfl)) rfl ?_
  exact ⟨_, q_e, by (with_reducible repeat (first | apply Kd.N_alloc | apply Kd.N_drewN | apply Kd.N_drew)); exact Kd.N_mono (Kd.N_far (p := ⟨gb282, 2, none⟩) (Kd.N_far (p := ⟨gb282, 1, none⟩) (Kd.N_far (p := ⟨gb282, 0, none⟩) (Kd.N_mono HO294.out (fun k_ hk => (⟨hk, hk.2.2.2.2⟩ : _ ∧ k_ ≠ gb282))) (fun _ hk => hk.2) (.int .i64 t290)) (fun _ hk => hk.2) (.int .i64 t291)) (fun _ hk => hk.2) (.slice Ao19 t292.length co19)) (fun _ hk => hk.1.1), bq⟩
 ·rw [if_neg c3] at H
  have c3b0 : (t283 == 0) = false := beq_eq_false_iff_ne.mpr c3
  have c3b1 : (t283 != 0) = true := bne_iff_ne.mpr c3
  simp only [Option.some.injEq, Prod.mk.injEq] at H
  obtain ⟨rfl, rfl, rfl⟩ := H
  go_enter Try.func48, Try.ntmps48
  go_wp2_with (first | ((with_reducible refine gate_dst (N := 1) rfl ?_); refine q_box (N := 1) (cs := #[.slice A0_0 l0_0.length c0_0, .slice A0_1 l0_1.length c0_1]) (t := 27) ?_; intro gb281 hg w20 hbox hb; have n0_ := Aside0.mk (Kd.V_below (Kd.V_elderB (q_v (HO0_0.out)) gb281 (Nat.le_of_eq hg.symm)) hb); have n1_ := Aside0.mk (Kd.V_below (Kd.V_elderB (q_v (HO0_1.out)) gb281 (Nat.le_of_eq hg.symm)) hb); have n2_ := Aside0.mk (below_step bq hb); have n3_ := Aside0.mk (hbox); have n4_ := Aside0.mk ((q_g hg bq : w.heap.size ≤ gb281)); have n5_ := Aside0.mk ((q_g hg bq : w.heap.size ≤ gb281)); revert n0_ n1_ n2_ n3_ n4_ n5_; clear HO0_0 HO0_1 HB; intro HO0_0 HO0_1 HB BK281 GW281 GE281; clear hb hbox hg) | ((with_reducible refine gate_dst (N := 2) rfl ?_); refine q_box (N := 2) (cs := #[.int .i64 0, .int .i64 0, .slice none 0 0]) (t := 43) ?_; intro gb282 hg w21 hbox hb; have n0_ := Aside0.mk (Kd.V_below (Kd.V_elderB (q_v (HO0_0.out)) gb282 (Nat.le_of_eq hg.symm)) hb); have n1_ := Aside0.mk (Kd.V_below (Kd.V_elderB (q_v (HO0_1.out)) gb282 (Nat.le_of_eq hg.symm)) hb); have n2_ := Aside0.mk (blk_below (q_b BK281.out) hb); have n3_ := Aside0.mk (below_step bq hb); have n4_ := Aside0.mk (hbox); have n5_ := Aside0.mk ((q_g hg bq : w.heap.size ≤ gb282)); have n6_ := Aside0.mk ((q_g hg bq : w.heap.size ≤ gb282)); have n7_ := Aside0.mk ((q_n hg (q_b BK281.out) : gb281 ≠ gb282)); have n8_ := Aside0.mk ((q_m hg (q_b BK281.out) : gb282 ≠ gb281)); revert n0_ n1_ n2_ n3_ n4_ n5_ n6_ n7_ n8_; clear HO0_0 HO0_1 BK281 HB; intro HO0_0 HO0_1 BK281 HB BK282 GW282 GE282 NB281_282 NB282_281; clear hb hbox hg; have hnb22 := NB281_282.out; have hnc22 := NB282_281.out; obtain ⟨hcz23_0, hcz23_1, hfz23_0, hfz23_1⟩ := q_2 BK281.out) | ((with_reducible refine gate_callee (f := 17) rfl ?_); refine goesLq (some 5) rfl rfl Try.func17 (by kernel_rfl) rfl #[.agg #[.slice A0_0 l0_0.length c0_0, .slice A0_1 l0_1.length c0_1]] rfl ?_; (with_reducible refine (impl_LogFault.calls _ _ l0_0 _ _ l0_1 t283 _ ?side1 ?side2 ?side3 ?side4 A2.out).mono ?_); (case side1 => exact q_c ((Kd.V_reads' HO0_0.out).2.2)); (case side2 => exact (Kd.V_reads' HO0_0.out).2.1); (case side3 => exact q_c ((Kd.V_reads' HO0_1.out).2.2)); (case side4 => exact (Kd.V_reads' HO0_1.out).2.1); rintro e w24 ⟨rfl, hb⟩; refine ⟨_, rfl, ?_⟩; have n0_ := Aside0.mk (Kd.V_below (q_v (HO0_0.out)) hb); have n1_ := Aside0.mk (Kd.V_below (q_v (HO0_1.out)) hb); have n2_ := Aside0.mk (blk_below (q_b BK281.out) hb); have n3_ := Aside0.mk (blk_below (q_b BK282.out) hb); have n4_ := Aside0.mk (below_step bq hb); revert n0_ n1_ n2_ n3_ n4_; clear HO0_0 HO0_1 BK281 BK282 HB; intro HO0_0 HO0_1 BK281 BK282 HB; (try clear hb); (try clear hb2); (try clear hk); (try clear hi); obtain ⟨hcz25_0, hcz25_1, hcz25_2, hfz25_0, hfz25_1, hfz25_2⟩ := q_3 BK282.out))
  refine bodyPost_ret (results_cell_row rfl _ _ gb282 43 #[.int .i64 t283, .int .i64 0, .slice none 0 0] (0, 0) _ rfl (by (with_reducible repeat (first | refine blk_drewN ?_ _ | refine blk_drew ?_ | refine blk_alloc ?_ _)); refine blk_put (cs := #[.int .i64 t283, .int .i64 0, .slice none 0 0]) ?_ 2 _ rfl; (with_reducible repeat (first | refine blk_drewN ?_ _ | refine blk_drew ?_ | refine blk_alloc ?_ _)); refine blk_put (cs := #[.int .i64 t283, .int .i64 0, .slice none 0 0]) ?_ 1 _ rfl; (with_reducible repeat (first | refine blk_drewN ?_ _ | refine blk_drew ?_ | refine blk_alloc ?_ _)); refine blk_put (cs := #[.int .i64 0, .int .i64 0, .slice none 0 0]) ?_ 0 _ rfl; (with_reducible repeat (first | refine blk_drewN ?_ _ | refine blk_drew ?_ | refine blk_alloc ?_ _)); exact BK282.out) Try.underlying43 rfl (by kernel_rfl)) rfl ?_
  exact ⟨_, q_e, by first | exact Kd.S_nil _ _ _ _ _ | exact Kd.N_nil _ _ _ _ _ | exact Kd.V_nil _ _ _ _ _ | exact Kd.Q_nil _ _ _ _ _ | exact Kd.R_nil _ _ _ _ _, bq⟩

/-! ### spec_l3Records: function 64 -/
mutual
def spec_l3Records.l0 : Nat → List Int → List (List Int) → Int → Option ((List (List Int)) × Int)
  | 0, _, _, _ => none
  | k + 1, x0, x4, x5 => if (wrap64 (x5 + 4)) < (x0.length : Int) then (if 0 ≤ x5 then (if x5 < (x0.length : Int) then (if 0 ≤ (wrap64 (x5 + 1)) then (if (wrap64 (x5 + 1)) < (x0.length : Int) then (if (wrap64 ((wrap64 ((wrap64 (rd x0 x5)) * 256)) + (wrap64 (rd x0 (wrap64 (x5 + 1)))))) < 1 then (spec_l3Records.j1 k x0 x4 x5 (wrap64 ((wrap64 ((wrap64 (rd x0 x5)) * 256)) + (wrap64 (rd x0 (wrap64 (x5 + 1)))))) true) else (if (wrap64 ((wrap64 ((wrap64 (rd x0 x5)) * 256)) + (wrap64 (rd x0 (wrap64 (x5 + 1)))))) > 500 then (spec_l3Records.j1 k x0 x4 x5 (wrap64 ((wrap64 ((wrap64 (rd x0 x5)) * 256)) + (wrap64 (rd x0 (wrap64 (x5 + 1)))))) true) else (spec_l3Records.j1 k x0 x4 x5 (wrap64 ((wrap64 ((wrap64 (rd x0 x5)) * 256)) + (wrap64 (rd x0 (wrap64 (x5 + 1)))))) (decide ((wrap64 ((wrap64 (x5 + 4)) + (wrap64 ((wrap64 ((wrap64 (rd x0 x5)) * 256)) + (wrap64 (rd x0 (wrap64 (x5 + 1)))))))) > (x0.length : Int)))))) else (none)) else (none)) else (none)) else (none)) else (some (x4, x5))
def spec_l3Records.j1 : Nat → List Int → List (List Int) → Int → Int → Bool → Option ((List (List Int)) × Int)
  | 0, _, _, _, _, _ => none
  | k + 1, x0, x4, x5, x6, x41 => if x41 = true then (some (x4, x5)) else (if 0 ≤ (wrap64 (x5 + 4)) then (if (wrap64 (x5 + 4)) ≤ (wrap64 ((wrap64 (x5 + 4)) + x6)) then (if (wrap64 ((wrap64 (x5 + 4)) + x6)) ≤ (x0.length : Int) then ((spec_CheckOf.f k ((x0.take ((wrap64 ((wrap64 (x5 + 4)) + x6)) : Int).toNat).drop ((wrap64 (x5 + 4)) : Int).toNat)).bind fun t301 => (if 0 ≤ (wrap64 (x5 + 2)) then (if (wrap64 (x5 + 2)) < (x0.length : Int) then (if 0 ≤ (wrap64 (x5 + 3)) then (if (wrap64 (x5 + 3)) < (x0.length : Int) then (if t301 = (wrap64 ((wrap64 ((wrap64 (rd x0 (wrap64 (x5 + 2)))) * 256)) + (wrap64 (rd x0 (wrap64 (x5 + 3)))))) then ((some (([] : List Int) : List Int)).bind fun y304 => (if y304.length + ((x0.take ((wrap64 ((wrap64 (x5 + 4)) + x6)) : Int).toNat).drop ((wrap64 (x5 + 4)) : Int).toNat).length < 140737488355328 then (if x4.length < 5864062014805 then (spec_l3Records.l0 k x0 (x4 ++ [(y304 ++ ((x0.take ((wrap64 ((wrap64 (x5 + 4)) + x6)) : Int).toNat).drop ((wrap64 (x5 + 4)) : Int).toNat))]) (wrap64 ((wrap64 (x5 + 4)) + x6))) else (none)) else (none))) else (some (x4, x5))) else (none)) else (none)) else (none)) else (none))) else (none)) else (none)) else (none))
end
def spec_l3Records.f (k : Nat) (l0 : List Int) : Option ((List (List Int)) × Int) := spec_l3Records.l0 k l0 (([] : List (List Int))) 0
set_option maxHeartbeats 8000000 in
set_option maxRecDepth 100000 in
theorem spec_l3Records.calls (k : Nat) (A0 : Option Addr) (c0 : Nat) (l0 : List Int) (r1 : List (List Int)) (r2 : Int) (w : World) (hr0 : Kd.C (Kd.int .u8) w A0 l0.length l0) (hc0 : l0.length ≤ c0) (h : spec_l3Records.f k l0 = some (r1, r2)) :
  Calls Try.prog 64 #[.slice A0 l0.length c0] w fun e w' => ∃ v0_ : Value, e = .returned (.tuple #[v0_, .int .i64 r2]) ∧ Kd.S (Kd.slice 5 (Kd.int .u8)) 22 w' w.heap.size (fun _ => True) v0_ r1 ∧ Below w.heap.size w w' := by
 have HR0 := Aside0.mk hr0
 have HC0 := Aside0.mk hc0
 clear hr0 hc0
 have HB := Aside0.mk (Below.refl w.heap.size w)
 have H : (spec_l3Records.l0 k l0 (([] : List (List Int))) 0) = some (r1, r2) := h
 clear h
 obtain ⟨y295, hy295⟩ : ∃ y_ : List (List Int), y_ = (([] : List (List Int))) := ⟨_, rfl⟩
 replace H : (spec_l3Records.l0 k l0 y295 0) = some (r1, r2) := q_h hy295 H
 have Ny295 := Aside0.mk hy295
 clear hy295
 have H' := Aside0.mk H
 clear H
 go_enter Try.func64, Try.ntmps64
 go_wp2_with (first | ((with_reducible refine gate_dst (N := 8) rfl ?_); (try (refine gate_guard (by rfl) ?_; dsimp only)); refine Kd.S_lit (Kd.slice 5 (Kd.int .u8)) _ 22 ?hg (N := 8) ?hd (xs := ([] : List (List Int))) (inner := []) (ok := fun _ => True) (okp := fun _ => True) ?hr ?hp (fun _ hk => hk) trivial (Below.refl _ _) (Nat.le_refl _) (by simp) ?_; (case hd => rfl); (case hg => rfl); (case hr => first | (go_simp; done) | (go_simp; rfl)); (case hp => exact (Reps.none _ _)); intro v296 w2 ho3 hb hg_ hnew_; clear hg_ hnew_; (first | rw [← Ny295.out] at ho3 | (simp only [Int.reduceToNat] at ho3; rw [← Ny295.out] at ho3)); have n0_ := Aside0.mk (Kd.S_lower ho3 (below_size bq)); have n1_ := Aside0.mk (below_step bq hb); revert n0_ n1_; clear HB; intro HO297 HB; clear hb ho3))
 repeat (go_quiet (first | ((with_reducible refine gate_dst (N := 8) rfl ?_); (try (refine gate_guard (by rfl) ?_; dsimp only)); refine Kd.S_lit (Kd.slice 5 (Kd.int .u8)) _ 22 ?hg (N := 8) ?hd (xs := ([] : List (List Int))) (inner := []) (ok := fun _ => True) (okp := fun _ => True) ?hr ?hp (fun _ hk => hk) trivial (Below.refl _ _) (Nat.le_refl _) (by simp) ?_; (case hd => rfl); (case hg => rfl); (case hr => first | (go_simp; done) | (go_simp; rfl)); (case hp => exact (Reps.none _ _)); intro v296 w2 ho3 hb hg_ hnew_; clear hg_ hnew_; (first | rw [← Ny295.out] at ho3 | (simp only [Int.reduceToNat] at ho3; rw [← Ny295.out] at ho3)); have n0_ := Aside0.mk (Kd.S_lower ho3 (below_size bq)); have n1_ := Aside0.mk (below_step bq hb); revert n0_ n1_; clear HB; intro HO297 HB; clear hb ho3)); try go_wp2_with (first | ((with_reducible refine gate_dst (N := 8) rfl ?_); (try (refine gate_guard (by rfl) ?_; dsimp only)); refine Kd.S_lit (Kd.slice 5 (Kd.int .u8)) _ 22 ?hg (N := 8) ?hd (xs := ([] : List (List Int))) (inner := []) (ok := fun _ => True) (okp := fun _ => True) ?hr ?hp (fun _ hk => hk) trivial (Below.refl _ _) (Nat.le_refl _) (by simp) ?_; (case hd => rfl); (case hg => rfl); (case hr => first | (go_simp; done) | (go_simp; rfl)); (case hp => exact (Reps.none _ _)); intro v296 w2 ho3 hb hg_ hnew_; clear hg_ hnew_; (first | rw [← Ny295.out] at ho3 | (simp only [Int.reduceToNat] at ho3; rw [← Ny295.out] at ho3)); have n0_ := Aside0.mk (Kd.S_lower ho3 (below_size bq)); have n1_ := Aside0.mk (below_step bq hb); revert n0_ n1_; clear HB; intro HO297 HB; clear hb ho3)))
 go_loopg [4, 5] k (fun kq v4 v5 w' => ∃ (x4_1 : List (List Int)) (x5_1 : Int), v5 = .int .i64 x5_1 ∧ Aside0 (spec_l3Records.l0 kq l0 x4_1 x5_1 = some (r1, r2)) ∧ Aside0 (kq ≤ k) ∧ Aside0 (Kd.S (Kd.slice 5 (Kd.int .u8)) 22 w' w.heap.size (fun _ => True) v4 x4_1) ∧ Aside0 (Below w.heap.size w w'))
 case atStart => exact ⟨(y295), (0), q_i, H', ⟨Nat.le_refl _⟩, ⟨q_s (HO297.out)⟩, ⟨bq⟩⟩
 case round =>
  clear H'
  (try clear p2)
  obtain ⟨x4_1, x5_1, rfl, HA, HK1, HO_4, HB⟩ := hrel
  cases gk with
  | zero => exact absurd HA.out (by simp [spec_l3Records.l0])
  | succ k1 =>
   have H := HA.out
   clear HA
   simp only [spec_l3Records.l0] at H
   by_cases c4 : (wrap64 (x5_1 + 4)) < (l0.length : Int)
   ·rw [if_pos c4] at H
    have c4b0 := decide_eq_true c4
    clear c4
    by_cases c5 : 0 ≤ x5_1
    ·rw [if_pos c5] at H
     have c5b0 := decide_eq_true c5
     clear c5
     by_cases c6 : x5_1 < (l0.length : Int)
     ·rw [if_pos c6] at H
      have c6b0 := decide_eq_true c6
      clear c6
      obtain ⟨ji7, hji7⟩ : ∃ j_ : Int, (wrap64 (x5_1 + 1)) = j_ := ⟨_, rfl⟩
      replace H : (if 0 ≤ (ji7) then (if (ji7) < (l0.length : Int) then (if (wrap64 ((wrap64 ((wrap64 (rd l0 x5_1)) * 256)) + (wrap64 (rd l0 (ji7))))) < 1 then (spec_l3Records.j1 k1 l0 x4_1 x5_1 (wrap64 ((wrap64 ((wrap64 (rd l0 x5_1)) * 256)) + (wrap64 (rd l0 (ji7))))) true) else (if (wrap64 ((wrap64 ((wrap64 (rd l0 x5_1)) * 256)) + (wrap64 (rd l0 (ji7))))) > 500 then (spec_l3Records.j1 k1 l0 x4_1 x5_1 (wrap64 ((wrap64 ((wrap64 (rd l0 x5_1)) * 256)) + (wrap64 (rd l0 (ji7))))) true) else (spec_l3Records.j1 k1 l0 x4_1 x5_1 (wrap64 ((wrap64 ((wrap64 (rd l0 x5_1)) * 256)) + (wrap64 (rd l0 (ji7))))) (decide ((wrap64 ((wrap64 (x5_1 + 4)) + (wrap64 ((wrap64 ((wrap64 (rd l0 x5_1)) * 256)) + (wrap64 (rd l0 (ji7))))))) > (l0.length : Int)))))) else (none)) else (none)) = some (r1, r2) := by first | (rw [hji7] at H; exact H) | (simp only [hji7] at H ⊢; exact H)
      have hji7w : (IntKind.i64.wrap (x5_1 + 1)) = ji7 := (i64_w _).trans hji7
      by_cases c8 : 0 ≤ (ji7)
      ·rw [if_pos c8] at H
       have c8b0 := decide_eq_true c8
       clear c8
       by_cases c9 : (ji7) < (l0.length : Int)
       ·rw [if_pos c9] at H
        have c9b0 := decide_eq_true c9
        clear c9
        have HC10 := Aside0.mk H
        clear H
        have p298 : 0 ≤ (x5_1 : Int) := q_d
        have q298 : x5_1 < (l0.length : Int) := q_d
        obtain ⟨ad298, e298, hx298_0⟩ := Kd.at_int HR0.out x5_1 p298 q298
        cases e298
        replace hx298_0 := q_x HB.out hx298_0
        replace p298 := eq_true p298
        replace q298 := eq_true q298
        have p299 : 0 ≤ ((ji7) : Int) := q_d
        have q299 : (ji7) < (l0.length : Int) := q_d
        obtain ⟨ad299, e299, hx299_0⟩ := Kd.at_int HR0.out (ji7) p299 q299
        obtain rfl : ad298 = ad299 := (by injection e299)
        replace hx299_0 := q_x HB.out hx299_0
        replace p299 := eq_true p299
        replace q299 := eq_true q299
        go_upto_region 5 with (fail)
        repeat (go_quiet (fail); go_upto_region 5 with (fail))
        go_cut [41] (fun v41 wc => ∃ (kq : Nat) (x41_9 : Bool), v41 = .bool x41_9 ∧ Aside0 (spec_l3Records.j1 kq l0 x4_1 x5_1 (wrap64 ((wrap64 ((wrap64 (rd l0 x5_1)) * 256)) + (wrap64 (rd l0 (ji7))))) x41_9 = some (r1, r2)) ∧ Aside0 (kq ≤ k1) ∧ Aside0 (Kd.S (Kd.slice 5 (Kd.int .u8)) 22 wc w.heap.size (fun _ => True) u4 x4_1) ∧ Aside0 (Below w.heap.size w wc))
        case first =>
         have H := HC10.out
         clear HC10
         by_cases c11 : (wrap64 ((wrap64 ((wrap64 (rd l0 x5_1)) * 256)) + (wrap64 (rd l0 (ji7))))) < 1
         ·rw [if_pos c11] at H
          have c11b0 := decide_eq_true c11
          clear c11
          (first | rw [c11b0] | (simp only [i64_w, i32_w]; rw [c11b0]) | skip)
          have H' := Aside0.mk H
          clear H
          go_wp2
          repeat (go_quiet (fail); try go_wp2)
          go_meet
          case rel => exact ⟨_, (true), q_i, H', ⟨by have := HK1.out; first | omega | exact Nat.le_refl _⟩, ⟨q_s (HO_4.out)⟩, ⟨bq⟩⟩
         ·rw [if_neg c11] at H
          have c11b0 := decide_eq_false c11
          clear c11
          (first | rw [c11b0] | (simp only [i64_w, i32_w]; rw [c11b0]) | skip)
          by_cases c12 : (wrap64 ((wrap64 ((wrap64 (rd l0 x5_1)) * 256)) + (wrap64 (rd l0 (ji7))))) > 500
          ·rw [if_pos c12] at H
           have c12b0 := decide_eq_true c12
           clear c12
           have H' := Aside0.mk H
           clear H
           go_wp2
           repeat (go_quiet (fail); try go_wp2)
           go_meet
           case rel => exact ⟨_, (true), q_i, H', ⟨by have := HK1.out; first | omega | exact Nat.le_refl _⟩, ⟨q_s (HO_4.out)⟩, ⟨bq⟩⟩
          ·rw [if_neg c12] at H
           have c12b0 := decide_eq_false c12
           clear c12
           have H' := Aside0.mk H
           clear H
           go_wp2
           repeat (go_quiet (fail); try go_wp2)
           go_meet
           case rel => exact ⟨_, (decide ((wrap64 ((wrap64 (x5_1 + 4)) + (wrap64 ((wrap64 ((wrap64 (rd l0 x5_1)) * 256)) + (wrap64 (rd l0 (ji7))))))) > (l0.length : Int))), (by first | rfl | (simp; done) | (simp only [← hji7] <;> (first | rfl | simp)) | (simp [*]; done)), H', ⟨by have := HK1.out; first | omega | exact Nat.le_refl _⟩, ⟨q_s (HO_4.out)⟩, ⟨bq⟩⟩
        case rest =>
         clear HC10
         (try clear c1); (try clear p2); (try clear q2); (try clear hx2); (try clear c4); (try clear c4b0); (try clear c5); (try clear c5b0); (try clear c6); (try clear c6b0); (try clear p6); (try clear c8)
         (try clear c8b0); (try clear c9); (try clear c9b0); (try clear c11); (try clear c11b0); (try clear c12); (try clear c12b0); (try clear hx298_0); (try clear hx299_0); (try clear p2); (try clear p298)
         (try clear p299); (try clear q298); (try clear q299)
         obtain ⟨kq, x41_9, rfl, HA, HJ9, HO_4, HB⟩ := hcut
         cases kq with
         | zero => exact absurd HA.out (by simp [spec_l3Records.j1])
         | succ kj9 =>
          have H := HA.out
          clear HA
          simp only [spec_l3Records.j1] at H
          by_cases c13 : x41_9 = true
          ·subst c13
           have H1 : (some (x4_1, x5_1)) = some (r1, r2) := by rw [if_pos rfl] at H; exact H
           clear H
           have H := H1
           clear H1
           simp only [Option.some.injEq, Prod.mk.injEq] at H
           obtain ⟨rfl, rfl⟩ := H
           go_wp2
           repeat (go_quiet (fail); try go_wp2)
           go_ret2
           exact ⟨_, by first | rfl | (simp [errW_none, errW_some] <;> rfl) | (simp only [← hji7]; first | rfl | (simp [errW_none, errW_some] <;> rfl)) | (simp [*, errW_none, errW_some] <;> rfl), q_s (HO_4.out), bq⟩
          ·replace c13 := Bool.eq_false_iff.mpr c13
           subst c13
           have H1 : (if 0 ≤ (wrap64 (x5_1 + 4)) then (if (wrap64 (x5_1 + 4)) ≤ (wrap64 ((wrap64 (x5_1 + 4)) + (wrap64 ((wrap64 ((wrap64 (rd l0 x5_1)) * 256)) + (wrap64 (rd l0 (ji7))))))) then (if (wrap64 ((wrap64 (x5_1 + 4)) + (wrap64 ((wrap64 ((wrap64 (rd l0 x5_1)) * 256)) + (wrap64 (rd l0 (ji7))))))) ≤ (l0.length : Int) then ((spec_CheckOf.f kj9 ((l0.take ((wrap64 ((wrap64 (x5_1 + 4)) + (wrap64 ((wrap64 ((wrap64 (rd l0 x5_1)) * 256)) + (wrap64 (rd l0 (ji7))))))) : Int).toNat).drop ((wrap64 (x5_1 + 4)) : Int).toNat)).bind fun t301 => (if 0 ≤ (wrap64 (x5_1 + 2)) then (if (wrap64 (x5_1 + 2)) < (l0.length : Int) then (if 0 ≤ (wrap64 (x5_1 + 3)) then (if (wrap64 (x5_1 + 3)) < (l0.length : Int) then (if t301 = (wrap64 ((wrap64 ((wrap64 (rd l0 (wrap64 (x5_1 + 2)))) * 256)) + (wrap64 (rd l0 (wrap64 (x5_1 + 3)))))) then ((some (([] : List Int) : List Int)).bind fun y304 => (if y304.length + ((l0.take ((wrap64 ((wrap64 (x5_1 + 4)) + (wrap64 ((wrap64 ((wrap64 (rd l0 x5_1)) * 256)) + (wrap64 (rd l0 (ji7))))))) : Int).toNat).drop ((wrap64 (x5_1 + 4)) : Int).toNat).length < 140737488355328 then (if x4_1.length < 5864062014805 then (spec_l3Records.l0 kj9 l0 (x4_1 ++ [(y304 ++ ((l0.take ((wrap64 ((wrap64 (x5_1 + 4)) + (wrap64 ((wrap64 ((wrap64 (rd l0 x5_1)) * 256)) + (wrap64 (rd l0 (ji7))))))) : Int).toNat).drop ((wrap64 (x5_1 + 4)) : Int).toNat))]) (wrap64 ((wrap64 (x5_1 + 4)) + (wrap64 ((wrap64 ((wrap64 (rd l0 x5_1)) * 256)) + (wrap64 (rd l0 (ji7)))))))) else (none)) else (none))) else (some (x4_1, x5_1))) else (none)) else (none)) else (none)) else (none))) else (none)) else (none)) else (none)) = some (r1, r2) := by rw [if_neg (show ¬ (false = true) by decide)] at H; exact H
           clear H
           have H := H1
           clear H1
           obtain ⟨ji14, hji14⟩ : ∃ j_ : Int, (wrap64 (x5_1 + 4)) = j_ := ⟨_, rfl⟩
           replace H : (if 0 ≤ (ji14) then (if (ji14) ≤ (wrap64 ((ji14) + (wrap64 ((wrap64 ((wrap64 (rd l0 x5_1)) * 256)) + (wrap64 (rd l0 (ji7))))))) then (if (wrap64 ((ji14) + (wrap64 ((wrap64 ((wrap64 (rd l0 x5_1)) * 256)) + (wrap64 (rd l0 (ji7))))))) ≤ (l0.length : Int) then ((spec_CheckOf.f kj9 ((l0.take ((wrap64 ((ji14) + (wrap64 ((wrap64 ((wrap64 (rd l0 x5_1)) * 256)) + (wrap64 (rd l0 (ji7))))))) : Int).toNat).drop ((ji14) : Int).toNat)).bind fun t301 => (if 0 ≤ (wrap64 (x5_1 + 2)) then (if (wrap64 (x5_1 + 2)) < (l0.length : Int) then (if 0 ≤ (wrap64 (x5_1 + 3)) then (if (wrap64 (x5_1 + 3)) < (l0.length : Int) then (if t301 = (wrap64 ((wrap64 ((wrap64 (rd l0 (wrap64 (x5_1 + 2)))) * 256)) + (wrap64 (rd l0 (wrap64 (x5_1 + 3)))))) then ((some (([] : List Int) : List Int)).bind fun y304 => (if y304.length + ((l0.take ((wrap64 ((ji14) + (wrap64 ((wrap64 ((wrap64 (rd l0 x5_1)) * 256)) + (wrap64 (rd l0 (ji7))))))) : Int).toNat).drop ((ji14) : Int).toNat).length < 140737488355328 then (if x4_1.length < 5864062014805 then (spec_l3Records.l0 kj9 l0 (x4_1 ++ [(y304 ++ ((l0.take ((wrap64 ((ji14) + (wrap64 ((wrap64 ((wrap64 (rd l0 x5_1)) * 256)) + (wrap64 (rd l0 (ji7))))))) : Int).toNat).drop ((ji14) : Int).toNat))]) (wrap64 ((ji14) + (wrap64 ((wrap64 ((wrap64 (rd l0 x5_1)) * 256)) + (wrap64 (rd l0 (ji7)))))))) else (none)) else (none))) else (some (x4_1, x5_1))) else (none)) else (none)) else (none)) else (none))) else (none)) else (none)) else (none)) = some (r1, r2) := by first | (rw [hji14] at H; exact H) | (simp only [hji14] at H ⊢; exact H)
           (try rw [hji14] at c4b0)
           have hji14w : (IntKind.i64.wrap (x5_1 + 4)) = ji14 := (i64_w _).trans hji14
           by_cases c15 : 0 ≤ (ji14)
           ·rw [if_pos c15] at H
            have c15b0 := eq_true c15
            have c15b1 := decide_eq_true c15
            clear c15
            by_cases c16 : (ji14) ≤ (wrap64 ((ji14) + (wrap64 ((wrap64 ((wrap64 (rd l0 x5_1)) * 256)) + (wrap64 (rd l0 (ji7)))))))
            ·rw [if_pos c16] at H
             have c16b0 := eq_true c16
             have c16b1 := decide_eq_true c16
             by_cases c17 : (wrap64 ((ji14) + (wrap64 ((wrap64 ((wrap64 (rd l0 x5_1)) * 256)) + (wrap64 (rd l0 (ji7))))))) ≤ (l0.length : Int)
             ·rw [if_pos c17] at H
              have c17b0 := eq_true c17
              have c17b1 := decide_eq_true c17
              replace H := Option.bind_eq_some_iff.mp H
              obtain ⟨t301, A180, H⟩ := H
              replace H : (if 0 ≤ (wrap64 (x5_1 + 2)) then (if (wrap64 (x5_1 + 2)) < (l0.length : Int) then (if 0 ≤ (wrap64 (x5_1 + 3)) then (if (wrap64 (x5_1 + 3)) < (l0.length : Int) then (if t301 = (wrap64 ((wrap64 ((wrap64 (rd l0 (wrap64 (x5_1 + 2)))) * 256)) + (wrap64 (rd l0 (wrap64 (x5_1 + 3)))))) then ((some (([] : List Int) : List Int)).bind fun y304 => (if y304.length + ((l0.take ((wrap64 ((ji14) + (wrap64 ((wrap64 ((wrap64 (rd l0 x5_1)) * 256)) + (wrap64 (rd l0 (ji7))))))) : Int).toNat).drop ((ji14) : Int).toNat).length < 140737488355328 then (if x4_1.length < 5864062014805 then (spec_l3Records.l0 kj9 l0 (x4_1 ++ [(y304 ++ ((l0.take ((wrap64 ((ji14) + (wrap64 ((wrap64 ((wrap64 (rd l0 x5_1)) * 256)) + (wrap64 (rd l0 (ji7))))))) : Int).toNat).drop ((ji14) : Int).toNat))]) (wrap64 ((ji14) + (wrap64 ((wrap64 ((wrap64 (rd l0 x5_1)) * 256)) + (wrap64 (rd l0 (ji7)))))))) else (none)) else (none))) else (some (x4_1, x5_1))) else (none)) else (none)) else (none)) else (none)) = some (r1, r2) := H
              have A18 := Aside0.mk A180
              clear A180
              obtain ⟨ji19, hji19⟩ : ∃ j_ : Int, (wrap64 (x5_1 + 2)) = j_ := ⟨_, rfl⟩
              replace H : (if 0 ≤ (ji19) then (if (ji19) < (l0.length : Int) then (if 0 ≤ (wrap64 (x5_1 + 3)) then (if (wrap64 (x5_1 + 3)) < (l0.length : Int) then (if t301 = (wrap64 ((wrap64 ((wrap64 (rd l0 (ji19))) * 256)) + (wrap64 (rd l0 (wrap64 (x5_1 + 3)))))) then ((some (([] : List Int) : List Int)).bind fun y304 => (if y304.length + ((l0.take ((wrap64 ((ji14) + (wrap64 ((wrap64 ((wrap64 (rd l0 x5_1)) * 256)) + (wrap64 (rd l0 (ji7))))))) : Int).toNat).drop ((ji14) : Int).toNat).length < 140737488355328 then (if x4_1.length < 5864062014805 then (spec_l3Records.l0 kj9 l0 (x4_1 ++ [(y304 ++ ((l0.take ((wrap64 ((ji14) + (wrap64 ((wrap64 ((wrap64 (rd l0 x5_1)) * 256)) + (wrap64 (rd l0 (ji7))))))) : Int).toNat).drop ((ji14) : Int).toNat))]) (wrap64 ((ji14) + (wrap64 ((wrap64 ((wrap64 (rd l0 x5_1)) * 256)) + (wrap64 (rd l0 (ji7)))))))) else (none)) else (none))) else (some (x4_1, x5_1))) else (none)) else (none)) else (none)) else (none)) = some (r1, r2) := by first | (rw [hji19] at H; exact H) | (simp only [hji19] at H ⊢; exact H)
              (try rw [hji19] at A18)
              have hji19w : (IntKind.i64.wrap (x5_1 + 2)) = ji19 := (i64_w _).trans hji19
              by_cases c20 : 0 ≤ (ji19)
              ·rw [if_pos c20] at H
               have c20b0 := decide_eq_true c20
               clear c20
               by_cases c21 : (ji19) < (l0.length : Int)
               ·rw [if_pos c21] at H
                have c21b0 := decide_eq_true c21
                clear c21
                obtain ⟨ji22, hji22⟩ : ∃ j_ : Int, (wrap64 (x5_1 + 3)) = j_ := ⟨_, rfl⟩
                replace H : (if 0 ≤ (ji22) then (if (ji22) < (l0.length : Int) then (if t301 = (wrap64 ((wrap64 ((wrap64 (rd l0 (ji19))) * 256)) + (wrap64 (rd l0 (ji22))))) then ((some (([] : List Int) : List Int)).bind fun y304 => (if y304.length + ((l0.take ((wrap64 ((ji14) + (wrap64 ((wrap64 ((wrap64 (rd l0 x5_1)) * 256)) + (wrap64 (rd l0 (ji7))))))) : Int).toNat).drop ((ji14) : Int).toNat).length < 140737488355328 then (if x4_1.length < 5864062014805 then (spec_l3Records.l0 kj9 l0 (x4_1 ++ [(y304 ++ ((l0.take ((wrap64 ((ji14) + (wrap64 ((wrap64 ((wrap64 (rd l0 x5_1)) * 256)) + (wrap64 (rd l0 (ji7))))))) : Int).toNat).drop ((ji14) : Int).toNat))]) (wrap64 ((ji14) + (wrap64 ((wrap64 ((wrap64 (rd l0 x5_1)) * 256)) + (wrap64 (rd l0 (ji7)))))))) else (none)) else (none))) else (some (x4_1, x5_1))) else (none)) else (none)) = some (r1, r2) := by first | (rw [hji22] at H; exact H) | (simp only [hji22] at H ⊢; exact H)
                (try rw [hji22] at A18)
                have hji22w : (IntKind.i64.wrap (x5_1 + 3)) = ji22 := (i64_w _).trans hji22
                by_cases c23 : 0 ≤ (ji22)
                ·rw [if_pos c23] at H
                 have c23b0 := decide_eq_true c23
                 clear c23
                 by_cases c24 : (ji22) < (l0.length : Int)
                 ·rw [if_pos c24] at H
                  have c24b0 := decide_eq_true c24
                  clear c24
                  by_cases c25 : t301 = (wrap64 ((wrap64 ((wrap64 (rd l0 (ji19))) * 256)) + (wrap64 (rd l0 (ji22)))))
                  ·rw [if_pos c25] at H
                   have c25b0 : (t301 == (wrap64 ((wrap64 ((wrap64 (rd l0 (ji19))) * 256)) + (wrap64 (rd l0 (ji22)))))) = true := beq_iff_eq.mpr c25
                   have c25b1 : (t301 != (wrap64 ((wrap64 ((wrap64 (rd l0 (ji19))) * 256)) + (wrap64 (rd l0 (ji22)))))) = false := bne_eq_false_iff_eq.mpr c25
                   clear c25
                   obtain ⟨y304, hy304⟩ : ∃ y_ : List Int, y_ = (([] : List Int)) := ⟨_, rfl⟩
                   replace H : (if y304.length + ((l0.take ((wrap64 ((ji14) + (wrap64 ((wrap64 ((wrap64 (rd l0 x5_1)) * 256)) + (wrap64 (rd l0 (ji7))))))) : Int).toNat).drop ((ji14) : Int).toNat).length < 140737488355328 then (if x4_1.length < 5864062014805 then (spec_l3Records.l0 kj9 l0 (x4_1 ++ [(y304 ++ ((l0.take ((wrap64 ((ji14) + (wrap64 ((wrap64 ((wrap64 (rd l0 x5_1)) * 256)) + (wrap64 (rd l0 (ji7))))))) : Int).toNat).drop ((ji14) : Int).toNat))]) (wrap64 ((ji14) + (wrap64 ((wrap64 ((wrap64 (rd l0 x5_1)) * 256)) + (wrap64 (rd l0 (ji7)))))))) else (none)) else (none)) = some (r1, r2) := q_h hy304 H
                   have Ny304 := Aside0.mk hy304
                   clear hy304
                   by_cases c26 : y304.length + ((l0.take ((wrap64 ((ji14) + (wrap64 ((wrap64 ((wrap64 (rd l0 x5_1)) * 256)) + (wrap64 (rd l0 (ji7))))))) : Int).toNat).drop ((ji14) : Int).toNat).length < 140737488355328
                   ·rw [if_pos c26] at H
                    have LMc26 := Aside0.mk c26
                    clear c26
                    obtain ⟨y307, hy307⟩ : ∃ y_ : List Int, y_ = (y304 ++ ((l0.take ((wrap64 ((ji14) + (wrap64 ((wrap64 ((wrap64 (rd l0 x5_1)) * 256)) + (wrap64 (rd l0 (ji7))))))) : Int).toNat).drop ((ji14) : Int).toNat)) := ⟨_, rfl⟩
                    replace H : (if x4_1.length < 5864062014805 then (spec_l3Records.l0 kj9 l0 (x4_1 ++ [y307]) (wrap64 ((ji14) + (wrap64 ((wrap64 ((wrap64 (rd l0 x5_1)) * 256)) + (wrap64 (rd l0 (ji7)))))))) else (none)) = some (r1, r2) := q_h hy307 H
                    have Ny307 := Aside0.mk hy307
                    clear hy307
                    by_cases c27 : x4_1.length < 5864062014805
                    ·rw [if_pos c27] at H
                     have LMc27 := Aside0.mk c27
                     clear c27
                     obtain ⟨y310, hy310⟩ : ∃ y_ : List (List Int), y_ = (x4_1 ++ [y307]) := ⟨_, rfl⟩
                     replace H : (spec_l3Records.l0 kj9 l0 y310 (wrap64 ((ji14) + (wrap64 ((wrap64 ((wrap64 (rd l0 x5_1)) * 256)) + (wrap64 (rd l0 (ji7)))))))) = some (r1, r2) := q_h hy310 H
                     have Ny310 := Aside0.mk hy310
                     clear hy310
                     have H' := Aside0.mk H
                     clear H
                     obtain ⟨i028, hi028, _, hsz28, _⟩ := info_parts info5
                     obtain ⟨A28, hcut28, hA28, hC28⟩ := print_mid_of (P := Try.prog) (Value.int .u8) 0 22 5 .i64 .i64 Try.underlying22 hi028 hsz28 (some ad298) c0 l0 (ji14) (wrap64 ((ji14) + (wrap64 ((wrap64 ((wrap64 (rd l0 x5_1)) * 256)) + (wrap64 (rd l0 (ji7))))))) q_d (by first | omega | exact q_d) q_d HC0.out
                     have HR300 := Aside0.mk (Kd.C_of_reads (h1 := fun _ => rfl) (hA28 _ (Kd.reads_of_C HR0.out)))
                     have HC300 := Aside0.mk hC28
                     clear hA28 hC28 hi028 hsz28
                     go_wp2_with (first | (go_at_call 78; (refine calls_of_args (args' := #[.slice _ ((l0.take ((wrap64 ((ji14) + (wrap64 ((wrap64 ((wrap64 (rd l0 x5_1)) * 256)) + (wrap64 (rd l0 (ji7))))))) : Int).toNat).drop ((ji14) : Int).toNat).length _]) (by simp only [List.length_drop, List.length_take]; rw [Nat.min_eq_left (by have h_ : ((wrap64 ((ji14) + (wrap64 ((wrap64 ((wrap64 (rd l0 x5_1)) * 256)) + (wrap64 (rd l0 (ji7))))))) : Int) ≤ (l0.length : Int) := q_d; omega)]) ?_); (with_reducible refine (spec_CheckOf.calls kj9 _ _ ((l0.take ((wrap64 ((ji14) + (wrap64 ((wrap64 ((wrap64 (rd l0 x5_1)) * 256)) + (wrap64 (rd l0 (ji7))))))) : Int).toNat).drop ((ji14) : Int).toNat) t301 _ ?side1 ?side2 A18.out).mono ?_); (case side1 => exact q_c ((Kd.C_below HR300.out HB.out))); (case side2 => exact HC300.out); rintro e w' ⟨rfl, ⟨nd, rfl⟩⟩; (try first | exact ⟨rfl, _, World.drewN_drewN _ _ _⟩ | exact ⟨rfl, _, Eq.trans (World.drewN_drewN _ _ _) (congrArg (World.drewN _) (Nat.add_assoc _ _ _))⟩); have p302 : 0 ≤ ((ji19) : Int) := q_d; have q302 : (ji19) < (l0.length : Int) := q_d; obtain ⟨ad302, e302, hx302_0⟩ := Kd.at_int HR0.out (ji19) p302 q302; obtain rfl : ad298 = ad302 := (by injection e302); replace hx302_0 := q_x HB.out hx302_0; replace p302 := eq_true p302; replace q302 := eq_true q302; have p303 : 0 ≤ ((ji22) : Int) := q_d; have q303 : (ji22) < (l0.length : Int) := q_d; obtain ⟨ad303, e303, hx303_0⟩ := Kd.at_int HR0.out (ji22) p303 q303; obtain rfl : ad298 = ad303 := (by injection e303); replace hx303_0 := q_x HB.out hx303_0; replace p303 := eq_true p303; replace q303 := eq_true q303) | ((with_reducible refine gate_dst (N := 68) rfl ?_); (try (refine gate_guard (by rfl) ?_; dsimp only)); refine Kd.R_lit (Kd.int .u8) _ 5 ?hg (N := 68) ?hd (xs := ([] : List Int)) (inner := []) (ok := fun _ => True) (okp := fun _ => True) ?hr ?hp (fun _ hk => hk) trivial (Below.refl _ _) (Nat.le_refl _) (by simp) ?_; (case hd => rfl); (case hg => rfl); (case hr => first | (go_simp; done) | (go_simp; rfl)); (case hp => exact (Reps.none _ _)); intro v305 w29 ho30 hb hg_ hnew_; clear hg_ hnew_; (first | rw [← Ny304.out] at ho30 | (simp only [Int.reduceToNat] at ho30; rw [← Ny304.out] at ho30)); have n0_ := Aside0.mk (Kd.S_elder' (q_s (HO_4.out)) (Kd.R_base ho30) hb); have n1_ := Aside0.mk (Kd.R_lower ho30 (below_size bq)); have n2_ := Aside0.mk (below_step bq hb); revert n0_ n1_ n2_; clear HO_4 HB; intro HO_4 HO306 HB; clear hb ho30) | ((with_reducible refine gate_builtin (b := .append) (xs := #[.tmp 68, .tmp 69]) rfl ?_); (try (refine gate_guard (by rfl) ?_; dsimp only)); at_builtin; refine Kd.R_append_rows (Kd.int .u8) (w0 := w) w.heap.size rfl (.tmp 68) (.tmp 69) 22 5 (.int .u8 0) 1 rfl Try.underlying22 info5 rfl (by decide) (by omega) v305 y304 ((l0.take ((wrap64 ((ji14) + (wrap64 ((wrap64 ((wrap64 (rd l0 x5_1)) * 256)) + (wrap64 (rd l0 (ji7))))))) : Int).toNat).drop ((ji14) : Int).toNat) _ _ _ (fun _ => True) (fun _ => False) rfl rfl ?aO ?aR (fun _ _ h => h) (fun _ h => h.elim) ?aF ?aB ?aS ?aL ?_; (case aR => first | (have hz_ := (Kd.C_below HR300.out HB.out); rw [show ((l0.take ((wrap64 ((ji14) + (wrap64 ((wrap64 ((wrap64 (rd l0 x5_1)) * 256)) + (wrap64 (rd l0 (ji7))))))) : Int).toNat).drop ((ji14) : Int).toNat).length = ((wrap64 ((ji14) + (wrap64 ((wrap64 ((wrap64 (rd l0 x5_1)) * 256)) + (wrap64 (rd l0 (ji7))))))).toNat - (ji14).toNat) from (by rw [List.length_drop, List.length_take]; have h_ : ((wrap64 ((ji14) + (wrap64 ((wrap64 ((wrap64 (rd l0 x5_1)) * 256)) + (wrap64 (rd l0 (ji7))))))) : Int) ≤ (l0.length : Int) := q_d; omega)] at hz_; exact hz_) | (rw [← show ((l0.take ((wrap64 ((ji14) + (wrap64 ((wrap64 ((wrap64 (rd l0 x5_1)) * 256)) + (wrap64 (rd l0 (ji7))))))) : Int).toNat).drop ((ji14) : Int).toNat).length = ((wrap64 ((ji14) + (wrap64 ((wrap64 ((wrap64 (rd l0 x5_1)) * 256)) + (wrap64 (rd l0 (ji7))))))).toNat - (ji14).toNat) from (by rw [List.length_drop, List.length_take]; have h_ : ((wrap64 ((ji14) + (wrap64 ((wrap64 ((wrap64 (rd l0 x5_1)) * 256)) + (wrap64 (rd l0 (ji7))))))) : Int) ≤ (l0.length : Int) := q_d; omega)]; repeat (first | exact (Kd.C_below HR300.out HB.out) | (with_reducible refine Kd.C_alloc ?_ _) | (with_reducible refine Kd.C_drewN ?_ _) | (with_reducible refine Kd.C_drew ?_))) | (repeat (first | exact (Kd.C_below HR300.out HB.out) | (with_reducible refine Kd.C_alloc ?_ _) | (with_reducible refine Kd.C_drewN ?_ _) | (with_reducible refine Kd.C_drew ?_)))); (case aB => exact bq); (case aF => exact (fun _ _ => trivial)); (case aO => exact (q_r (HO306.out))); (case aS => exact (below_size bq)); (case aL => have := LMc26.out; have hlx_ := (show ((l0.take ((wrap64 ((ji14) + (wrap64 ((wrap64 ((wrap64 (rd l0 x5_1)) * 256)) + (wrap64 (rd l0 (ji7))))))) : Int).toNat).drop ((ji14) : Int).toNat).length = ((wrap64 ((ji14) + (wrap64 ((wrap64 ((wrap64 (rd l0 x5_1)) * 256)) + (wrap64 (rd l0 (ji7))))))).toNat - (ji14).toNat) from (by rw [List.length_drop, List.length_take]; have h_ : ((wrap64 ((ji14) + (wrap64 ((wrap64 ((wrap64 (rd l0 x5_1)) * 256)) + (wrap64 (rd l0 (ji7))))))) : Int) ≤ (l0.length : Int) := q_d; omega)); omega); intro v308 w31 ho hb hg hat; rw [← Ny307.out] at ho; have n0_ := Aside0.mk (Kd.S_after (ok := (fun _ => True)) (q_s (HO_4.out)) hg hat); have n1_ := Aside0.mk (hb); have n2_ := Aside0.mk (ho); revert n0_ n1_ n2_; clear HO_4 HB HO306; intro HO_4 HB HO309; clear ho hb hg hat; obtain ⟨Ao33, co33, eo33⟩ := Kd.R_slice HO309.out; subst eo33) | ((with_reducible refine gate_builtin (b := .append) (xs := #[.tmp 67, .tmp 71]) rfl ?_); (try (refine gate_guard (by rfl) ?_; dsimp only)); at_builtin; refine Kd.S_append (Kd.slice 5 (Kd.int .u8)) (w0 := w) w.heap.size rfl (.tmp 67) (.tmp 71) 40 22 (.slice none 0 0) 24 rfl Try.underlying40 info22 rfl (by decide) (by omega) u4 x4_1 y307 [.slice Ao33 y307.length co33] (fun _ => True) (fun k_ => some k_ = (.slice Ao33 y307.length co33 : Value).ownBlock) rfl rfl ?aP (fun k_ hk_ => ((Kd.R_mono (ok' := fun k_ => ((fun _ => True)) k_ ∧ some k_ ≠ (u4 : Value).ownBlock) (Kd.R_apart' (HO309.out) (Kd.S_typed HO_4.out) (by decide)) (fun k_ hk => ⟨trivial, hk.2⟩))).1 k_ hk_.symm) ?aF ?aO ?aB ?aS ?aL ?_; (case aP => exact Kd.M_row (Kd.R_mono (Kd.R_tight rfl (Kd.R_mono (ok' := fun k_ => ((fun _ => True)) k_ ∧ some k_ ≠ (u4 : Value).ownBlock) (Kd.R_apart' (HO309.out) (Kd.S_typed HO_4.out) (by decide)) (fun k_ hk => ⟨trivial, hk.2⟩))) (fun _ h_ => h_))); (case aB => exact bq); (case aF => exact (fun _ _ => trivial)); (case aO => exact (by (with_reducible repeat (first | apply Kd.S_alloc | apply Kd.S_drewN | apply Kd.S_drew)); exact Kd.S_mono HO_4.out (fun k_ hk => ⟨trivial, fun e_ => hk.2 e_⟩))); (case aS => exact (below_size bq)); (case aL => have := LMc27.out; omega); intro v311 w32 ho hb hg hat; rw [← Ny310.out] at ho; have n0_ := Aside0.mk (hb); have n1_ := Aside0.mk (ho); revert n0_ n1_; clear HB HO_4 HO309; intro HB HO312; clear ho hb hg hat))
                     repeat (go_quiet (first | (go_at_call 78; (refine calls_of_args (args' := #[.slice _ ((l0.take ((wrap64 ((ji14) + (wrap64 ((wrap64 ((wrap64 (rd l0 x5_1)) * 256)) + (wrap64 (rd l0 (ji7))))))) : Int).toNat).drop ((ji14) : Int).toNat).length _]) (by simp only [List.length_drop, List.length_take]; rw [Nat.min_eq_left (by have h_ : ((wrap64 ((ji14) + (wrap64 ((wrap64 ((wrap64 (rd l0 x5_1)) * 256)) + (wrap64 (rd l0 (ji7))))))) : Int) ≤ (l0.length : Int) := q_d; omega)]) ?_); (with_reducible refine (spec_CheckOf.calls kj9 _ _ ((l0.take ((wrap64 ((ji14) + (wrap64 ((wrap64 ((wrap64 (rd l0 x5_1)) * 256)) + (wrap64 (rd l0 (ji7))))))) : Int).toNat).drop ((ji14) : Int).toNat) t301 _ ?side1 ?side2 A18.out).mono ?_); (case side1 => exact q_c ((Kd.C_below HR300.out HB.out))); (case side2 => exact HC300.out); rintro e w' ⟨rfl, ⟨nd, rfl⟩⟩; (try first | exact ⟨rfl, _, World.drewN_drewN _ _ _⟩ | exact ⟨rfl, _, Eq.trans (World.drewN_drewN _ _ _) (congrArg (World.drewN _) (Nat.add_assoc _ _ _))⟩); have p302 : 0 ≤ ((ji19) : Int) := q_d; have q302 : (ji19) < (l0.length : Int) := q_d; obtain ⟨ad302, e302, hx302_0⟩ := Kd.at_int HR0.out (ji19) p302 q302; obtain rfl : ad298 = ad302 := (by injection e302); replace hx302_0 := q_x HB.out hx302_0; replace p302 := eq_true p302; replace q302 := eq_true q302; have p303 : 0 ≤ ((ji22) : Int) := q_d; have q303 : (ji22) < (l0.length : Int) := q_d; obtain ⟨ad303, e303, hx303_0⟩ := Kd.at_int HR0.out (ji22) p303 q303; obtain rfl : ad298 = ad303 := (by injection e303); replace hx303_0 := q_x HB.out hx303_0; replace p303 := eq_true p303; replace q303 := eq_true q303) | ((with_reducible refine gate_dst (N := 68) rfl ?_); (try (refine gate_guard (by rfl) ?_; dsimp only)); refine Kd.R_lit (Kd.int .u8) _ 5 ?hg (N := 68) ?hd (xs := ([] : List Int)) (inner := []) (ok := fun _ => True) (okp := fun _ => True) ?hr ?hp (fun _ hk => hk) trivial (Below.refl _ _) (Nat.le_refl _) (by simp) ?_; (case hd => rfl); (case hg => rfl); (case hr => first | (go_simp; done) | (go_simp; rfl)); (case hp => exact (Reps.none _ _)); intro v305 w29 ho30 hb hg_ hnew_; clear hg_ hnew_; (first | rw [← Ny304.out] at ho30 | (simp only [Int.reduceToNat] at ho30; rw [← Ny304.out] at ho30)); have n0_ := Aside0.mk (Kd.S_elder' (q_s (HO_4.out)) (Kd.R_base ho30) hb); have n1_ := Aside0.mk (Kd.R_lower ho30 (below_size bq)); have n2_ := Aside0.mk (below_step bq hb); revert n0_ n1_ n2_; clear HO_4 HB; intro HO_4 HO306 HB; clear hb ho30) | ((with_reducible refine gate_builtin (b := .append) (xs := #[.tmp 68, .tmp 69]) rfl ?_); (try (refine gate_guard (by rfl) ?_; dsimp only)); at_builtin; refine Kd.R_append_rows (Kd.int .u8) (w0 := w) w.heap.size rfl (.tmp 68) (.tmp 69) 22 5 (.int .u8 0) 1 rfl Try.underlying22 info5 rfl (by decide) (by omega) v305 y304 ((l0.take ((wrap64 ((ji14) + (wrap64 ((wrap64 ((wrap64 (rd l0 x5_1)) * 256)) + (wrap64 (rd l0 (ji7))))))) : Int).toNat).drop ((ji14) : Int).toNat) _ _ _ (fun _ => True) (fun _ => False) rfl rfl ?aO ?aR (fun _ _ h => h) (fun _ h => h.elim) ?aF ?aB ?aS ?aL ?_; (case aR => first | (have hz_ := (Kd.C_below HR300.out HB.out); rw [show ((l0.take ((wrap64 ((ji14) + (wrap64 ((wrap64 ((wrap64 (rd l0 x5_1)) * 256)) + (wrap64 (rd l0 (ji7))))))) : Int).toNat).drop ((ji14) : Int).toNat).length = ((wrap64 ((ji14) + (wrap64 ((wrap64 ((wrap64 (rd l0 x5_1)) * 256)) + (wrap64 (rd l0 (ji7))))))).toNat - (ji14).toNat) from (by rw [List.length_drop, List.length_take]; have h_ : ((wrap64 ((ji14) + (wrap64 ((wrap64 ((wrap64 (rd l0 x5_1)) * 256)) + (wrap64 (rd l0 (ji7))))))) : Int) ≤ (l0.length : Int) := q_d; omega)] at hz_; exact hz_) | (rw [← show ((l0.take ((wrap64 ((ji14) + (wrap64 ((wrap64 ((wrap64 (rd l0 x5_1)) * 256)) + (wrap64 (rd l0 (ji7))))))) : Int).toNat).drop ((ji14) : Int).toNat).length = ((wrap64 ((ji14) + (wrap64 ((wrap64 ((wrap64 (rd l0 x5_1)) * 256)) + (wrap64 (rd l0 (ji7))))))).toNat - (ji14).toNat) from (by rw [List.length_drop, List.length_take]; have h_ : ((wrap64 ((ji14) + (wrap64 ((wrap64 ((wrap64 (rd l0 x5_1)) * 256)) + (wrap64 (rd l0 (ji7))))))) : Int) ≤ (l0.length : Int) := q_d; omega)]; repeat (first | exact (Kd.C_below HR300.out HB.out) | (with_reducible refine Kd.C_alloc ?_ _) | (with_reducible refine Kd.C_drewN ?_ _) | (with_reducible refine Kd.C_drew ?_))) | (repeat (first | exact (Kd.C_below HR300.out HB.out) | (with_reducible refine Kd.C_alloc ?_ _) | (with_reducible refine Kd.C_drewN ?_ _) | (with_reducible refine Kd.C_drew ?_)))); (case aB => exact bq); (case aF => exact (fun _ _ => trivial)); (case aO => exact (q_r (HO306.out))); (case aS => exact (below_size bq)); (case aL => have := LMc26.out; have hlx_ := (show ((l0.take ((wrap64 ((ji14) + (wrap64 ((wrap64 ((wrap64 (rd l0 x5_1)) * 256)) + (wrap64 (rd l0 (ji7))))))) : Int).toNat).drop ((ji14) : Int).toNat).length = ((wrap64 ((ji14) + (wrap64 ((wrap64 ((wrap64 (rd l0 x5_1)) * 256)) + (wrap64 (rd l0 (ji7))))))).toNat - (ji14).toNat) from (by rw [List.length_drop, List.length_take]; have h_ : ((wrap64 ((ji14) + (wrap64 ((wrap64 ((wrap64 (rd l0 x5_1)) * 256)) + (wrap64 (rd l0 (ji7))))))) : Int) ≤ (l0.length : Int) := q_d; omega)); omega); intro v308 w31 ho hb hg hat; rw [← Ny307.out] at ho; have n0_ := Aside0.mk (Kd.S_after (ok := (fun _ => True)) (q_s (HO_4.out)) hg hat); have n1_ := Aside0.mk (hb); have n2_ := Aside0.mk (ho); revert n0_ n1_ n2_; clear HO_4 HB HO306; intro HO_4 HB HO309; clear ho hb hg hat; obtain ⟨Ao33, co33, eo33⟩ := Kd.R_slice HO309.out; subst eo33) | ((with_reducible refine gate_builtin (b := .append) (xs := #[.tmp 67, .tmp 71]) rfl ?_); (try (refine gate_guard (by rfl) ?_; dsimp only)); at_builtin; refine Kd.S_append (Kd.slice 5 (Kd.int .u8)) (w0 := w) w.heap.size rfl (.tmp 67) (.tmp 71) 40 22 (.slice none 0 0) 24 rfl Try.underlying40 info22 rfl (by decide) (by omega) u4 x4_1 y307 [.slice Ao33 y307.length co33] (fun _ => True) (fun k_ => some k_ = (.slice Ao33 y307.length co33 : Value).ownBlock) rfl rfl ?aP (fun k_ hk_ => ((Kd.R_mono (ok' := fun k_ => ((fun _ => True)) k_ ∧ some k_ ≠ (u4 : Value).ownBlock) (Kd.R_apart' (HO309.out) (Kd.S_typed HO_4.out) (by decide)) (fun k_ hk => ⟨trivial, hk.2⟩))).1 k_ hk_.symm) ?aF ?aO ?aB ?aS ?aL ?_; (case aP => exact Kd.M_row (Kd.R_mono (Kd.R_tight rfl (Kd.R_mono (ok' := fun k_ => ((fun _ => True)) k_ ∧ some k_ ≠ (u4 : Value).ownBlock) (Kd.R_apart' (HO309.out) (Kd.S_typed HO_4.out) (by decide)) (fun k_ hk => ⟨trivial, hk.2⟩))) (fun _ h_ => h_))); (case aB => exact bq); (case aF => exact (fun _ _ => trivial)); (case aO => exact (by (with_reducible repeat (first | apply Kd.S_alloc | apply Kd.S_drewN | apply Kd.S_drew)); exact Kd.S_mono HO_4.out (fun k_ hk => ⟨trivial, fun e_ => hk.2 e_⟩))); (case aS => exact (below_size bq)); (case aL => have := LMc27.out; omega); intro v311 w32 ho hb hg hat; rw [← Ny310.out] at ho; have n0_ := Aside0.mk (hb); have n1_ := Aside0.mk (ho); revert n0_ n1_; clear HB HO_4 HO309; intro HB HO312; clear ho hb hg hat)); (try simp only [i64_w]); try go_wp2_with (first | (go_at_call 78; (refine calls_of_args (args' := #[.slice _ ((l0.take ((wrap64 ((ji14) + (wrap64 ((wrap64 ((wrap64 (rd l0 x5_1)) * 256)) + (wrap64 (rd l0 (ji7))))))) : Int).toNat).drop ((ji14) : Int).toNat).length _]) (by simp only [List.length_drop, List.length_take]; rw [Nat.min_eq_left (by have h_ : ((wrap64 ((ji14) + (wrap64 ((wrap64 ((wrap64 (rd l0 x5_1)) * 256)) + (wrap64 (rd l0 (ji7))))))) : Int) ≤ (l0.length : Int) := q_d; omega)]) ?_); (with_reducible refine (spec_CheckOf.calls kj9 _ _ ((l0.take ((wrap64 ((ji14) + (wrap64 ((wrap64 ((wrap64 (rd l0 x5_1)) * 256)) + (wrap64 (rd l0 (ji7))))))) : Int).toNat).drop ((ji14) : Int).toNat) t301 _ ?side1 ?side2 A18.out).mono ?_); (case side1 => exact q_c ((Kd.C_below HR300.out HB.out))); (case side2 => exact HC300.out); rintro e w' ⟨rfl, ⟨nd, rfl⟩⟩; (try first | exact ⟨rfl, _, World.drewN_drewN _ _ _⟩ | exact ⟨rfl, _, Eq.trans (World.drewN_drewN _ _ _) (congrArg (World.drewN _) (Nat.add_assoc _ _ _))⟩); have p302 : 0 ≤ ((ji19) : Int) := q_d; have q302 : (ji19) < (l0.length : Int) := q_d; obtain ⟨ad302, e302, hx302_0⟩ := Kd.at_int HR0.out (ji19) p302 q302; obtain rfl : ad298 = ad302 := (by injection e302); replace hx302_0 := q_x HB.out hx302_0; replace p302 := eq_true p302; replace q302 := eq_true q302; have p303 : 0 ≤ ((ji22) : Int) := q_d; have q303 : (ji22) < (l0.length : Int) := q_d; obtain ⟨ad303, e303, hx303_0⟩ := Kd.at_int HR0.out (ji22) p303 q303; obtain rfl : ad298 = ad303 := (by injection e303); replace hx303_0 := q_x HB.out hx303_0; replace p303 := eq_true p303; replace q303 := eq_true q303) | ((with_reducible refine gate_dst (N := 68) rfl ?_); (try (refine gate_guard (by rfl) ?_; dsimp only)); refine Kd.R_lit (Kd.int .u8) _ 5 ?hg (N := 68) ?hd (xs := ([] : List Int)) (inner := []) (ok := fun _ => True) (okp := fun _ => True) ?hr ?hp (fun _ hk => hk) trivial (Below.refl _ _) (Nat.le_refl _) (by simp) ?_; (case hd => rfl); (case hg => rfl); (case hr => first | (go_simp; done) | (go_simp; rfl)); (case hp => exact (Reps.none _ _)); intro v305 w29 ho30 hb hg_ hnew_; clear hg_ hnew_; (first | rw [← Ny304.out] at ho30 | (simp only [Int.reduceToNat] at ho30; rw [← Ny304.out] at ho30)); have n0_ := Aside0.mk (Kd.S_elder' (q_s (HO_4.out)) (Kd.R_base ho30) hb); have n1_ := Aside0.mk (Kd.R_lower ho30 (below_size bq)); have n2_ := Aside0.mk (below_step bq hb); revert n0_ n1_ n2_; clear HO_4 HB; intro HO_4 HO306 HB; clear hb ho30) | ((with_reducible refine gate_builtin (b := .append) (xs := #[.tmp 68, .tmp 69]) rfl ?_); (try (refine gate_guard (by rfl) ?_; dsimp only)); at_builtin; refine Kd.R_append_rows (Kd.int .u8) (w0 := w) w.heap.size rfl (.tmp 68) (.tmp 69) 22 5 (.int .u8 0) 1 rfl Try.underlying22 info5 rfl (by decide) (by omega) v305 y304 ((l0.take ((wrap64 ((ji14) + (wrap64 ((wrap64 ((wrap64 (rd l0 x5_1)) * 256)) + (wrap64 (rd l0 (ji7))))))) : Int).toNat).drop ((ji14) : Int).toNat) _ _ _ (fun _ => True) (fun _ => False) rfl rfl ?aO ?aR (fun _ _ h => h) (fun _ h => h.elim) ?aF ?aB ?aS ?aL ?_; (case aR => first | (have hz_ := (Kd.C_below HR300.out HB.out); rw [show ((l0.take ((wrap64 ((ji14) + (wrap64 ((wrap64 ((wrap64 (rd l0 x5_1)) * 256)) + (wrap64 (rd l0 (ji7))))))) : Int).toNat).drop ((ji14) : Int).toNat).length = ((wrap64 ((ji14) + (wrap64 ((wrap64 ((wrap64 (rd l0 x5_1)) * 256)) + (wrap64 (rd l0 (ji7))))))).toNat - (ji14).toNat) from (by rw [List.length_drop, List.length_take]; have h_ : ((wrap64 ((ji14) + (wrap64 ((wrap64 ((wrap64 (rd l0 x5_1)) * 256)) + (wrap64 (rd l0 (ji7))))))) : Int) ≤ (l0.length : Int) := q_d; omega)] at hz_; exact hz_) | (rw [← show ((l0.take ((wrap64 ((ji14) + (wrap64 ((wrap64 ((wrap64 (rd l0 x5_1)) * 256)) + (wrap64 (rd l0 (ji7))))))) : Int).toNat).drop ((ji14) : Int).toNat).length = ((wrap64 ((ji14) + (wrap64 ((wrap64 ((wrap64 (rd l0 x5_1)) * 256)) + (wrap64 (rd l0 (ji7))))))).toNat - (ji14).toNat) from (by rw [List.length_drop, List.length_take]; have h_ : ((wrap64 ((ji14) + (wrap64 ((wrap64 ((wrap64 (rd l0 x5_1)) * 256)) + (wrap64 (rd l0 (ji7))))))) : Int) ≤ (l0.length : Int) := q_d; omega)]; repeat (first | exact (Kd.C_below HR300.out HB.out) | (with_reducible refine Kd.C_alloc ?_ _) | (with_reducible refine Kd.C_drewN ?_ _) | (with_reducible refine Kd.C_drew ?_))) | (repeat (first | exact (Kd.C_below HR300.out HB.out) | (with_reducible refine Kd.C_alloc ?_ _) | (with_reducible refine Kd.C_drewN ?_ _) | (with_reducible refine Kd.C_drew ?_)))); (case aB => exact bq); (case aF => exact (fun _ _ => trivial)); (case aO => exact (q_r (HO306.out))); (case aS => exact (below_size bq)); (case aL => have := LMc26.out; have hlx_ := (show ((l0.take ((wrap64 ((ji14) + (wrap64 ((wrap64 ((wrap64 (rd l0 x5_1)) * 256)) + (wrap64 (rd l0 (ji7))))))) : Int).toNat).drop ((ji14) : Int).toNat).length = ((wrap64 ((ji14) + (wrap64 ((wrap64 ((wrap64 (rd l0 x5_1)) * 256)) + (wrap64 (rd l0 (ji7))))))).toNat - (ji14).toNat) from (by rw [List.length_drop, List.length_take]; have h_ : ((wrap64 ((ji14) + (wrap64 ((wrap64 ((wrap64 (rd l0 x5_1)) * 256)) + (wrap64 (rd l0 (ji7))))))) : Int) ≤ (l0.length : Int) := q_d; omega)); omega); intro v308 w31 ho hb hg hat; rw [← Ny307.out] at ho; have n0_ := Aside0.mk (Kd.S_after (ok := (fun _ => True)) (q_s (HO_4.out)) hg hat); have n1_ := Aside0.mk (hb); have n2_ := Aside0.mk (ho); revert n0_ n1_ n2_; clear HO_4 HB HO306; intro HO_4 HB HO309; clear ho hb hg hat; obtain ⟨Ao33, co33, eo33⟩ := Kd.R_slice HO309.out; subst eo33) | ((with_reducible refine gate_builtin (b := .append) (xs := #[.tmp 67, .tmp 71]) rfl ?_); (try (refine gate_guard (by rfl) ?_; dsimp only)); at_builtin; refine Kd.S_append (Kd.slice 5 (Kd.int .u8)) (w0 := w) w.heap.size rfl (.tmp 67) (.tmp 71) 40 22 (.slice none 0 0) 24 rfl Try.underlying40 info22 rfl (by decide) (by omega) u4 x4_1 y307 [.slice Ao33 y307.length co33] (fun _ => True) (fun k_ => some k_ = (.slice Ao33 y307.length co33 : Value).ownBlock) rfl rfl ?aP (fun k_ hk_ => ((Kd.R_mono (ok' := fun k_ => ((fun _ => True)) k_ ∧ some k_ ≠ (u4 : Value).ownBlock) (Kd.R_apart' (HO309.out) (Kd.S_typed HO_4.out) (by decide)) (fun k_ hk => ⟨trivial, hk.2⟩))).1 k_ hk_.symm) ?aF ?aO ?aB ?aS ?aL ?_; (case aP => exact Kd.M_row (Kd.R_mono (Kd.R_tight rfl (Kd.R_mono (ok' := fun k_ => ((fun _ => True)) k_ ∧ some k_ ≠ (u4 : Value).ownBlock) (Kd.R_apart' (HO309.out) (Kd.S_typed HO_4.out) (by decide)) (fun k_ hk => ⟨trivial, hk.2⟩))) (fun _ h_ => h_))); (case aB => exact bq); (case aF => exact (fun _ _ => trivial)); (case aO => exact (by (with_reducible repeat (first | apply Kd.S_alloc | apply Kd.S_drewN | apply Kd.S_drew)); exact Kd.S_mono HO_4.out (fun k_ hk => ⟨trivial, fun e_ => hk.2 e_⟩))); (case aS => exact (below_size bq)); (case aL => have := LMc27.out; omega); intro v311 w32 ho hb hg hat; rw [← Ny310.out] at ho; have n0_ := Aside0.mk (hb); have n1_ := Aside0.mk (ho); revert n0_ n1_; clear HB HO_4 HO309; intro HB HO312; clear ho hb hg hat)))
                     go_roundg kj9
                     case measure => have := HK1.out; have := HJ9.out; omega
                     case rel => exact ⟨(y310), (wrap64 ((ji14) + (wrap64 ((wrap64 ((wrap64 (rd l0 x5_1)) * 256)) + (wrap64 (rd l0 (ji7))))))), (by first | rfl | (simp; done) | (simp only [← hji7, ← hji14] <;> (first | rfl | simp)) | (simp [*]; done)), H', ⟨by have := HK1.out; have := HJ9.out; omega⟩, ⟨q_s (HO312.out)⟩, ⟨bq⟩⟩
                    ·rw [if_neg c27] at H
                     exact absurd H (by simp)
                   ·rw [if_neg c26] at H
                    exact absurd H (by simp)
                  ·rw [if_neg c25] at H
                   have c25b0 : (t301 == (wrap64 ((wrap64 ((wrap64 (rd l0 (ji19))) * 256)) + (wrap64 (rd l0 (ji22)))))) = false := beq_eq_false_iff_ne.mpr c25
                   have c25b1 : (t301 != (wrap64 ((wrap64 ((wrap64 (rd l0 (ji19))) * 256)) + (wrap64 (rd l0 (ji22)))))) = true := bne_iff_ne.mpr c25
                   simp only [Option.some.injEq, Prod.mk.injEq] at H
                   obtain ⟨rfl, rfl⟩ := H
                   obtain ⟨i034, hi034, _, hsz34, _⟩ := info_parts info5
                   obtain ⟨A34, hcut34, hA34, hC34⟩ := print_mid_of (P := Try.prog) (Value.int .u8) 0 22 5 .i64 .i64 Try.underlying22 hi034 hsz34 (some ad298) c0 l0 (ji14) (wrap64 ((ji14) + (wrap64 ((wrap64 ((wrap64 (rd l0 x5_1)) * 256)) + (wrap64 (rd l0 (ji7))))))) q_d (by first | omega | exact q_d) q_d HC0.out
                   have HR300 := Aside0.mk (Kd.C_of_reads (h1 := fun _ => rfl) (hA34 _ (Kd.reads_of_C HR0.out)))
                   have HC300 := Aside0.mk hC34
                   clear hA34 hC34 hi034 hsz34
                   go_wp2_with (first | (go_at_call 78; (refine calls_of_args (args' := #[.slice _ ((l0.take ((wrap64 ((ji14) + (wrap64 ((wrap64 ((wrap64 (rd l0 x5_1)) * 256)) + (wrap64 (rd l0 (ji7))))))) : Int).toNat).drop ((ji14) : Int).toNat).length _]) (by simp only [List.length_drop, List.length_take]; rw [Nat.min_eq_left (by have h_ : ((wrap64 ((ji14) + (wrap64 ((wrap64 ((wrap64 (rd l0 x5_1)) * 256)) + (wrap64 (rd l0 (ji7))))))) : Int) ≤ (l0.length : Int) := q_d; omega)]) ?_); (with_reducible refine (spec_CheckOf.calls kj9 _ _ ((l0.take ((wrap64 ((ji14) + (wrap64 ((wrap64 ((wrap64 (rd l0 x5_1)) * 256)) + (wrap64 (rd l0 (ji7))))))) : Int).toNat).drop ((ji14) : Int).toNat) t301 _ ?side1 ?side2 A18.out).mono ?_); (case side1 => exact q_c ((Kd.C_below HR300.out HB.out))); (case side2 => exact HC300.out); rintro e w' ⟨rfl, ⟨nd, rfl⟩⟩; (try first | exact ⟨rfl, _, World.drewN_drewN _ _ _⟩ | exact ⟨rfl, _, Eq.trans (World.drewN_drewN _ _ _) (congrArg (World.drewN _) (Nat.add_assoc _ _ _))⟩); have p302 : 0 ≤ ((ji19) : Int) := q_d; have q302 : (ji19) < (l0.length : Int) := q_d; obtain ⟨ad302, e302, hx302_0⟩ := Kd.at_int HR0.out (ji19) p302 q302; obtain rfl : ad298 = ad302 := (by injection e302); replace hx302_0 := q_x HB.out hx302_0; replace p302 := eq_true p302; replace q302 := eq_true q302; have p303 : 0 ≤ ((ji22) : Int) := q_d; have q303 : (ji22) < (l0.length : Int) := q_d; obtain ⟨ad303, e303, hx303_0⟩ := Kd.at_int HR0.out (ji22) p303 q303; obtain rfl : ad298 = ad303 := (by injection e303); replace hx303_0 := q_x HB.out hx303_0; replace p303 := eq_true p303; replace q303 := eq_true q303))
                   repeat (go_quiet (first | (go_at_call 78; (refine calls_of_args (args' := #[.slice _ ((l0.take ((wrap64 ((ji14) + (wrap64 ((wrap64 ((wrap64 (rd l0 x5_1)) * 256)) + (wrap64 (rd l0 (ji7))))))) : Int).toNat).drop ((ji14) : Int).toNat).length _]) (by simp only [List.length_drop, List.length_take]; rw [Nat.min_eq_left (by have h_ : ((wrap64 ((ji14) + (wrap64 ((wrap64 ((wrap64 (rd l0 x5_1)) * 256)) + (wrap64 (rd l0 (ji7))))))) : Int) ≤ (l0.length : Int) := q_d; omega)]) ?_); (with_reducible refine (spec_CheckOf.calls kj9 _ _ ((l0.take ((wrap64 ((ji14) + (wrap64 ((wrap64 ((wrap64 (rd l0 x5_1)) * 256)) + (wrap64 (rd l0 (ji7))))))) : Int).toNat).drop ((ji14) : Int).toNat) t301 _ ?side1 ?side2 A18.out).mono ?_); (case side1 => exact q_c ((Kd.C_below HR300.out HB.out))); (case side2 => exact HC300.out); rintro e w' ⟨rfl, ⟨nd, rfl⟩⟩; (try first | exact ⟨rfl, _, World.drewN_drewN _ _ _⟩ | exact ⟨rfl, _, Eq.trans (World.drewN_drewN _ _ _) (congrArg (World.drewN _) (Nat.add_assoc _ _ _))⟩); have p302 : 0 ≤ ((ji19) : Int) := q_d; have q302 : (ji19) < (l0.length : Int) := q_d; obtain ⟨ad302, e302, hx302_0⟩ := Kd.at_int HR0.out (ji19) p302 q302; obtain rfl : ad298 = ad302 := (by injection e302); replace hx302_0 := q_x HB.out hx302_0; replace p302 := eq_true p302; replace q302 := eq_true q302; have p303 : 0 ≤ ((ji22) : Int) := q_d; have q303 : (ji22) < (l0.length : Int) := q_d; obtain ⟨ad303, e303, hx303_0⟩ := Kd.at_int HR0.out (ji22) p303 q303; obtain rfl : ad298 = ad303 := (by injection e303); replace hx303_0 := q_x HB.out hx303_0; replace p303 := eq_true p303; replace q303 := eq_true q303)); (try simp only [i64_w]); try go_wp2_with (first | (go_at_call 78; (refine calls_of_args (args' := #[.slice _ ((l0.take ((wrap64 ((ji14) + (wrap64 ((wrap64 ((wrap64 (rd l0 x5_1)) * 256)) + (wrap64 (rd l0 (ji7))))))) : Int).toNat).drop ((ji14) : Int).toNat).length _]) (by simp only [List.length_drop, List.length_take]; rw [Nat.min_eq_left (by have h_ : ((wrap64 ((ji14) + (wrap64 ((wrap64 ((wrap64 (rd l0 x5_1)) * 256)) + (wrap64 (rd l0 (ji7))))))) : Int) ≤ (l0.length : Int) := q_d; omega)]) ?_); (with_reducible refine (spec_CheckOf.calls kj9 _ _ ((l0.take ((wrap64 ((ji14) + (wrap64 ((wrap64 ((wrap64 (rd l0 x5_1)) * 256)) + (wrap64 (rd l0 (ji7))))))) : Int).toNat).drop ((ji14) : Int).toNat) t301 _ ?side1 ?side2 A18.out).mono ?_); (case side1 => exact q_c ((Kd.C_below HR300.out HB.out))); (case side2 => exact HC300.out); rintro e w' ⟨rfl, ⟨nd, rfl⟩⟩; (try first | exact ⟨rfl, _, World.drewN_drewN _ _ _⟩ | exact ⟨rfl, _, Eq.trans (World.drewN_drewN _ _ _) (congrArg (World.drewN _) (Nat.add_assoc _ _ _))⟩); have p302 : 0 ≤ ((ji19) : Int) := q_d; have q302 : (ji19) < (l0.length : Int) := q_d; obtain ⟨ad302, e302, hx302_0⟩ := Kd.at_int HR0.out (ji19) p302 q302; obtain rfl : ad298 = ad302 := (by injection e302); replace hx302_0 := q_x HB.out hx302_0; replace p302 := eq_true p302; replace q302 := eq_true q302; have p303 : 0 ≤ ((ji22) : Int) := q_d; have q303 : (ji22) < (l0.length : Int) := q_d; obtain ⟨ad303, e303, hx303_0⟩ := Kd.at_int HR0.out (ji22) p303 q303; obtain rfl : ad298 = ad303 := (by injection e303); replace hx303_0 := q_x HB.out hx303_0; replace p303 := eq_true p303; replace q303 := eq_true q303)))
                   go_ret2
                   exact ⟨_, by first | rfl | (simp [errW_none, errW_some] <;> rfl) | (simp only [← hji7, ← hji14, ← hji19, ← hji22]; first | rfl | (simp [errW_none, errW_some] <;> rfl)) | (simp [*, errW_none, errW_some] <;> rfl), q_s (HO_4.out), bq⟩
                 ·rw [if_neg c24] at H
                  exact absurd H (by simp)
                ·rw [if_neg c23] at H
                 exact absurd H (by simp)
               ·rw [if_neg c21] at H
                exact absurd H (by simp)
              ·rw [if_neg c20] at H
               exact absurd H (by simp)
             ·rw [if_neg c17] at H
              exact absurd H (by simp)
            ·rw [if_neg c16] at H
             exact absurd H (by simp)
           ·rw [if_neg c15] at H
            exact absurd H (by simp)
       ·rw [if_neg c9] at H
        exact absurd H (by simp)
      ·rw [if_neg c8] at H
       exact absurd H (by simp)
     ·rw [if_neg c6] at H
      exact absurd H (by simp)
    ·rw [if_neg c5] at H
     exact absurd H (by simp)
   ·rw [if_neg c4] at H
    have c4b0 := decide_eq_false c4
    clear c4
    simp only [Option.some.injEq, Prod.mk.injEq] at H
    obtain ⟨rfl, rfl⟩ := H
    go_wp2
    repeat (go_quiet (fail); try go_wp2)
    go_ret2
    exact ⟨_, q_e, q_s (HO_4.out), bq⟩

/-! ### spec_UnframeAll: function 37 -/
def spec_UnframeAll.f (k : Nat) (l0 : List Int) : Option (Int × Int × (List (List Int))) := if (l0.length : Int) > 6000 then (some (2, 0, ([] : List (List Int)))) else ((spec_l3Records.f k l0).bind fun bt314 => (some (0, bt314.2, bt314.1)))
set_option maxHeartbeats 8000000 in
set_option maxRecDepth 100000 in
theorem spec_UnframeAll.calls (k : Nat) (A0 : Option Addr) (c0 : Nat) (l0 : List Int) (r1 : Int) (r2 : Int) (r3 : List (List Int)) (w : World) (hr0 : Kd.C (Kd.int .u8) w A0 l0.length l0) (hc0 : l0.length ≤ c0) (h : spec_UnframeAll.f k l0 = some (r1, r2, r3)) :
  Calls Try.prog 37 #[.slice A0 l0.length c0] w fun e w' => ∃ v2_ : Value, e = .returned (.agg #[.int .i64 r1, .int .i64 r2, v2_]) ∧ Kd.S (Kd.slice 5 (Kd.int .u8)) 22 w' w.heap.size (fun _ => True) v2_ r3 ∧ Below w.heap.size w w' := by
 have hu43 := Try.underlying43
 have HR0 := Aside0.mk hr0
 have HC0 := Aside0.mk hc0
 clear hr0 hc0
 have HB := Aside0.mk (Below.refl w.heap.size w)
 have H : (if (l0.length : Int) > 6000 then (some (2, 0, ([] : List (List Int)))) else ((spec_l3Records.f k l0).bind fun bt314 => (some (0, bt314.2, bt314.1)))) = some (r1, r2, r3) := h
 clear h
 by_cases c2 : (l0.length : Int) > 6000
 ·rw [if_pos c2] at H
  have c2b0 := decide_eq_true c2
  have c2b1 : decide (6000 < l0.length) = true := decide_eq_true (by omega)
  clear c2
  simp only [Option.some.injEq, Prod.mk.injEq] at H
  obtain ⟨rfl, rfl, rfl⟩ := H
  go_enter Try.func37, Try.ntmps37
  go_wp2_with (first | ((with_reducible refine gate_dst (N := 2) rfl ?_); refine q_box (N := 2) (cs := #[.int .i64 0, .int .i64 0, .slice none 0 0]) (t := 43) ?_; intro gb313 hg w3 hbox hb; have n0_ := Aside0.mk (below_step bq hb); have n1_ := Aside0.mk (hbox); have n2_ := Aside0.mk ((q_g hg bq : w.heap.size ≤ gb313)); have n3_ := Aside0.mk ((q_g hg bq : w.heap.size ≤ gb313)); revert n0_ n1_ n2_ n3_; clear HB; intro HB BK313 GW313 GE313; clear hb hbox hg; obtain ⟨hcz4_0, hcz4_1, hcz4_2, hfz4_0, hfz4_1, hfz4_2⟩ := q_3 BK313.out))
  refine bodyPost_ret (results_cell_row rfl _ _ gb313 43 #[.int .i64 2, .int .i64 0, .slice none 0 0] (0, 0) _ rfl (by (with_reducible repeat (first | refine blk_drewN ?_ _ | refine blk_drew ?_ | refine blk_alloc ?_ _)); refine blk_put (cs := #[.int .i64 2, .int .i64 0, .slice none 0 0]) ?_ 2 _ rfl; (with_reducible repeat (first | refine blk_drewN ?_ _ | refine blk_drew ?_ | refine blk_alloc ?_ _)); refine blk_put (cs := #[.int .i64 2, .int .i64 0, .slice none 0 0]) ?_ 1 _ rfl; (with_reducible repeat (first | refine blk_drewN ?_ _ | refine blk_drew ?_ | refine blk_alloc ?_ _)); refine blk_put (cs := #[.int .i64 0, .int .i64 0, .slice none 0 0]) ?_ 0 _ rfl; (with_reducible repeat (first | refine blk_drewN ?_ _ | refine blk_drew ?_ | refine blk_alloc ?_ _)); exact BK313.out) Try.underlying43 rfl (by kernel_rfl)) rfl ?_
  exact ⟨_, q_e, by first | exact Kd.S_nil _ _ _ _ _ | exact Kd.N_nil _ _ _ _ _ | exact Kd.V_nil _ _ _ _ _ | exact Kd.Q_nil _ _ _ _ _ | exact Kd.R_nil _ _ _ _ _, bq⟩
 ·rw [if_neg c2] at H
  have c2b0 := decide_eq_false c2
  have c2b1 : decide (6000 < l0.length) = false := decide_eq_false (by omega)
  clear c2
  replace H := Option.bind_eq_some_iff.mp H
  obtain ⟨⟨t314, t315⟩, A50, H⟩ := H
  replace H : (some (0, t315, t314)) = some (r1, r2, r3) := H
  have A5 := Aside0.mk A50
  clear A50
  simp only [Option.some.injEq, Prod.mk.injEq] at H
  obtain ⟨rfl, rfl, rfl⟩ := H
  go_enter Try.func37, Try.ntmps37
  go_wp2_with (first | ((with_reducible refine gate_dst (N := 2) rfl ?_); refine q_box (N := 2) (cs := #[.int .i64 0, .int .i64 0, .slice none 0 0]) (t := 43) ?_; intro gb313 hg w6 hbox hb; have n0_ := Aside0.mk (below_step bq hb); have n1_ := Aside0.mk (hbox); have n2_ := Aside0.mk ((q_g hg bq : w.heap.size ≤ gb313)); have n3_ := Aside0.mk ((q_g hg bq : w.heap.size ≤ gb313)); revert n0_ n1_ n2_ n3_; clear HB; intro HB BK313 GW313 GE313; clear hb hbox hg) | ((with_reducible refine gate_callee (f := 64) rfl ?_); refine goesLq (some 11) rfl rfl Try.func64 (by kernel_rfl) rfl #[.slice A0 l0.length c0] rfl ?_; (with_reducible refine (spec_l3Records.calls k _ _ l0 t314 t315 _ ?side1 ?side2 A5.out).mono ?_); (case side1 => exact q_c ((Kd.C_below HR0.out HB.out))); (case side2 => exact HC0.out); rintro e w7 ⟨v316, rfl, ho0, hb⟩; refine ⟨_, rfl, ?_⟩; have n0_ := Aside0.mk (Kd.S_lower ho0 (below_size bq)); have n1_ := Aside0.mk (blk_below (q_b BK313.out) hb); have n2_ := Aside0.mk (below_step bq hb); revert n0_ n1_ n2_; clear BK313 HB; intro HO317 BK313 HB; (try clear hb); (try clear hb2); (try clear hk); (try clear hi); (try clear ho0); obtain ⟨Ao8, co8, eo8⟩ := Kd.S_slice HO317.out; subst eo8; obtain ⟨hcz9_0, hcz9_1, hcz9_2, hfz9_0, hfz9_1, hfz9_2⟩ := q_3 BK313.out))
  refine bodyPost_ret (results_cell_row rfl _ _ gb313 43 #[.int .i64 0, .int .i64 t315, .slice Ao8 t314.length co8] (0, 0) _ rfl (by (with_reducible repeat (first | refine blk_drewN ?_ _ | refine blk_drew ?_ | refine blk_alloc ?_ _)); refine blk_put (cs := #[.int .i64 0, .int .i64 t315, .slice none 0 0]) ?_ 2 _ rfl; (with_reducible repeat (first | refine blk_drewN ?_ _ | refine blk_drew ?_ | refine blk_alloc ?_ _)); refine blk_put (cs := #[.int .i64 0, .int .i64 0, .slice none 0 0]) ?_ 1 _ rfl; (with_reducible repeat (first | refine blk_drewN ?_ _ | refine blk_drew ?_ | refine blk_alloc ?_ _)); refine blk_put (cs := #[.int .i64 0, .int .i64 0, .slice none 0 0]) ?_ 0 _ rfl; (with_reducible repeat (first | refine blk_drewN ?_ _ | refine blk_drew ?_ | refine blk_alloc ?_ _)); exact BK313.out) Try.underlying43 rfl (by kernel_rfl)) rfl ?_
  exact ⟨_, q_e, by (with_reducible repeat (first | apply Kd.S_alloc | apply Kd.S_drewN | apply Kd.S_drew)); exact Kd.S_mono (Kd.S_far (p := ⟨gb313, 2, none⟩) (Kd.S_far (p := ⟨gb313, 1, none⟩) (Kd.S_far (p := ⟨gb313, 0, none⟩) (Kd.S_types HO317.out BK313.out (by decide)) (fun _ hk => hk.2) (.int .i64 0)) (fun _ hk => hk.2) (.int .i64 t315)) (fun _ hk => hk.2) (.slice Ao8 t314.length co8)) (fun _ hk => trivial), bq⟩

end Go.Proofs.Ytcdpiejcdeedoaa.PFnAppends
