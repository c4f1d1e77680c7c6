/- The functions that a law reaches, each as a plain Lean function with the proof that the machine comes to its answer: written by program (the kit's print, turned by wip/gen). No conditions. -/
import Derived.Test.YtcdpiejcdeedoaaPFnExactUnframeAllx0
import Derived.Test.YtcdpiejcdeedoaaPFnExactUnframeAllx1
import Derived.Test.YtcdpiejcdeedoaaPFnExactUnframeAllx2
namespace Go.Proofs.Ytcdpiejcdeedoaa.PFnExactUnframeAll
open Go.RowKit Go.Proofs.YtcdpiejcdeedoaaW.PrintWords Go.Proofs.YtcdpiejcdeedoaaW.PrintLast Go.Proofs.YtcdpiejcdeedoaaW.PrintMore
attribute [local go_sem] max2_int min2_int max_two min_two max_three min_three max_four min_four   -- for this text's walks alone
set_option linter.unusedVariables false
set_option linter.unusedSimpArgs false

/-! ### impl_UnframeAll: function 30 -/
def impl_UnframeAll.l0 : Nat → List Int → Int → Int → List (List Int) → Option (Int × Int × (List (List Int)))
  | 0, _, _, _, _ => none
  | k + 1, x0, x139000, x139001, x139002 => if 0 ≤ x139001 then (if x139001 ≤ (x0.length : Int) then ((impl_unframe.f k (x0.drop (x139001 : Int).toNat)).bind fun bt140 => (if bt140.2 = true then ((bytes_Clone.f bt140.1).bind fun t144 => (if x139002.length < 5864062014805 then ((impl_size_byte.f bt140.1).bind fun t150 => (impl_UnframeAll.l0 k x0 x139000 (wrap64 (x139001 + (wrap64 (4 + t150)))) (x139002 ++ [t144]))) else (none))) else (some (x139000, x139001, x139002)))) else (none)) else (none)
def impl_UnframeAll.f (k : Nat) (l0 : List Int) : Option (Int × Int × (List (List Int))) := if (l0.length : Int) > 6000 then (some (2, 0, ([] : List (List Int)))) else (impl_UnframeAll.l0 k l0 0 0 ([] : List (List Int)))
def impl_UnframeAll.T7 : Bool × List (List Nat × List Nat) := (true, [([], []), ([0], [0]), ([], []), ([2], [2]), ([3], [3]), ([1, 4, 3], [1, 4]), ([0, 1, 2, 3, 4, 5], []), ([6, 5, 5, 0, 1, 2, 3, 4, 5], [5, 6])])
def impl_UnframeAll.B7 : List Nat := [0, 1, 0, 4, 12, 31, 63, 127]
theorem impl_UnframeAll.tab7 : rtab .any (opsOf Try.f30 7) = impl_UnframeAll.T7 := by kernel_rfl
theorem impl_UnframeAll.bits7 : waitsOk impl_UnframeAll.T7.2 impl_UnframeAll.B7 = true := by kernel_rfl
def impl_UnframeAll.T8 : Bool × List (List Nat × List Nat) := (true, [([], []), ([0], [0]), ([], []), ([2], [2]), ([3], [3]), ([1, 4], [1, 4]), ([0, 1, 2, 3, 4, 5], []), ([6, 5, 3, 0, 1, 2, 3, 4, 5], [5, 6])])
def impl_UnframeAll.B8 : List Nat := [0, 1, 0, 4, 12, 31, 63, 127]
theorem impl_UnframeAll.tab8 : rtab .any (opsOf Try.f30 8) = impl_UnframeAll.T8 := by kernel_rfl
theorem impl_UnframeAll.bits8 : waitsOk impl_UnframeAll.T8.2 impl_UnframeAll.B8 = true := by kernel_rfl
set_option maxHeartbeats 8000000 in
set_option maxRecDepth 100000 in
theorem impl_UnframeAll.calls (k : Nat) (A0 : Option Addr) (c0 : Nat) (l0 : List Int) (r1 : Int) (r2 : Int) (r3 : List (List Int)) (w : World) (hr0 : Kd.C (Kd.int .u8) w A0 l0.length l0) (hc0 : l0.length ≤ c0) (h : impl_UnframeAll.f k l0 = some (r1, r2, r3)) :
  Calls Try.prog 30 #[.slice A0 l0.length c0] w fun e w' => ∃ v2_ : Value, e = .returned (.agg #[.int .i64 r1, .int .i64 r2, v2_]) ∧ Kd.S (Kd.slice 5 (Kd.int .u8)) 22 w' w.heap.size (fun _ => True) v2_ r3 ∧ Below w.heap.size w w' := by
 have hu43 := Try.underlying43
 have HR0 := Aside0.mk hr0
 have HC0 := Aside0.mk hc0
 clear hr0 hc0
 have HB := Aside0.mk (Below.refl w.heap.size w)
 have H : (if (l0.length : Int) > 6000 then (some (2, 0, ([] : List (List Int)))) else (impl_UnframeAll.l0 k l0 0 0 ([] : List (List Int)))) = some (r1, r2, r3) := h
 clear h
 by_cases c2 : (l0.length : Int) > 6000
 ·rw [if_pos c2] at H
  have c2b0 := decide_eq_true c2
  have c2b1 : decide (6000 < l0.length) = true := decide_eq_true (by omega)
  clear c2
  simp only [Option.some.injEq, Prod.mk.injEq] at H
  obtain ⟨rfl, rfl, rfl⟩ := H
  go_enter Try.func30, Try.ntmps30
  go_wp2_with (first | ((with_reducible refine gate_dst (N := 2) rfl ?_); refine q_box (N := 2) (cs := #[.int .i64 0, .int .i64 0, .slice none 0 0]) (t := 43) ?_; intro gb137 hg w3 hbox hb; have n0_ := Aside0.mk (below_step bq hb); have n1_ := Aside0.mk (hbox); have n2_ := Aside0.mk ((q_g hg bq : w.heap.size ≤ gb137)); have n3_ := Aside0.mk ((q_g hg bq : w.heap.size ≤ gb137)); revert n0_ n1_ n2_ n3_; clear HB; intro HB BK137 GW137 GE137; clear hb hbox hg; obtain ⟨hcz4_0, hcz4_1, hcz4_2, hfz4_0, hfz4_1, hfz4_2⟩ := q_3 BK137.out))
  refine bodyPost_ret (results_cell_row rfl _ _ gb137 43 #[.int .i64 2, .int .i64 0, .slice none 0 0] (0, 0) _ rfl (by (with_reducible repeat (first | refine blk_drewN ?_ _ | refine blk_drew ?_ | refine blk_alloc ?_ _)); refine blk_put (cs := #[.int .i64 2, .int .i64 0, .slice none 0 0]) ?_ 2 _ rfl; (with_reducible repeat (first | refine blk_drewN ?_ _ | refine blk_drew ?_ | refine blk_alloc ?_ _)); refine blk_put (cs := #[.int .i64 2, .int .i64 0, .slice none 0 0]) ?_ 1 _ rfl; (with_reducible repeat (first | refine blk_drewN ?_ _ | refine blk_drew ?_ | refine blk_alloc ?_ _)); refine blk_put (cs := #[.int .i64 0, .int .i64 0, .slice none 0 0]) ?_ 0 _ rfl; (with_reducible repeat (first | refine blk_drewN ?_ _ | refine blk_drew ?_ | refine blk_alloc ?_ _)); exact BK137.out) Try.underlying43 rfl (by kernel_rfl)) rfl ?_
  exact ⟨_, q_e, by first | exact Kd.S_nil _ _ _ _ _ | exact Kd.N_nil _ _ _ _ _ | exact Kd.V_nil _ _ _ _ _ | exact Kd.Q_nil _ _ _ _ _ | exact Kd.R_nil _ _ _ _ _, bq⟩
 ·rw [if_neg c2] at H
  have c2b0 := decide_eq_false c2
  have c2b1 : decide (6000 < l0.length) = false := decide_eq_false (by omega)
  clear c2
  have H' := Aside0.mk H
  clear H
  go_enter Try.func30, Try.ntmps30
  go_wp2_with (first | ((with_reducible refine gate_dst (N := 2) rfl ?_); refine q_box (N := 2) (cs := #[.int .i64 0, .int .i64 0, .slice none 0 0]) (t := 43) ?_; intro gb137 hg w5 hbox hb; have n0_ := Aside0.mk (below_step bq hb); have n1_ := Aside0.mk (hbox); have n2_ := Aside0.mk ((q_g hg bq : w.heap.size ≤ gb137)); have n3_ := Aside0.mk ((q_g hg bq : w.heap.size ≤ gb137)); revert n0_ n1_ n2_ n3_; clear HB; intro HB BK137 GW137 GE137; clear hb hbox hg) | ((with_reducible refine gate_dst (N := 3) rfl ?_); refine q_box (N := 3) (cs := #[.int .i64 0, .int .i64 0, .slice none 0 0]) (t := 43) ?_; intro gb138 hg w6 hbox hb; have n0_ := Aside0.mk (blk_below (q_b BK137.out) hb); have n1_ := Aside0.mk (below_step bq hb); have n2_ := Aside0.mk (hbox); have n3_ := Aside0.mk ((q_g hg bq : w.heap.size ≤ gb138)); have n4_ := Aside0.mk ((q_g hg bq : w.heap.size ≤ gb138)); have n5_ := Aside0.mk ((q_n hg (q_b BK137.out) : gb137 ≠ gb138)); have n6_ := Aside0.mk ((q_m hg (q_b BK137.out) : gb138 ≠ gb137)); revert n0_ n1_ n2_ n3_ n4_ n5_ n6_; clear BK137 HB; intro BK137 HB BK138 GW138 GE138 NB137_138 NB138_137; clear hb hbox hg; have hnb7 := NB138_137.out; have hnc7 := NB137_138.out; obtain ⟨hcz8_0, hcz8_1, hcz8_2, hfz8_0, hfz8_1, hfz8_2⟩ := q_3 BK138.out))
  go_loopg [] k (fun kq w' => ∃ (x138000_1 : Int) (x138001_1 : Int) (x139001_1 : Int) (x139002_1 : List (List Int)) (u139002 : Value), Aside0 (impl_UnframeAll.l0 kq l0 0 x139001_1 x139002_1 = some (r1, r2, r3)) ∧ Aside0 (kq ≤ k) ∧ Aside0 (Kd.S (Kd.slice 5 (Kd.int .u8)) 22 w' w.heap.size (fun _ => True) u139002 x139002_1) ∧ Aside0 (w'.heap[gb137]? = some (.cells #[.int .i64 x138000_1, .int .i64 x138001_1, (.slice none 0 0)] 43 (0, 0))) ∧ Aside0 (w'.heap[gb138]? = some (.cells #[.int .i64 0, .int .i64 x139001_1, u139002] 43 (0, 0))) ∧ Aside0 (Below w.heap.size w w'))
  case atStart => exact ⟨(0), (0), (0), (([] : List (List Int))), (.slice none 0 0), H', ⟨Nat.le_refl _⟩, ⟨by first | exact Kd.S_nil _ _ _ _ _ | exact Kd.N_nil _ _ _ _ _ | exact Kd.V_nil _ _ _ _ _ | exact Kd.Q_nil _ _ _ _ _ | exact Kd.R_nil _ _ _ _ _⟩, ⟨by (with_reducible repeat (first | refine blk_drewN ?_ _ | refine blk_drew ?_ | refine blk_alloc ?_ _)); refine blk_far ?_ NB137_138.out _; (with_reducible repeat (first | refine blk_drewN ?_ _ | refine blk_drew ?_ | refine blk_alloc ?_ _)); refine blk_far ?_ NB137_138.out _; (with_reducible repeat (first | refine blk_drewN ?_ _ | refine blk_drew ?_ | refine blk_alloc ?_ _)); refine blk_far ?_ NB137_138.out _; (with_reducible repeat (first | refine blk_drewN ?_ _ | refine blk_drew ?_ | refine blk_alloc ?_ _)); exact BK137.out⟩, ⟨by (with_reducible repeat (first | refine blk_drewN ?_ _ | refine blk_drew ?_ | refine blk_alloc ?_ _)); refine blk_put (cs := #[.int .i64 0, .int .i64 0, .slice none 0 0]) ?_ 2 _ rfl; (with_reducible repeat (first | refine blk_drewN ?_ _ | refine blk_drew ?_ | refine blk_alloc ?_ _)); refine blk_put (cs := #[.int .i64 0, .int .i64 0, .slice none 0 0]) ?_ 1 _ rfl; (with_reducible repeat (first | refine blk_drewN ?_ _ | refine blk_drew ?_ | refine blk_alloc ?_ _)); refine blk_put (cs := #[.int .i64 0, .int .i64 0, .slice none 0 0]) ?_ 0 _ rfl; (with_reducible repeat (first | refine blk_drewN ?_ _ | refine blk_drew ?_ | refine blk_alloc ?_ _)); exact BK138.out⟩, ⟨bq⟩⟩
  case round =>
   clear H'
   (try clear c2); (try clear c2b0); (try clear c2b1); (try clear p2); (try clear c3); (try clear c7); (try clear hcz4_0); (try clear hcz4_1); (try clear hcz4_2); (try clear hcz8_0); (try clear hcz8_1)
   (try clear hcz8_2); (try clear hfz4_0); (try clear hfz4_1); (try clear hfz4_2); (try clear hfz8_0); (try clear hfz8_1); (try clear hfz8_2)
   obtain ⟨x138000_1, x138001_1, x139001_1, x139002_1, u139002, HA, HK1, HO_139002, BK137, BK138, HB⟩ := hrel
   cases gk with
   | zero => exact absurd HA.out (by simp [impl_UnframeAll.l0])
   | succ k1 =>
    have H := HA.out
    clear HA
    simp only [impl_UnframeAll.l0] at H
    by_cases c9 : 0 ≤ x139001_1
    ·rw [if_pos c9] at H
     have c9b0 := eq_true c9
     have c9b1 := decide_eq_true c9
     clear c9
     by_cases c10 : x139001_1 ≤ (l0.length : Int)
     ·rw [if_pos c10] at H
      have c10b0 := eq_true c10
      have c10b1 := decide_eq_true c10
      clear c10
      replace H := Option.bind_eq_some_iff.mp H
      obtain ⟨⟨t140, t143⟩, A110, H⟩ := H
      replace H : (if t143 = true then ((bytes_Clone.f t140).bind fun t144 => (if x139002_1.length < 5864062014805 then ((impl_size_byte.f t140).bind fun t150 => (impl_UnframeAll.l0 k1 l0 0 (wrap64 (x139001_1 + (wrap64 (4 + t150)))) (x139002_1 ++ [t144]))) else (none))) else (some (0, x139001_1, x139002_1))) = some (r1, r2, r3) := H
      have A11 := Aside0.mk A110
      clear A110
      by_cases c12 : t143 = true
      ·subst c12
       have H1 : ((bytes_Clone.f t140).bind fun t144 => (if x139002_1.length < 5864062014805 then ((impl_size_byte.f t140).bind fun t150 => (impl_UnframeAll.l0 k1 l0 0 (wrap64 (x139001_1 + (wrap64 (4 + t150)))) (x139002_1 ++ [t144]))) else (none))) = some (r1, r2, r3) := by rw [if_pos rfl] at H; exact H
       clear H
       have H := H1
       clear H1
       replace H := Option.bind_eq_some_iff.mp H
       obtain ⟨t144, A130, H⟩ := H
       replace H : (if x139002_1.length < 5864062014805 then ((impl_size_byte.f t140).bind fun t150 => (impl_UnframeAll.l0 k1 l0 0 (wrap64 (x139001_1 + (wrap64 (4 + t150)))) (x139002_1 ++ [t144]))) else (none)) = some (r1, r2, r3) := H
       have A13 := Aside0.mk A130
       clear A130
       by_cases c14 : x139002_1.length < 5864062014805
       ·rw [if_pos c14] at H
        have LMc14 := Aside0.mk c14
        clear c14
        obtain ⟨y147, hy147⟩ : ∃ y_ : List (List Int), y_ = (x139002_1 ++ [t144]) := ⟨_, rfl⟩
        replace H : ((impl_size_byte.f t140).bind fun t150 => (impl_UnframeAll.l0 k1 l0 0 (wrap64 (x139001_1 + (wrap64 (4 + t150)))) y147)) = some (r1, r2, r3) := q_h hy147 H
        have Ny147 := Aside0.mk hy147
        clear hy147
        replace H := Option.bind_eq_some_iff.mp H
        obtain ⟨t150, A150, H⟩ := H
        replace H : (impl_UnframeAll.l0 k1 l0 0 (wrap64 (x139001_1 + (wrap64 (4 + t150)))) y147) = some (r1, r2, r3) := H
        have A15 := Aside0.mk A150
        clear A150
        have H' := Aside0.mk H
        clear H
        have hnb16 := NB138_137.out
        have hnc16 := NB137_138.out
        obtain ⟨hcz17_0, hcz17_1, hcz17_2, hfz17_0, hfz17_1, hfz17_2⟩ := q_3 BK138.out
        obtain ⟨i018, hi018, _, hsz18, _⟩ := info_parts info5
        obtain ⟨A18, hcut18, hA18, hC18⟩ := print_drop_of (P := Try.prog) (Value.int .u8) 0 22 5 .i64 Try.underlying22 hi018 hsz18 A0 c0 l0 x139001_1 q_d q_d HC0.out
        have HR139 := Aside0.mk (Kd.C_of_reads (h1 := fun _ => rfl) (hA18 _ (Kd.reads_of_C HR0.out)))
        have HC139 := Aside0.mk hC18
        clear hA18 hC18 hi018 hsz18
        try go_wp2_with (first | ((with_reducible refine gate_callee (f := 59) rfl ?_); refine goesL_ (some 16) rfl rfl Try.func59 (by kernel_rfl) rfl #[.slice A18 (l0.drop (x139001_1 : Int).toNat).length (c0 - x139001_1.toNat)] rfl (by (try simp only [List.map_toArray, List.map_cons, List.map_nil]); first | done | (rw [show (l0.drop (x139001_1 : Int).toNat).length = (l0.length - x139001_1.toNat) from List.length_drop] <;> rfl) | rfl | (simp only [List.length_drop, List.length_take]; rfl)) ?_; (with_reducible refine (impl_unframe.calls k1 (fun k_ => k_ < w.heap.size) _ _ (l0.drop (x139001_1 : Int).toNat) t140 true _ ?side1 A11.out).mono ?_); (case side1 => exact Kd.V_mk HC139.out (Kd.F_below (Kd.C_F (Kd.heap_int .u8) HR139.out) bq)); rintro e w19 ⟨v141, rfl, ho0, hb⟩; refine ⟨_, rfl, ?_⟩; have n0_ := Aside0.mk (Kd.S_below (q_s (HO_139002.out)) hb); have n1_ := Aside0.mk (Kd.V_lower (Kd.V_mono (ok' := fun k_ => some k_ ≠ (u139002 : Value).ownBlock ∧ k_ ≠ gb137 ∧ k_ ≠ gb138) ho0 (fun k_ hk_ => ⟨Or.elim hk_ (fun hs_ => fun e_ => Nat.not_le.2 hs_ (Kd.S_base HO_139002.out k_ e_.symm)) (fun hn_ => (Kd.fresh' (Kd.S_lt (q_s (HO_139002.out))) k_ hn_)), Or.elim hk_ (fun hs_ => fun e_ => Nat.not_le.2 hs_ (by rw [e_]; exact GW137.out)) (fun hn_ => (Kd.freshB (q_b BK137.out) k_ hn_)), Or.elim hk_ (fun hs_ => fun e_ => Nat.not_le.2 hs_ (by rw [e_]; exact GW138.out)) (fun hn_ => (Kd.freshB (q_b BK138.out) k_ hn_))⟩)) (below_size bq)); have n2_ := Aside0.mk (blk_below (q_b BK137.out) hb); have n3_ := Aside0.mk (blk_below (q_b BK138.out) hb); have n4_ := Aside0.mk (below_step bq hb); revert n0_ n1_ n2_ n3_ n4_; clear HO_139002 BK137 BK138 HB; intro HO_139002 HO142 BK137 BK138 HB; (try clear hb); (try clear hb2); (try clear hk); (try clear hi); (try clear ho0)))
        have n0_ := Aside0.mk (Kd.S_drew HO_139002.out)
        have n1_ := Aside0.mk (Kd.V_drew HO142.out)
        have n2_ := Aside0.mk (blk_drew BK137.out)
        have n3_ := Aside0.mk (blk_drew BK138.out)
        have n4_ := Aside0.mk (below_drew1 HB.out)
        clear HO_139002
        clear HO142
        clear BK137
        clear BK138
        clear HB
        have HO_139002 := n0_
        have HO142 := n1_
        have BK137 := n2_
        have BK138 := n3_
        have HB := n4_
        clear n0_ n1_ n2_ n3_ n4_
        obtain ⟨Ao21, co21, eo21⟩ := Kd.V_slice HO142.out
        (first | subst eo21 | (injection eo21 with f1_ f2_ f3_; have f4_ := f1_.symm; have f5_ := f3_.symm; clear f1_ f2_ f3_; subst f4_; subst f5_))
        refine start_ (n := 8) (S := fun w' => w'.cell? ⟨gb138, 0, none⟩ = some (.int .i64 0) ∧ w'.cell? ⟨gb138, 1, none⟩ = some (.int .i64 x139001_1) ∧ w'.cell? ⟨gb138, 2, none⟩ = some (u139002)) (ds := [7]) #[false, false, false, false, false, false, false, false] (by kernel_rfl) rfl rfl ⟨(blk_cell BK138.out 0).trans rfl, (blk_cell BK138.out 1).trans rfl, (blk_cell BK138.out 2).trans rfl⟩ (fun hHeld => ?_); refine with_tabW impl_UnframeAll.tab7 impl_UnframeAll.bits7 (fun HT_ HW_ => ?_)
        generalize w19.drew = w20 at HO_139002 HO142 BK137 BK138 HB hHeld ⊢
        refine q_p 0 (some 22) #[true, false, false, false, false, false, false, false] HT_.out ?_
        refine q_p 2 (some 24) #[true, false, true, false, false, false, false, false] HT_.out ?_
        refine q_t 1 (some 23) #[true, true, true, false, false, false, false, false] HT_.out HW_.out hHeld ?_
        refine one_ (i := 3) (N := some 25) #[true, true, true, true, false, false, false, false] rfl rfl (one_of HT_.out (by kernel_rfl)) (by decide) (fun K hK => ?_)
        refine goes_ Try.func60 (by kernel_rfl) rfl #[.slice Ao21 t140.length co21] (by rfl) rfl rfl (by (try simp only [List.map_toArray, List.map_cons, List.map_nil]); first | done | rfl | (simp only [List.length_drop, List.length_take]; rfl)) ?_
        with_reducible refine (bytes_Clone.calls _ _ t140 t144 _ ?side1 ?side2 A13.out).mono ?_
        (case side1 => exact q_c ((Kd.V_reads' HO142.out).2.2))
        (case side2 => exact (Kd.V_reads' HO142.out).2.1)
        rintro e w22 ⟨v145, rfl, ho0, hb⟩
        refine ⟨_, rfl, ?_⟩
        have n0_ := Aside0.mk (Kd.S_elder' (q_s (HO_139002.out)) (Kd.R_base ho0) hb)
        have n1_ := Aside0.mk (Kd.V_elder' (q_v (HO142.out)) (Kd.R_base ho0) hb)
        have n2_ := Aside0.mk (Kd.R_lower ho0 (below_size bq))
        have n3_ := Aside0.mk (blk_below (q_b BK137.out) hb)
        have n4_ := Aside0.mk (blk_below (q_b BK138.out) hb)
        have n5_ := Aside0.mk (below_step bq hb)
        clear HO_139002
        clear HO142
        clear BK137
        clear BK138
        clear HB
        have HO_139002 := n0_
        have HO142 := n1_
        have HO146 := n2_
        have BK137 := n3_
        have BK138 := n4_
        have HB := n5_
        clear n0_ n1_ n2_ n3_ n4_ n5_
        (try clear hb)
        (try clear hb2)
        (try clear hk)
        (try clear hi)
        (try clear ho0)
        obtain ⟨Ao24, co24, eo24⟩ := Kd.R_slice HO146.out
        (first | subst eo24 | (injection eo24 with f1_ f2_ f3_; have f4_ := f1_.symm; have f5_ := f3_.symm; clear f1_ f2_ f3_; subst f4_; subst f5_))
        refine hK.out _ _ ⟨(blk_cell BK138.out 0).trans rfl, (blk_cell BK138.out 1).trans rfl, (blk_cell BK138.out 2).trans rfl⟩ (fun hHeld => ?_)
        clear hK K
        refine norm_ (a' := ?_) ?_ ?_
        rotate_left
        ·show Act.put _ (some 25) _ = _
         simp only [Act.put, List.setIfInBounds_toArray, List.set_cons_zero, List.set_cons_succ, i64_w, i32_w]
         rfl
        refine one_ (i := 4) (N := some 26) #[true, true, true, true, true, false, false, false] rfl rfl (one_of HT_.out (by kernel_rfl)) (by decide) (fun K hK => ?_)
        refine value_ (w1 := ?_) (v := ?_) (by rfl) rfl ?_ ?_
        rotate_left 2
        ·go_simp
         constructor
         ·rfl
         ·rfl
        refine hK.out _ _ ⟨(blk_cell (blk_alloc BK138.out _) 0).trans rfl, (blk_cell (blk_alloc BK138.out _) 1).trans rfl, (blk_cell (blk_alloc BK138.out _) 2).trans rfl⟩ (fun hHeld => ?_)
        clear hK K
        refine norm_ (a' := ?_) ?_ ?_
        rotate_left
        ·show Act.put _ (some 26) _ = _
         simp only [Act.put, List.setIfInBounds_toArray, List.set_cons_zero, List.set_cons_succ, i64_w, i32_w]
         rfl
        refine one_ (i := 5) (N := some 27) #[true, true, true, true, true, true, false, false] rfl rfl (one_of HT_.out (by kernel_rfl)) (by decide) (fun K hK => ?_)
        refine Kd.S_append_step (Kd.slice 5 (Kd.int .u8)) (w0 := w) w.heap.size (by rfl) (.tmp 23) (.tmp 26) 40 22 (.slice none 0 0) 24 rfl Try.underlying40 info22 rfl (by decide) (by omega) u139002 x139002_1 t144 [.slice Ao24 t144.length co24] (fun _ => True) (fun k_ => some k_ = (.slice Ao24 t144.length co24 : Value).ownBlock) rfl rfl ?aP (fun k_ hk_ => ((Kd.R_mono (ok' := fun k_ => ((fun _ => True)) k_ ∧ some k_ ≠ (u139002 : Value).ownBlock) (Kd.R_apart' (HO146.out) (Kd.S_typed HO_139002.out) (by decide)) (fun k_ hk => ⟨trivial, hk.2⟩))).1 k_ hk_.symm) ?aF ?aO ?aB ?aS ?aL ?_
        (case aP => exact Kd.M_row (Kd.R_mono (Kd.R_tight rfl (Kd.R_mono (ok' := fun k_ => ((fun _ => True)) k_ ∧ some k_ ≠ (u139002 : Value).ownBlock) (Kd.R_apart' (HO146.out) (Kd.S_typed HO_139002.out) (by decide)) (fun k_ hk => ⟨trivial, hk.2⟩))) (fun _ h_ => h_)))
        (case aB => exact bq)
        (case aF => exact (fun _ _ => trivial))
        (case aO => exact (by (with_reducible repeat (first | apply Kd.S_alloc | apply Kd.S_drewN | apply Kd.S_drew)); exact Kd.S_mono HO_139002.out (fun k_ hk => ⟨trivial, fun e_ => hk.2 e_⟩)))
        (case aS => exact (below_size bq))
        (case aL => have := LMc14.out; omega)
        intro v148 w23 ho hb hg hat
        rw [← Ny147.out] at ho
        have n0_ := Aside0.mk (blk_grown (q_b BK137.out) hg (Kd.S_ne HO_139002.out BK137.out (by decide)))
        have n1_ := Aside0.mk (blk_grown (q_b BK138.out) hg (Kd.S_ne HO_139002.out BK138.out (by decide)))
        have n2_ := Aside0.mk (Kd.V_afterv (ok := (fun k_ => some k_ ≠ (.slice Ao24 t144.length co24 : Value).ownBlock ∧ k_ ≠ gb137 ∧ k_ ≠ gb138)) (by (with_reducible repeat (first | apply Kd.V_alloc | apply Kd.V_drewN | apply Kd.V_drew)); exact Kd.V_mono HO142.out (fun _ hk => ⟨⟨hk.2, ⟨hk.1.2.1, hk.1.2.2⟩⟩, hk.1.1⟩)) hg hat)
        have n3_ := Aside0.mk (hb)
        have n4_ := Aside0.mk (ho)
        clear BK137
        clear BK138
        clear HO142
        clear HB
        clear HO_139002
        clear HO146
        have BK137 := n0_
        have BK138 := n1_
        have HO142 := n2_
        have HB := n3_
        have HO149 := n4_
        clear n0_ n1_ n2_ n3_ n4_
        clear ho hb hg hat
        obtain ⟨Ao25, co25, eo25⟩ := Kd.S_slice HO149.out
        (first | subst eo25 | (injection eo25 with f1_ f2_ f3_; have f4_ := f1_.symm; have f5_ := f3_.symm; clear f1_ f2_ f3_; subst f4_; subst f5_))
        refine hK.out _ _ ⟨(blk_cell BK138.out 0).trans rfl, (blk_cell BK138.out 1).trans rfl, (blk_cell BK138.out 2).trans rfl⟩ (fun hHeld => ?_)
        clear hK K
        refine norm_ (a' := ?_) ?_ ?_
        rotate_left
        ·show Act.put _ (some 27) _ = _
         simp only [Act.put, List.setIfInBounds_toArray, List.set_cons_zero, List.set_cons_succ, i64_w, i32_w]
         rfl
        refine q_p 6 (some 28) #[true, true, true, true, true, true, true, false] HT_.out ?_
        refine last_ (i := 7) (N := none) #[true, true, true, true, true, true, true, true] rfl rfl (one_of HT_.out (by kernel_rfl)) (by decide) (fun K hK => ?_)
        have hs26 : w23.cell? ⟨gb138, 2, none⟩ = some (u139002) := (blk_cell BK138.out 2).trans rfl
        have hfs26 := blk_frozen BK138.out 2
        have hns26_0 := NB137_138.out
        have hms26_0 := NB138_137.out
        refine skip_ (w1 := ?_) (by rfl) rfl ?_ ?_
        rotate_left
        ·go_simp
         rfl
        refine hK.out _ _ ?_
        clear hK K
        refine done_ (done_of HT_.out (by kernel_rfl)) ?_
        try go_wp2
        have n0_ : Aside0 (Kd.V (Kd.int .u8) 5 (w23.setCell ⟨gb138, 2, none⟩ (.slice Ao25 y147.length co25)) w.heap.size (fun k_ => some k_ ≠ (.slice Ao25 y147.length co25 : Value).ownBlock ∧ k_ ≠ gb137 ∧ k_ ≠ gb138) (.slice Ao21 t140.length co21) t140) := ⟨by (with_reducible repeat (first | apply Kd.V_alloc | apply Kd.V_drewN | apply Kd.V_drew)); exact Kd.V_mono (Kd.V_far (p := ⟨gb138, 2, none⟩) (Kd.V_mono HO142.out (fun k_ hk => (⟨hk, hk.1.2.2⟩ : _ ∧ k_ ≠ gb138))) (fun _ hk => hk.2) (.slice Ao25 y147.length co25)) (fun _ hk => ⟨hk.1.2, ⟨hk.1.1.2.1, hk.1.1.2.2⟩⟩)⟩
        have n1_ : Aside0 (Kd.S (Kd.slice 5 (Kd.int .u8)) 22 (w23.setCell ⟨gb138, 2, none⟩ (.slice Ao25 y147.length co25)) w.heap.size (fun _ => True) (.slice Ao25 y147.length co25) y147) := ⟨by (with_reducible repeat (first | apply Kd.S_alloc | apply Kd.S_drewN | apply Kd.S_drew)); exact Kd.S_mono (Kd.S_far (p := ⟨gb138, 2, none⟩) (Kd.S_types HO149.out BK138.out (by decide)) (fun _ hk => hk.2) (.slice Ao25 y147.length co25)) (fun _ hk => trivial)⟩
        have n2_ : Aside0 ((w23.setCell ⟨gb138, 2, none⟩ (.slice Ao25 y147.length co25)).heap[gb137]? = some (.cells #[.int .i64 x138000_1, .int .i64 x138001_1, .slice none 0 0] 43 (0, 0))) := ⟨by (with_reducible repeat (first | refine blk_drewN ?_ _ | refine blk_drew ?_ | refine blk_alloc ?_ _)); refine blk_far ?_ NB137_138.out _; (with_reducible repeat (first | refine blk_drewN ?_ _ | refine blk_drew ?_ | refine blk_alloc ?_ _)); exact BK137.out⟩
        have n3_ : Aside0 ((w23.setCell ⟨gb138, 2, none⟩ (.slice Ao25 y147.length co25)).heap[gb138]? = some (.cells #[.int .i64 0, .int .i64 x139001_1, .slice Ao25 y147.length co25] 43 (0, 0))) := ⟨by (with_reducible repeat (first | refine blk_drewN ?_ _ | refine blk_drew ?_ | refine blk_alloc ?_ _)); refine blk_put (cs := #[.int .i64 0, .int .i64 x139001_1, u139002]) ?_ 2 _ rfl; (with_reducible repeat (first | refine blk_drewN ?_ _ | refine blk_drew ?_ | refine blk_alloc ?_ _)); exact BK138.out⟩
        have n4_ : Aside0 (Below w.heap.size w (w23.setCell ⟨gb138, 2, none⟩ (.slice Ao25 y147.length co25))) := ⟨bq⟩
        (try clear HO142)
        (try clear HO149)
        (try clear BK137)
        (try clear BK138)
        (try clear HB)
        generalize (w23.setCell ⟨gb138, 2, none⟩ (.slice Ao25 y147.length co25)) = w27 at n0_ n1_ n2_ n3_ n4_ ⊢
        have HO142 := n0_
        have HO149 := n1_
        have BK137 := n2_
        have BK138 := n3_
        have HB := n4_
        clear n0_ n1_ n2_ n3_ n4_
        have n0_ := Aside0.mk (Kd.V_drew HO142.out)
        have n1_ := Aside0.mk (Kd.S_drew HO149.out)
        have n2_ := Aside0.mk (blk_drew BK137.out)
        have n3_ := Aside0.mk (blk_drew BK138.out)
        have n4_ := Aside0.mk (below_drew1 HB.out)
        clear HO142
        clear HO149
        clear BK137
        clear BK138
        clear HB
        have HO142 := n0_
        have HO149 := n1_
        have BK137 := n2_
        have BK138 := n3_
        have HB := n4_
        clear n0_ n1_ n2_ n3_ n4_
        refine start_ (n := 8) (S := fun w' => w'.cell? ⟨gb138, 0, none⟩ = some (.int .i64 0) ∧ w'.cell? ⟨gb138, 1, none⟩ = some (.int .i64 x139001_1) ∧ w'.cell? ⟨gb138, 2, none⟩ = some (.slice Ao25 y147.length co25)) (ds := [7]) #[false, false, false, false, false, false, false, false] (by kernel_rfl) rfl rfl ⟨(blk_cell BK138.out 0).trans rfl, (blk_cell BK138.out 1).trans rfl, (blk_cell BK138.out 2).trans rfl⟩ (fun hHeld => ?_); refine with_tabW impl_UnframeAll.tab8 impl_UnframeAll.bits8 (fun HT_ HW_ => ?_)
        generalize w27.drew = w28 at HO142 HO149 BK137 BK138 HB hHeld ⊢
        refine q_p 0 (some 29) #[true, false, false, false, false, false, false, false] HT_.out ?_
        refine q_p 2 (some 31) #[true, false, true, false, false, false, false, false] HT_.out ?_
        refine q_t 1 (some 30) #[true, true, true, false, false, false, false, false] HT_.out HW_.out hHeld ?_
        refine one_ (i := 3) (N := some 32) #[true, true, true, true, false, false, false, false] rfl rfl (one_of HT_.out (by kernel_rfl)) (by decide) (fun K hK => ?_)
        refine goes_ Try.func54 (by kernel_rfl) rfl #[.slice Ao21 t140.length co21] (by rfl) rfl rfl (by (try simp only [List.map_toArray, List.map_cons, List.map_nil]); first | done | rfl | (simp only [List.length_drop, List.length_take]; rfl)) ?_
        with_reducible refine (impl_size_byte.calls _ _ t140 t150 _ ?side1 ?side2 A15.out).mono ?_
        (case side1 => exact q_c ((Kd.V_reads' HO142.out).2.2))
        (case side2 => exact (Kd.V_reads' HO142.out).2.1)
        rintro e w' ⟨rfl, ⟨nd, rfl⟩⟩
        refine ⟨_, rfl, ?_⟩
        refine hK.out _ _ ⟨(blk_cell BK138.out 0).trans rfl, (blk_cell BK138.out 1).trans rfl, (blk_cell BK138.out 2).trans rfl⟩ (fun hHeld => ?_)
        clear hK K
        refine norm_ (a' := ?_) ?_ ?_
        rotate_left
        ·show Act.put _ (some 32) _ = _
         simp only [Act.put, List.setIfInBounds_toArray, List.set_cons_zero, List.set_cons_succ, i64_w, i32_w]
         rfl
        refine q_p 4 (some 33) #[true, true, true, true, true, false, false, false] HT_.out ?_
        refine q_p 5 (some 34) #[true, true, true, true, true, true, false, false] HT_.out ?_
        refine q_p 6 (some 35) #[true, true, true, true, true, true, true, false] HT_.out ?_
        refine last_ (i := 7) (N := none) #[true, true, true, true, true, true, true, true] rfl rfl (one_of HT_.out (by kernel_rfl)) (by decide) (fun K hK => ?_)
        have hs29 : w28.cell? ⟨gb138, 1, none⟩ = some (.int .i64 x139001_1) := (blk_cell BK138.out 1).trans rfl
        have hfs29 := blk_frozen BK138.out 1
        have hns29_0 := NB137_138.out
        have hms29_0 := NB138_137.out
        refine skip_ (w1 := ?_) (by rfl) rfl ?_ ?_
        rotate_left
        ·go_simp
         rfl
        refine hK.out _ _ ?_
        clear hK K
        refine done_ (done_of HT_.out (by kernel_rfl)) ?_
        try go_wp2
        go_roundg k1
        case measure => have := HK1.out; omega
        case rel => exact ⟨(x138000_1), (x138001_1), (wrap64 (x139001_1 + (wrap64 (4 + t150)))), (y147), (.slice Ao25 y147.length co25), H', ⟨by have := HK1.out; omega⟩, ⟨by (with_reducible repeat (first | apply Kd.S_alloc | apply Kd.S_drewN | apply Kd.S_drew)); exact Kd.S_mono (Kd.S_far (p := ⟨gb138, 1, none⟩) (Kd.S_types HO149.out BK138.out (by decide)) (fun _ hk => hk.2) (.int .i64 (wrap64 (x139001_1 + (wrap64 (4 + t150)))))) (fun _ hk => trivial)⟩, ⟨by (with_reducible repeat (first | refine blk_drewN ?_ _ | refine blk_drew ?_ | refine blk_alloc ?_ _)); refine blk_far ?_ NB137_138.out _; (with_reducible repeat (first | refine blk_drewN ?_ _ | refine blk_drew ?_ | refine blk_alloc ?_ _)); exact BK137.out⟩, ⟨by (with_reducible repeat (first | refine blk_drewN ?_ _ | refine blk_drew ?_ | refine blk_alloc ?_ _)); refine blk_put (cs := #[.int .i64 0, .int .i64 x139001_1, .slice Ao25 y147.length co25]) ?_ 1 _ rfl; (with_reducible repeat (first | refine blk_drewN ?_ _ | refine blk_drew ?_ | refine blk_alloc ?_ _)); exact BK138.out⟩, ⟨bq⟩⟩
       ·rw [if_neg c14] at H
        exact absurd H (by simp)
      ·replace c12 := Bool.eq_false_iff.mpr c12
       subst c12
       have H1 : (some (0, x139001_1, x139002_1)) = some (r1, r2, r3) := by rw [if_neg (show ¬ (false = true) by decide)] at H; exact H
       clear H
       have H := H1
       clear H1
       simp only [Option.some.injEq, Prod.mk.injEq] at H
       obtain ⟨rfl, rfl, rfl⟩ := H
       have hnb30 := NB138_137.out
       have hnc30 := NB137_138.out
       obtain ⟨hcz31_0, hcz31_1, hcz31_2, hfz31_0, hfz31_1, hfz31_2⟩ := q_3 BK138.out
       obtain ⟨i032, hi032, _, hsz32, _⟩ := info_parts info5
       obtain ⟨A32, hcut32, hA32, hC32⟩ := print_drop_of (P := Try.prog) (Value.int .u8) 0 22 5 .i64 Try.underlying22 hi032 hsz32 A0 c0 l0 x139001_1 q_d q_d HC0.out
       have HR139 := Aside0.mk (Kd.C_of_reads (h1 := fun _ => rfl) (hA32 _ (Kd.reads_of_C HR0.out)))
       have HC139 := Aside0.mk hC32
       clear hA32 hC32 hi032 hsz32
       go_wp2_with (first | ((with_reducible refine gate_callee (f := 59) rfl ?_); refine goesL_ (some 16) rfl rfl Try.func59 (by kernel_rfl) rfl #[.slice A32 (l0.drop (x139001_1 : Int).toNat).length (c0 - x139001_1.toNat)] rfl (by (try simp only [List.map_toArray, List.map_cons, List.map_nil]); first | done | (rw [show (l0.drop (x139001_1 : Int).toNat).length = (l0.length - x139001_1.toNat) from List.length_drop] <;> rfl) | rfl | (simp only [List.length_drop, List.length_take]; rfl)) ?_; (with_reducible refine (impl_unframe.calls k1 (fun k_ => k_ < w.heap.size) _ _ (l0.drop (x139001_1 : Int).toNat) t140 false _ ?side1 A11.out).mono ?_); (case side1 => exact Kd.V_mk HC139.out (Kd.F_below (Kd.C_F (Kd.heap_int .u8) HR139.out) bq)); rintro e w33 ⟨v141, rfl, ho0, hb⟩; refine ⟨_, rfl, ?_⟩; have n0_ := Aside0.mk (Kd.S_below (q_s (HO_139002.out)) hb); have n1_ := Aside0.mk (Kd.V_lower (Kd.V_mono (ok' := fun k_ => some k_ ≠ (u139002 : Value).ownBlock ∧ k_ ≠ gb137 ∧ k_ ≠ gb138) ho0 (fun k_ hk_ => ⟨Or.elim hk_ (fun hs_ => fun e_ => Nat.not_le.2 hs_ (Kd.S_base HO_139002.out k_ e_.symm)) (fun hn_ => (Kd.fresh' (Kd.S_lt (q_s (HO_139002.out))) k_ hn_)), Or.elim hk_ (fun hs_ => fun e_ => Nat.not_le.2 hs_ (by rw [e_]; exact GW137.out)) (fun hn_ => (Kd.freshB (q_b BK137.out) k_ hn_)), Or.elim hk_ (fun hs_ => fun e_ => Nat.not_le.2 hs_ (by rw [e_]; exact GW138.out)) (fun hn_ => (Kd.freshB (q_b BK138.out) k_ hn_))⟩)) (below_size bq)); have n2_ := Aside0.mk (blk_below (q_b BK137.out) hb); have n3_ := Aside0.mk (blk_below (q_b BK138.out) hb); have n4_ := Aside0.mk (below_step bq hb); revert n0_ n1_ n2_ n3_ n4_; clear HO_139002 BK137 BK138 HB; intro HO_139002 HO142 BK137 BK138 HB; (try clear hb); (try clear hb2); (try clear hk); (try clear hi); (try clear ho0); obtain ⟨hcz34_0, hcz34_1, hcz34_2, hfz34_0, hfz34_1, hfz34_2⟩ := q_3 BK138.out; obtain ⟨hcz35_0, hcz35_1, hcz35_2, hfz35_0, hfz35_1, hfz35_2⟩ := q_3 BK137.out; obtain ⟨Ao36, co36, eo36⟩ := Kd.S_slice HO_139002.out; subst eo36))
       refine bodyPost_ret (results_cell_row rfl _ _ gb137 43 #[.int .i64 0, .int .i64 x139001_1, .slice Ao36 x139002_1.length co36] (0, 0) _ rfl (by (with_reducible repeat (first | refine blk_drewN ?_ _ | refine blk_drew ?_ | refine blk_alloc ?_ _)); refine blk_put (cs := #[.int .i64 0, .int .i64 x139001_1, .slice none 0 0]) ?_ 2 _ rfl; (with_reducible repeat (first | refine blk_drewN ?_ _ | refine blk_drew ?_ | refine blk_alloc ?_ _)); refine blk_put (cs := #[.int .i64 0, .int .i64 x138001_1, .slice none 0 0]) ?_ 1 _ rfl; (with_reducible repeat (first | refine blk_drewN ?_ _ | refine blk_drew ?_ | refine blk_alloc ?_ _)); refine blk_put (cs := #[.int .i64 x138000_1, .int .i64 x138001_1, .slice none 0 0]) ?_ 0 _ rfl; (with_reducible repeat (first | refine blk_drewN ?_ _ | refine blk_drew ?_ | refine blk_alloc ?_ _)); exact BK137.out) Try.underlying43 rfl (by kernel_rfl)) rfl ?_
       exact ⟨_, q_e, by (with_reducible repeat (first | apply Kd.S_alloc | apply Kd.S_drewN | apply Kd.S_drew)); exact Kd.S_mono (Kd.S_far (p := ⟨gb137, 2, none⟩) (Kd.S_far (p := ⟨gb137, 1, none⟩) (Kd.S_far (p := ⟨gb137, 0, none⟩) (Kd.S_types HO_139002.out BK137.out (by decide)) (fun _ hk => hk.2) (.int .i64 0)) (fun _ hk => hk.2) (.int .i64 x139001_1)) (fun _ hk => hk.2) (.slice Ao36 x139002_1.length co36)) (fun _ hk => trivial), bq⟩
     ·rw [if_neg c10] at H
      exact absurd H (by simp)
    ·rw [if_neg c9] at H
     exact absurd H (by simp)

/-! ### spec_CheckOf: function 78 -/
def spec_CheckOf.l0 : Nat → List Int → Int → Int → Option (Int)
  | 0, _, _, _ => none
  | k + 1, x0, x3, x4 => if x4 < (x0.length : Int) then (if 0 ≤ x4 then (spec_CheckOf.l0 k x0 (Int.tmod (wrap64 ((wrap64 ((wrap64 (x3 * 257)) + (wrap64 (rd x0 x4)))) + 1)) 65521) (wrap64 (x4 + 1))) else (none)) else (some x3)
def spec_CheckOf.f (k : Nat) (l0 : List Int) : Option (Int) := spec_CheckOf.l0 k l0 1 0
set_option maxHeartbeats 8000000 in
set_option maxRecDepth 100000 in
theorem spec_CheckOf.calls (k : Nat) (A0 : Option Addr) (c0 : Nat) (l0 : List Int) (r : Int) (w : World) (hr0 : Kd.C (Kd.int .u8) w A0 l0.length l0) (hc0 : l0.length ≤ c0) (h : spec_CheckOf.f k l0 = some r) :
  Calls Try.prog 78 #[.slice A0 l0.length c0] w fun e w' => e = .returned (.int .i64 r) ∧ Drawn0 w w' := by
 have HR0 := Aside0.mk hr0
 have HC0 := Aside0.mk hc0
 clear hr0 hc0
 have H : (spec_CheckOf.l0 k l0 1 0) = some r := h
 clear h
 have H' := Aside0.mk H
 clear H
 go_enter Try.func78, Try.ntmps78
 go_wp2
 go_loopg [3, 4] k (fun kq v3 v4 w' => ∃ (x3_1 : Int) (x4_1 : Int), v3 = .int .i64 x3_1 ∧ v4 = .int .i64 x4_1 ∧ Aside0 (spec_CheckOf.l0 kq l0 x3_1 x4_1 = some r) ∧ Aside0 (kq ≤ k) ∧ Drawn0 w w')
 case atStart => exact ⟨(1), (0), q_i, q_i, H', ⟨Nat.le_refl _⟩, q_0⟩
 case round =>
  clear H'
  obtain ⟨x3_1, x4_1, rfl, rfl, HA, HK1, ⟨m1, rfl⟩⟩ := hrel
  cases gk with
  | zero => exact absurd HA.out (by simp [spec_CheckOf.l0])
  | succ k1 =>
   have H := HA.out
   clear HA
   simp only [spec_CheckOf.l0] at H
   by_cases c2 : x4_1 < (l0.length : Int)
   ·rw [if_pos c2] at H
    have c2b0 := decide_eq_true c2
    clear c2
    by_cases c3 : 0 ≤ x4_1
    ·rw [if_pos c3] at H
     have c3b0 := decide_eq_true c3
     clear c3
     have H' := Aside0.mk H
     clear H
     have p151 : 0 ≤ (x4_1 : Int) := q_d
     have q151 : x4_1 < (l0.length : Int) := q_d
     obtain ⟨ad151, e151, hx151_0⟩ := Kd.at_int HR0.out x4_1 p151 q151
     cases e151
     replace p151 := eq_true p151
     replace q151 := eq_true q151
     go_wp2
     go_roundg k1
     case measure => have := HK1.out; omega
     case rel => exact ⟨(Int.tmod (wrap64 ((wrap64 ((wrap64 (x3_1 * 257)) + (wrap64 (rd l0 x4_1)))) + 1)) 65521), (wrap64 (x4_1 + 1)), q_i, q_i, H', ⟨by have := HK1.out; omega⟩, q_0⟩
    ·rw [if_neg c3] at H
     exact absurd H (by simp)
   ·rw [if_neg c2] at H
    have c2b0 := decide_eq_false c2
    clear c2
    obtain rfl := Option.some.inj H
    go_wp2
    go_ret
    exact ⟨by first | rfl | (simp; done) | (simp [*]; done), q_0⟩

/-! ### spec_l3Records: function 64 -/
mutual
def spec_l3Records.l0 : Nat → List Int → List (List Int) → Int → Option ((List (List Int)) × Int)
  | 0, _, _, _ => none
  | k + 1, x0, x4, x5 => if (wrap64 (x5 + 4)) < (x0.length : Int) then (if 0 ≤ x5 then (if x5 < (x0.length : Int) then (if 0 ≤ (wrap64 (x5 + 1)) then (if (wrap64 (x5 + 1)) < (x0.length : Int) then (if (wrap64 ((wrap64 ((wrap64 (rd x0 x5)) * 256)) + (wrap64 (rd x0 (wrap64 (x5 + 1)))))) < 1 then (spec_l3Records.j1 k x0 x4 x5 (wrap64 ((wrap64 ((wrap64 (rd x0 x5)) * 256)) + (wrap64 (rd x0 (wrap64 (x5 + 1)))))) true) else (if (wrap64 ((wrap64 ((wrap64 (rd x0 x5)) * 256)) + (wrap64 (rd x0 (wrap64 (x5 + 1)))))) > 500 then (spec_l3Records.j1 k x0 x4 x5 (wrap64 ((wrap64 ((wrap64 (rd x0 x5)) * 256)) + (wrap64 (rd x0 (wrap64 (x5 + 1)))))) true) else (spec_l3Records.j1 k x0 x4 x5 (wrap64 ((wrap64 ((wrap64 (rd x0 x5)) * 256)) + (wrap64 (rd x0 (wrap64 (x5 + 1)))))) (decide ((wrap64 ((wrap64 (x5 + 4)) + (wrap64 ((wrap64 ((wrap64 (rd x0 x5)) * 256)) + (wrap64 (rd x0 (wrap64 (x5 + 1)))))))) > (x0.length : Int)))))) else (none)) else (none)) else (none)) else (none)) else (some (x4, x5))
def spec_l3Records.j1 : Nat → List Int → List (List Int) → Int → Int → Bool → Option ((List (List Int)) × Int)
  | 0, _, _, _, _, _ => none
  | k + 1, x0, x4, x5, x6, x41 => if x41 = true then (some (x4, x5)) else (if 0 ≤ (wrap64 (x5 + 4)) then (if (wrap64 (x5 + 4)) ≤ (wrap64 ((wrap64 (x5 + 4)) + x6)) then (if (wrap64 ((wrap64 (x5 + 4)) + x6)) ≤ (x0.length : Int) then ((spec_CheckOf.f k ((x0.take ((wrap64 ((wrap64 (x5 + 4)) + x6)) : Int).toNat).drop ((wrap64 (x5 + 4)) : Int).toNat)).bind fun t158 => (if 0 ≤ (wrap64 (x5 + 2)) then (if (wrap64 (x5 + 2)) < (x0.length : Int) then (if 0 ≤ (wrap64 (x5 + 3)) then (if (wrap64 (x5 + 3)) < (x0.length : Int) then (if t158 = (wrap64 ((wrap64 ((wrap64 (rd x0 (wrap64 (x5 + 2)))) * 256)) + (wrap64 (rd x0 (wrap64 (x5 + 3)))))) then ((some (([] : List Int) : List Int)).bind fun y161 => (if y161.length + ((x0.take ((wrap64 ((wrap64 (x5 + 4)) + x6)) : Int).toNat).drop ((wrap64 (x5 + 4)) : Int).toNat).length < 140737488355328 then (if x4.length < 5864062014805 then (spec_l3Records.l0 k x0 (x4 ++ [(y161 ++ ((x0.take ((wrap64 ((wrap64 (x5 + 4)) + x6)) : Int).toNat).drop ((wrap64 (x5 + 4)) : Int).toNat))]) (wrap64 ((wrap64 (x5 + 4)) + x6))) else (none)) else (none))) else (some (x4, x5))) else (none)) else (none)) else (none)) else (none))) else (none)) else (none)) else (none))
end
def spec_l3Records.f (k : Nat) (l0 : List Int) : Option ((List (List Int)) × Int) := spec_l3Records.l0 k l0 (([] : List (List Int))) 0
set_option maxHeartbeats 8000000 in
set_option maxRecDepth 100000 in
theorem spec_l3Records.calls (k : Nat) (A0 : Option Addr) (c0 : Nat) (l0 : List Int) (r1 : List (List Int)) (r2 : Int) (w : World) (hr0 : Kd.C (Kd.int .u8) w A0 l0.length l0) (hc0 : l0.length ≤ c0) (h : spec_l3Records.f k l0 = some (r1, r2)) :
  Calls Try.prog 64 #[.slice A0 l0.length c0] w fun e w' => ∃ v0_ : Value, e = .returned (.tuple #[v0_, .int .i64 r2]) ∧ Kd.S (Kd.slice 5 (Kd.int .u8)) 22 w' w.heap.size (fun _ => True) v0_ r1 ∧ Below w.heap.size w w' := by
 have HR0 := Aside0.mk hr0
 have HC0 := Aside0.mk hc0
 clear hr0 hc0
 have HB := Aside0.mk (Below.refl w.heap.size w)
 have H : (spec_l3Records.l0 k l0 (([] : List (List Int))) 0) = some (r1, r2) := h
 clear h
 obtain ⟨y152, hy152⟩ : ∃ y_ : List (List Int), y_ = (([] : List (List Int))) := ⟨_, rfl⟩
 replace H : (spec_l3Records.l0 k l0 y152 0) = some (r1, r2) := q_h hy152 H
 have Ny152 := Aside0.mk hy152
 clear hy152
 have H' := Aside0.mk H
 clear H
 go_enter Try.func64, Try.ntmps64
 go_wp2_with (first | ((with_reducible refine gate_dst (N := 8) rfl ?_); (try (refine gate_guard (by rfl) ?_; dsimp only)); refine Kd.S_lit (Kd.slice 5 (Kd.int .u8)) _ 22 ?hg (N := 8) ?hd (xs := ([] : List (List Int))) (inner := []) (ok := fun _ => True) (okp := fun _ => True) ?hr ?hp (fun _ hk => hk) trivial (Below.refl _ _) (Nat.le_refl _) (by simp) ?_; (case hd => rfl); (case hg => rfl); (case hr => first | (go_simp; done) | (go_simp; rfl)); (case hp => exact (Reps.none _ _)); intro v153 w2 ho3 hb hg_ hnew_; clear hg_ hnew_; (first | rw [← Ny152.out] at ho3 | (simp only [Int.reduceToNat] at ho3; rw [← Ny152.out] at ho3)); have n0_ := Aside0.mk (Kd.S_lower ho3 (below_size bq)); have n1_ := Aside0.mk (below_step bq hb); revert n0_ n1_; clear HB; intro HO154 HB; clear hb ho3))
 repeat (go_quiet (first | ((with_reducible refine gate_dst (N := 8) rfl ?_); (try (refine gate_guard (by rfl) ?_; dsimp only)); refine Kd.S_lit (Kd.slice 5 (Kd.int .u8)) _ 22 ?hg (N := 8) ?hd (xs := ([] : List (List Int))) (inner := []) (ok := fun _ => True) (okp := fun _ => True) ?hr ?hp (fun _ hk => hk) trivial (Below.refl _ _) (Nat.le_refl _) (by simp) ?_; (case hd => rfl); (case hg => rfl); (case hr => first | (go_simp; done) | (go_simp; rfl)); (case hp => exact (Reps.none _ _)); intro v153 w2 ho3 hb hg_ hnew_; clear hg_ hnew_; (first | rw [← Ny152.out] at ho3 | (simp only [Int.reduceToNat] at ho3; rw [← Ny152.out] at ho3)); have n0_ := Aside0.mk (Kd.S_lower ho3 (below_size bq)); have n1_ := Aside0.mk (below_step bq hb); revert n0_ n1_; clear HB; intro HO154 HB; clear hb ho3)); try go_wp2_with (first | ((with_reducible refine gate_dst (N := 8) rfl ?_); (try (refine gate_guard (by rfl) ?_; dsimp only)); refine Kd.S_lit (Kd.slice 5 (Kd.int .u8)) _ 22 ?hg (N := 8) ?hd (xs := ([] : List (List Int))) (inner := []) (ok := fun _ => True) (okp := fun _ => True) ?hr ?hp (fun _ hk => hk) trivial (Below.refl _ _) (Nat.le_refl _) (by simp) ?_; (case hd => rfl); (case hg => rfl); (case hr => first | (go_simp; done) | (go_simp; rfl)); (case hp => exact (Reps.none _ _)); intro v153 w2 ho3 hb hg_ hnew_; clear hg_ hnew_; (first | rw [← Ny152.out] at ho3 | (simp only [Int.reduceToNat] at ho3; rw [← Ny152.out] at ho3)); have n0_ := Aside0.mk (Kd.S_lower ho3 (below_size bq)); have n1_ := Aside0.mk (below_step bq hb); revert n0_ n1_; clear HB; intro HO154 HB; clear hb ho3)))
 go_loopg [4, 5] k (fun kq v4 v5 w' => ∃ (x4_1 : List (List Int)) (x5_1 : Int), v5 = .int .i64 x5_1 ∧ Aside0 (spec_l3Records.l0 kq l0 x4_1 x5_1 = some (r1, r2)) ∧ Aside0 (kq ≤ k) ∧ Aside0 (Kd.S (Kd.slice 5 (Kd.int .u8)) 22 w' w.heap.size (fun _ => True) v4 x4_1) ∧ Aside0 (Below w.heap.size w w'))
 case atStart => exact ⟨(y152), (0), q_i, H', ⟨Nat.le_refl _⟩, ⟨q_s (HO154.out)⟩, ⟨bq⟩⟩
 case round =>
  clear H'
  (try clear p2)
  obtain ⟨x4_1, x5_1, rfl, HA, HK1, HO_4, HB⟩ := hrel
  cases gk with
  | zero => exact absurd HA.out (by simp [spec_l3Records.l0])
  | succ k1 =>
   have H := HA.out
   clear HA
   simp only [spec_l3Records.l0] at H
   by_cases c4 : (wrap64 (x5_1 + 4)) < (l0.length : Int)
   ·rw [if_pos c4] at H
    have c4b0 := decide_eq_true c4
    clear c4
    by_cases c5 : 0 ≤ x5_1
    ·rw [if_pos c5] at H
     have c5b0 := decide_eq_true c5
     clear c5
     by_cases c6 : x5_1 < (l0.length : Int)
     ·rw [if_pos c6] at H
      have c6b0 := decide_eq_true c6
      clear c6
      obtain ⟨ji7, hji7⟩ : ∃ j_ : Int, (wrap64 (x5_1 + 1)) = j_ := ⟨_, rfl⟩
      replace H : (if 0 ≤ (ji7) then (if (ji7) < (l0.length : Int) then (if (wrap64 ((wrap64 ((wrap64 (rd l0 x5_1)) * 256)) + (wrap64 (rd l0 (ji7))))) < 1 then (spec_l3Records.j1 k1 l0 x4_1 x5_1 (wrap64 ((wrap64 ((wrap64 (rd l0 x5_1)) * 256)) + (wrap64 (rd l0 (ji7))))) true) else (if (wrap64 ((wrap64 ((wrap64 (rd l0 x5_1)) * 256)) + (wrap64 (rd l0 (ji7))))) > 500 then (spec_l3Records.j1 k1 l0 x4_1 x5_1 (wrap64 ((wrap64 ((wrap64 (rd l0 x5_1)) * 256)) + (wrap64 (rd l0 (ji7))))) true) else (spec_l3Records.j1 k1 l0 x4_1 x5_1 (wrap64 ((wrap64 ((wrap64 (rd l0 x5_1)) * 256)) + (wrap64 (rd l0 (ji7))))) (decide ((wrap64 ((wrap64 (x5_1 + 4)) + (wrap64 ((wrap64 ((wrap64 (rd l0 x5_1)) * 256)) + (wrap64 (rd l0 (ji7))))))) > (l0.length : Int)))))) else (none)) else (none)) = some (r1, r2) := by first | (rw [hji7] at H; exact H) | (simp only [hji7] at H ⊢; exact H)
      have hji7w : (IntKind.i64.wrap (x5_1 + 1)) = ji7 := (i64_w _).trans hji7
      by_cases c8 : 0 ≤ (ji7)
      ·rw [if_pos c8] at H
       have c8b0 := decide_eq_true c8
       clear c8
       by_cases c9 : (ji7) < (l0.length : Int)
       ·rw [if_pos c9] at H
        have c9b0 := decide_eq_true c9
        clear c9
        have HC10 := Aside0.mk H
        clear H
        have p155 : 0 ≤ (x5_1 : Int) := q_d
        have q155 : x5_1 < (l0.length : Int) := q_d
        obtain ⟨ad155, e155, hx155_0⟩ := Kd.at_int HR0.out x5_1 p155 q155
        cases e155
        replace hx155_0 := q_x HB.out hx155_0
        replace p155 := eq_true p155
        replace q155 := eq_true q155
        have p156 : 0 ≤ ((ji7) : Int) := q_d
        have q156 : (ji7) < (l0.length : Int) := q_d
        obtain ⟨ad156, e156, hx156_0⟩ := Kd.at_int HR0.out (ji7) p156 q156
        obtain rfl : ad155 = ad156 := (by injection e156)
        replace hx156_0 := q_x HB.out hx156_0
        replace p156 := eq_true p156
        replace q156 := eq_true q156
        go_upto_region 5 with (fail)
        repeat (go_quiet (fail); go_upto_region 5 with (fail))
        go_cut [41] (fun v41 wc => ∃ (kq : Nat) (x41_9 : Bool), v41 = .bool x41_9 ∧ Aside0 (spec_l3Records.j1 kq l0 x4_1 x5_1 (wrap64 ((wrap64 ((wrap64 (rd l0 x5_1)) * 256)) + (wrap64 (rd l0 (ji7))))) x41_9 = some (r1, r2)) ∧ Aside0 (kq ≤ k1) ∧ Aside0 (Kd.S (Kd.slice 5 (Kd.int .u8)) 22 wc w.heap.size (fun _ => True) u4 x4_1) ∧ Aside0 (Below w.heap.size w wc))
        case first =>
         have H := HC10.out
         clear HC10
         by_cases c11 : (wrap64 ((wrap64 ((wrap64 (rd l0 x5_1)) * 256)) + (wrap64 (rd l0 (ji7))))) < 1
         ·rw [if_pos c11] at H
          have c11b0 := decide_eq_true c11
          clear c11
          (first | rw [c11b0] | (simp only [i64_w, i32_w]; rw [c11b0]) | skip)
          have H' := Aside0.mk H
          clear H
          go_wp2
          repeat (go_quiet (fail); try go_wp2)
          go_meet
          case rel => exact ⟨_, (true), q_i, H', ⟨by have := HK1.out; first | omega | exact Nat.le_refl _⟩, ⟨q_s (HO_4.out)⟩, ⟨bq⟩⟩
         ·rw [if_neg c11] at H
          have c11b0 := decide_eq_false c11
          clear c11
          (first | rw [c11b0] | (simp only [i64_w, i32_w]; rw [c11b0]) | skip)
          by_cases c12 : (wrap64 ((wrap64 ((wrap64 (rd l0 x5_1)) * 256)) + (wrap64 (rd l0 (ji7))))) > 500
          ·rw [if_pos c12] at H
           have c12b0 := decide_eq_true c12
           clear c12
           have H' := Aside0.mk H
           clear H
           go_wp2
           repeat (go_quiet (fail); try go_wp2)
           go_meet
           case rel => exact ⟨_, (true), q_i, H', ⟨by have := HK1.out; first | omega | exact Nat.le_refl _⟩, ⟨q_s (HO_4.out)⟩, ⟨bq⟩⟩
          ·rw [if_neg c12] at H
           have c12b0 := decide_eq_false c12
           clear c12
           have H' := Aside0.mk H
           clear H
           go_wp2
           repeat (go_quiet (fail); try go_wp2)
           go_meet
           case rel => exact ⟨_, (decide ((wrap64 ((wrap64 (x5_1 + 4)) + (wrap64 ((wrap64 ((wrap64 (rd l0 x5_1)) * 256)) + (wrap64 (rd l0 (ji7))))))) > (l0.length : Int))), (by first | rfl | (simp; done) | (simp only [← hji7] <;> (first | rfl | simp)) | (simp [*]; done)), H', ⟨by have := HK1.out; first | omega | exact Nat.le_refl _⟩, ⟨q_s (HO_4.out)⟩, ⟨bq⟩⟩
        case rest =>
         clear HC10
         (try clear c1); (try clear p1); (try clear q1); (try clear hx1); (try clear p2); (try clear c4); (try clear c4b0); (try clear c5); (try clear c5b0); (try clear c6); (try clear c6b0); (try clear p6)
         (try clear c8); (try clear c8b0); (try clear c9); (try clear c9b0); (try clear c11); (try clear c11b0); (try clear c12); (try clear c12b0); (try clear hx155_0); (try clear hx156_0); (try clear p155)
         (try clear p156); (try clear p2); (try clear q155); (try clear q156)
         obtain ⟨kq, x41_9, rfl, HA, HJ9, HO_4, HB⟩ := hcut
         cases kq with
         | zero => exact absurd HA.out (by simp [spec_l3Records.j1])
         | succ kj9 =>
          have H := HA.out
          clear HA
          simp only [spec_l3Records.j1] at H
          by_cases c13 : x41_9 = true
          ·subst c13
           have H1 : (some (x4_1, x5_1)) = some (r1, r2) := by rw [if_pos rfl] at H; exact H
           clear H
           have H := H1
           clear H1
           simp only [Option.some.injEq, Prod.mk.injEq] at H
           obtain ⟨rfl, rfl⟩ := H
           go_wp2
           repeat (go_quiet (fail); try go_wp2)
           go_ret2
           exact ⟨_, by first | rfl | (simp [errW_none, errW_some] <;> rfl) | (simp only [← hji7]; first | rfl | (simp [errW_none, errW_some] <;> rfl)) | (simp [*, errW_none, errW_some] <;> rfl), q_s (HO_4.out), bq⟩
          ·replace c13 := Bool.eq_false_iff.mpr c13
           subst c13
           have H1 : (if 0 ≤ (wrap64 (x5_1 + 4)) then (if (wrap64 (x5_1 + 4)) ≤ (wrap64 ((wrap64 (x5_1 + 4)) + (wrap64 ((wrap64 ((wrap64 (rd l0 x5_1)) * 256)) + (wrap64 (rd l0 (ji7))))))) then (if (wrap64 ((wrap64 (x5_1 + 4)) + (wrap64 ((wrap64 ((wrap64 (rd l0 x5_1)) * 256)) + (wrap64 (rd l0 (ji7))))))) ≤ (l0.length : Int) then ((spec_CheckOf.f kj9 ((l0.take ((wrap64 ((wrap64 (x5_1 + 4)) + (wrap64 ((wrap64 ((wrap64 (rd l0 x5_1)) * 256)) + (wrap64 (rd l0 (ji7))))))) : Int).toNat).drop ((wrap64 (x5_1 + 4)) : Int).toNat)).bind fun t158 => (if 0 ≤ (wrap64 (x5_1 + 2)) then (if (wrap64 (x5_1 + 2)) < (l0.length : Int) then (if 0 ≤ (wrap64 (x5_1 + 3)) then (if (wrap64 (x5_1 + 3)) < (l0.length : Int) then (if t158 = (wrap64 ((wrap64 ((wrap64 (rd l0 (wrap64 (x5_1 + 2)))) * 256)) + (wrap64 (rd l0 (wrap64 (x5_1 + 3)))))) then ((some (([] : List Int) : List Int)).bind fun y161 => (if y161.length + ((l0.take ((wrap64 ((wrap64 (x5_1 + 4)) + (wrap64 ((wrap64 ((wrap64 (rd l0 x5_1)) * 256)) + (wrap64 (rd l0 (ji7))))))) : Int).toNat).drop ((wrap64 (x5_1 + 4)) : Int).toNat).length < 140737488355328 then (if x4_1.length < 5864062014805 then (spec_l3Records.l0 kj9 l0 (x4_1 ++ [(y161 ++ ((l0.take ((wrap64 ((wrap64 (x5_1 + 4)) + (wrap64 ((wrap64 ((wrap64 (rd l0 x5_1)) * 256)) + (wrap64 (rd l0 (ji7))))))) : Int).toNat).drop ((wrap64 (x5_1 + 4)) : Int).toNat))]) (wrap64 ((wrap64 (x5_1 + 4)) + (wrap64 ((wrap64 ((wrap64 (rd l0 x5_1)) * 256)) + (wrap64 (rd l0 (ji7)))))))) else (none)) else (none))) else (some (x4_1, x5_1))) else (none)) else (none)) else (none)) else (none))) else (none)) else (none)) else (none)) = some (r1, r2) := by rw [if_neg (show ¬ (false = true) by decide)] at H; exact H
           clear H
           have H := H1
           clear H1
           obtain ⟨ji14, hji14⟩ : ∃ j_ : Int, (wrap64 (x5_1 + 4)) = j_ := ⟨_, rfl⟩
           replace H : (if 0 ≤ (ji14) then (if (ji14) ≤ (wrap64 ((ji14) + (wrap64 ((wrap64 ((wrap64 (rd l0 x5_1)) * 256)) + (wrap64 (rd l0 (ji7))))))) then (if (wrap64 ((ji14) + (wrap64 ((wrap64 ((wrap64 (rd l0 x5_1)) * 256)) + (wrap64 (rd l0 (ji7))))))) ≤ (l0.length : Int) then ((spec_CheckOf.f kj9 ((l0.take ((wrap64 ((ji14) + (wrap64 ((wrap64 ((wrap64 (rd l0 x5_1)) * 256)) + (wrap64 (rd l0 (ji7))))))) : Int).toNat).drop ((ji14) : Int).toNat)).bind fun t158 => (if 0 ≤ (wrap64 (x5_1 + 2)) then (if (wrap64 (x5_1 + 2)) < (l0.length : Int) then (if 0 ≤ (wrap64 (x5_1 + 3)) then (if (wrap64 (x5_1 + 3)) < (l0.length : Int) then (if t158 = (wrap64 ((wrap64 ((wrap64 (rd l0 (wrap64 (x5_1 + 2)))) * 256)) + (wrap64 (rd l0 (wrap64 (x5_1 + 3)))))) then ((some (([] : List Int) : List Int)).bind fun y161 => (if y161.length + ((l0.take ((wrap64 ((ji14) + (wrap64 ((wrap64 ((wrap64 (rd l0 x5_1)) * 256)) + (wrap64 (rd l0 (ji7))))))) : Int).toNat).drop ((ji14) : Int).toNat).length < 140737488355328 then (if x4_1.length < 5864062014805 then (spec_l3Records.l0 kj9 l0 (x4_1 ++ [(y161 ++ ((l0.take ((wrap64 ((ji14) + (wrap64 ((wrap64 ((wrap64 (rd l0 x5_1)) * 256)) + (wrap64 (rd l0 (ji7))))))) : Int).toNat).drop ((ji14) : Int).toNat))]) (wrap64 ((ji14) + (wrap64 ((wrap64 ((wrap64 (rd l0 x5_1)) * 256)) + (wrap64 (rd l0 (ji7)))))))) else (none)) else (none))) else (some (x4_1, x5_1))) else (none)) else (none)) else (none)) else (none))) else (none)) else (none)) else (none)) = some (r1, r2) := by first | (rw [hji14] at H; exact H) | (simp only [hji14] at H ⊢; exact H)
           (try rw [hji14] at c4b0)
           have hji14w : (IntKind.i64.wrap (x5_1 + 4)) = ji14 := (i64_w _).trans hji14
           by_cases c15 : 0 ≤ (ji14)
           ·rw [if_pos c15] at H
            have c15b0 := eq_true c15
            have c15b1 := decide_eq_true c15
            clear c15
            by_cases c16 : (ji14) ≤ (wrap64 ((ji14) + (wrap64 ((wrap64 ((wrap64 (rd l0 x5_1)) * 256)) + (wrap64 (rd l0 (ji7)))))))
            ·rw [if_pos c16] at H
             have c16b0 := eq_true c16
             have c16b1 := decide_eq_true c16
             by_cases c17 : (wrap64 ((ji14) + (wrap64 ((wrap64 ((wrap64 (rd l0 x5_1)) * 256)) + (wrap64 (rd l0 (ji7))))))) ≤ (l0.length : Int)
             ·rw [if_pos c17] at H
              have c17b0 := eq_true c17
              have c17b1 := decide_eq_true c17
              replace H := Option.bind_eq_some_iff.mp H
              obtain ⟨t158, A180, H⟩ := H
              replace H : (if 0 ≤ (wrap64 (x5_1 + 2)) then (if (wrap64 (x5_1 + 2)) < (l0.length : Int) then (if 0 ≤ (wrap64 (x5_1 + 3)) then (if (wrap64 (x5_1 + 3)) < (l0.length : Int) then (if t158 = (wrap64 ((wrap64 ((wrap64 (rd l0 (wrap64 (x5_1 + 2)))) * 256)) + (wrap64 (rd l0 (wrap64 (x5_1 + 3)))))) then ((some (([] : List Int) : List Int)).bind fun y161 => (if y161.length + ((l0.take ((wrap64 ((ji14) + (wrap64 ((wrap64 ((wrap64 (rd l0 x5_1)) * 256)) + (wrap64 (rd l0 (ji7))))))) : Int).toNat).drop ((ji14) : Int).toNat).length < 140737488355328 then (if x4_1.length < 5864062014805 then (spec_l3Records.l0 kj9 l0 (x4_1 ++ [(y161 ++ ((l0.take ((wrap64 ((ji14) + (wrap64 ((wrap64 ((wrap64 (rd l0 x5_1)) * 256)) + (wrap64 (rd l0 (ji7))))))) : Int).toNat).drop ((ji14) : Int).toNat))]) (wrap64 ((ji14) + (wrap64 ((wrap64 ((wrap64 (rd l0 x5_1)) * 256)) + (wrap64 (rd l0 (ji7)))))))) else (none)) else (none))) else (some (x4_1, x5_1))) else (none)) else (none)) else (none)) else (none)) = some (r1, r2) := H
              have A18 := Aside0.mk A180
              clear A180
              obtain ⟨ji19, hji19⟩ : ∃ j_ : Int, (wrap64 (x5_1 + 2)) = j_ := ⟨_, rfl⟩
              replace H : (if 0 ≤ (ji19) then (if (ji19) < (l0.length : Int) then (if 0 ≤ (wrap64 (x5_1 + 3)) then (if (wrap64 (x5_1 + 3)) < (l0.length : Int) then (if t158 = (wrap64 ((wrap64 ((wrap64 (rd l0 (ji19))) * 256)) + (wrap64 (rd l0 (wrap64 (x5_1 + 3)))))) then ((some (([] : List Int) : List Int)).bind fun y161 => (if y161.length + ((l0.take ((wrap64 ((ji14) + (wrap64 ((wrap64 ((wrap64 (rd l0 x5_1)) * 256)) + (wrap64 (rd l0 (ji7))))))) : Int).toNat).drop ((ji14) : Int).toNat).length < 140737488355328 then (if x4_1.length < 5864062014805 then (spec_l3Records.l0 kj9 l0 (x4_1 ++ [(y161 ++ ((l0.take ((wrap64 ((ji14) + (wrap64 ((wrap64 ((wrap64 (rd l0 x5_1)) * 256)) + (wrap64 (rd l0 (ji7))))))) : Int).toNat).drop ((ji14) : Int).toNat))]) (wrap64 ((ji14) + (wrap64 ((wrap64 ((wrap64 (rd l0 x5_1)) * 256)) + (wrap64 (rd l0 (ji7)))))))) else (none)) else (none))) else (some (x4_1, x5_1))) else (none)) else (none)) else (none)) else (none)) = some (r1, r2) := by first | (rw [hji19] at H; exact H) | (simp only [hji19] at H ⊢; exact H)
              (try rw [hji19] at A18)
              have hji19w : (IntKind.i64.wrap (x5_1 + 2)) = ji19 := (i64_w _).trans hji19
              by_cases c20 : 0 ≤ (ji19)
              ·rw [if_pos c20] at H
               have c20b0 := decide_eq_true c20
               clear c20
               by_cases c21 : (ji19) < (l0.length : Int)
               ·rw [if_pos c21] at H
                have c21b0 := decide_eq_true c21
                clear c21
                obtain ⟨ji22, hji22⟩ : ∃ j_ : Int, (wrap64 (x5_1 + 3)) = j_ := ⟨_, rfl⟩
                replace H : (if 0 ≤ (ji22) then (if (ji22) < (l0.length : Int) then (if t158 = (wrap64 ((wrap64 ((wrap64 (rd l0 (ji19))) * 256)) + (wrap64 (rd l0 (ji22))))) then ((some (([] : List Int) : List Int)).bind fun y161 => (if y161.length + ((l0.take ((wrap64 ((ji14) + (wrap64 ((wrap64 ((wrap64 (rd l0 x5_1)) * 256)) + (wrap64 (rd l0 (ji7))))))) : Int).toNat).drop ((ji14) : Int).toNat).length < 140737488355328 then (if x4_1.length < 5864062014805 then (spec_l3Records.l0 kj9 l0 (x4_1 ++ [(y161 ++ ((l0.take ((wrap64 ((ji14) + (wrap64 ((wrap64 ((wrap64 (rd l0 x5_1)) * 256)) + (wrap64 (rd l0 (ji7))))))) : Int).toNat).drop ((ji14) : Int).toNat))]) (wrap64 ((ji14) + (wrap64 ((wrap64 ((wrap64 (rd l0 x5_1)) * 256)) + (wrap64 (rd l0 (ji7)))))))) else (none)) else (none))) else (some (x4_1, x5_1))) else (none)) else (none)) = some (r1, r2) := by first | (rw [hji22] at H; exact H) | (simp only [hji22] at H ⊢; exact H)
                (try rw [hji22] at A18)
                have hji22w : (IntKind.i64.wrap (x5_1 + 3)) = ji22 := (i64_w _).trans hji22
                by_cases c23 : 0 ≤ (ji22)
                ·rw [if_pos c23] at H
                 have c23b0 := decide_eq_true c23
                 clear c23
                 by_cases c24 : (ji22) < (l0.length : Int)
                 ·rw [if_pos c24] at H
                  have c24b0 := decide_eq_true c24
                  clear c24
                  by_cases c25 : t158 = (wrap64 ((wrap64 ((wrap64 (rd l0 (ji19))) * 256)) + (wrap64 (rd l0 (ji22)))))
                  ·rw [if_pos c25] at H
                   have c25b0 : (t158 == (wrap64 ((wrap64 ((wrap64 (rd l0 (ji19))) * 256)) + (wrap64 (rd l0 (ji22)))))) = true := beq_iff_eq.mpr c25
                   have c25b1 : (t158 != (wrap64 ((wrap64 ((wrap64 (rd l0 (ji19))) * 256)) + (wrap64 (rd l0 (ji22)))))) = false := bne_eq_false_iff_eq.mpr c25
                   clear c25
                   obtain ⟨y161, hy161⟩ : ∃ y_ : List Int, y_ = (([] : List Int)) := ⟨_, rfl⟩
                   replace H : (if y161.length + ((l0.take ((wrap64 ((ji14) + (wrap64 ((wrap64 ((wrap64 (rd l0 x5_1)) * 256)) + (wrap64 (rd l0 (ji7))))))) : Int).toNat).drop ((ji14) : Int).toNat).length < 140737488355328 then (if x4_1.length < 5864062014805 then (spec_l3Records.l0 kj9 l0 (x4_1 ++ [(y161 ++ ((l0.take ((wrap64 ((ji14) + (wrap64 ((wrap64 ((wrap64 (rd l0 x5_1)) * 256)) + (wrap64 (rd l0 (ji7))))))) : Int).toNat).drop ((ji14) : Int).toNat))]) (wrap64 ((ji14) + (wrap64 ((wrap64 ((wrap64 (rd l0 x5_1)) * 256)) + (wrap64 (rd l0 (ji7)))))))) else (none)) else (none)) = some (r1, r2) := q_h hy161 H
                   have Ny161 := Aside0.mk hy161
                   clear hy161
                   by_cases c26 : y161.length + ((l0.take ((wrap64 ((ji14) + (wrap64 ((wrap64 ((wrap64 (rd l0 x5_1)) * 256)) + (wrap64 (rd l0 (ji7))))))) : Int).toNat).drop ((ji14) : Int).toNat).length < 140737488355328
                   ·rw [if_pos c26] at H
                    have LMc26 := Aside0.mk c26
                    clear c26
                    obtain ⟨y164, hy164⟩ : ∃ y_ : List Int, y_ = (y161 ++ ((l0.take ((wrap64 ((ji14) + (wrap64 ((wrap64 ((wrap64 (rd l0 x5_1)) * 256)) + (wrap64 (rd l0 (ji7))))))) : Int).toNat).drop ((ji14) : Int).toNat)) := ⟨_, rfl⟩
                    replace H : (if x4_1.length < 5864062014805 then (spec_l3Records.l0 kj9 l0 (x4_1 ++ [y164]) (wrap64 ((ji14) + (wrap64 ((wrap64 ((wrap64 (rd l0 x5_1)) * 256)) + (wrap64 (rd l0 (ji7)))))))) else (none)) = some (r1, r2) := q_h hy164 H
                    have Ny164 := Aside0.mk hy164
                    clear hy164
                    by_cases c27 : x4_1.length < 5864062014805
                    ·rw [if_pos c27] at H
                     have LMc27 := Aside0.mk c27
                     clear c27
                     obtain ⟨y167, hy167⟩ : ∃ y_ : List (List Int), y_ = (x4_1 ++ [y164]) := ⟨_, rfl⟩
                     replace H : (spec_l3Records.l0 kj9 l0 y167 (wrap64 ((ji14) + (wrap64 ((wrap64 ((wrap64 (rd l0 x5_1)) * 256)) + (wrap64 (rd l0 (ji7)))))))) = some (r1, r2) := q_h hy167 H
                     have Ny167 := Aside0.mk hy167
                     clear hy167
                     have H' := Aside0.mk H
                     clear H
                     obtain ⟨i028, hi028, _, hsz28, _⟩ := info_parts info5
                     obtain ⟨A28, hcut28, hA28, hC28⟩ := print_mid_of (P := Try.prog) (Value.int .u8) 0 22 5 .i64 .i64 Try.underlying22 hi028 hsz28 (some ad155) c0 l0 (ji14) (wrap64 ((ji14) + (wrap64 ((wrap64 ((wrap64 (rd l0 x5_1)) * 256)) + (wrap64 (rd l0 (ji7))))))) q_d (by first | omega | exact q_d) q_d HC0.out
                     have HR157 := Aside0.mk (Kd.C_of_reads (h1 := fun _ => rfl) (hA28 _ (Kd.reads_of_C HR0.out)))
                     have HC157 := Aside0.mk hC28
                     clear hA28 hC28 hi028 hsz28
                     go_wp2_with (first | (go_at_call 78; (refine calls_of_args (args' := #[.slice _ ((l0.take ((wrap64 ((ji14) + (wrap64 ((wrap64 ((wrap64 (rd l0 x5_1)) * 256)) + (wrap64 (rd l0 (ji7))))))) : Int).toNat).drop ((ji14) : Int).toNat).length _]) (by simp only [List.length_drop, List.length_take]; rw [Nat.min_eq_left (by have h_ : ((wrap64 ((ji14) + (wrap64 ((wrap64 ((wrap64 (rd l0 x5_1)) * 256)) + (wrap64 (rd l0 (ji7))))))) : Int) ≤ (l0.length : Int) := q_d; omega)]) ?_); (with_reducible refine (spec_CheckOf.calls kj9 _ _ ((l0.take ((wrap64 ((ji14) + (wrap64 ((wrap64 ((wrap64 (rd l0 x5_1)) * 256)) + (wrap64 (rd l0 (ji7))))))) : Int).toNat).drop ((ji14) : Int).toNat) t158 _ ?side1 ?side2 A18.out).mono ?_); (case side1 => exact q_c ((Kd.C_below HR157.out HB.out))); (case side2 => exact HC157.out); rintro e w' ⟨rfl, ⟨nd, rfl⟩⟩; (try first | exact ⟨rfl, _, World.drewN_drewN _ _ _⟩ | exact ⟨rfl, _, Eq.trans (World.drewN_drewN _ _ _) (congrArg (World.drewN _) (Nat.add_assoc _ _ _))⟩); have p159 : 0 ≤ ((ji19) : Int) := q_d; have q159 : (ji19) < (l0.length : Int) := q_d; obtain ⟨ad159, e159, hx159_0⟩ := Kd.at_int HR0.out (ji19) p159 q159; obtain rfl : ad155 = ad159 := (by injection e159); replace hx159_0 := q_x HB.out hx159_0; replace p159 := eq_true p159; replace q159 := eq_true q159; have p160 : 0 ≤ ((ji22) : Int) := q_d; have q160 : (ji22) < (l0.length : Int) := q_d; obtain ⟨ad160, e160, hx160_0⟩ := Kd.at_int HR0.out (ji22) p160 q160; obtain rfl : ad155 = ad160 := (by injection e160); replace hx160_0 := q_x HB.out hx160_0; replace p160 := eq_true p160; replace q160 := eq_true q160) | ((with_reducible refine gate_dst (N := 68) rfl ?_); (try (refine gate_guard (by rfl) ?_; dsimp only)); refine Kd.R_lit (Kd.int .u8) _ 5 ?hg (N := 68) ?hd (xs := ([] : List Int)) (inner := []) (ok := fun _ => True) (okp := fun _ => True) ?hr ?hp (fun _ hk => hk) trivial (Below.refl _ _) (Nat.le_refl _) (by simp) ?_; (case hd => rfl); (case hg => rfl); (case hr => first | (go_simp; done) | (go_simp; rfl)); (case hp => exact (Reps.none _ _)); intro v162 w29 ho30 hb hg_ hnew_; clear hg_ hnew_; (first | rw [← Ny161.out] at ho30 | (simp only [Int.reduceToNat] at ho30; rw [← Ny161.out] at ho30)); have n0_ := Aside0.mk (Kd.S_elder' (q_s (HO_4.out)) (Kd.R_base ho30) hb); have n1_ := Aside0.mk (Kd.R_lower ho30 (below_size bq)); have n2_ := Aside0.mk (below_step bq hb); revert n0_ n1_ n2_; clear HO_4 HB; intro HO_4 HO163 HB; clear hb ho30) | ((with_reducible refine gate_builtin (b := .append) (xs := #[.tmp 68, .tmp 69]) rfl ?_); (try (refine gate_guard (by rfl) ?_; dsimp only)); at_builtin; refine Kd.R_append_rows (Kd.int .u8) (w0 := w) w.heap.size rfl (.tmp 68) (.tmp 69) 22 5 (.int .u8 0) 1 rfl Try.underlying22 info5 rfl (by decide) (by omega) v162 y161 ((l0.take ((wrap64 ((ji14) + (wrap64 ((wrap64 ((wrap64 (rd l0 x5_1)) * 256)) + (wrap64 (rd l0 (ji7))))))) : Int).toNat).drop ((ji14) : Int).toNat) _ _ _ (fun _ => True) (fun _ => False) rfl rfl ?aO ?aR (fun _ _ h => h) (fun _ h => h.elim) ?aF ?aB ?aS ?aL ?_; (case aR => first | (have hz_ := (Kd.C_below HR157.out HB.out); rw [show ((l0.take ((wrap64 ((ji14) + (wrap64 ((wrap64 ((wrap64 (rd l0 x5_1)) * 256)) + (wrap64 (rd l0 (ji7))))))) : Int).toNat).drop ((ji14) : Int).toNat).length = ((wrap64 ((ji14) + (wrap64 ((wrap64 ((wrap64 (rd l0 x5_1)) * 256)) + (wrap64 (rd l0 (ji7))))))).toNat - (ji14).toNat) from (by rw [List.length_drop, List.length_take]; have h_ : ((wrap64 ((ji14) + (wrap64 ((wrap64 ((wrap64 (rd l0 x5_1)) * 256)) + (wrap64 (rd l0 (ji7))))))) : Int) ≤ (l0.length : Int) := q_d; omega)] at hz_; exact hz_) | (rw [← show ((l0.take ((wrap64 ((ji14) + (wrap64 ((wrap64 ((wrap64 (rd l0 x5_1)) * 256)) + (wrap64 (rd l0 (ji7))))))) : Int).toNat).drop ((ji14) : Int).toNat).length = ((wrap64 ((ji14) + (wrap64 ((wrap64 ((wrap64 (rd l0 x5_1)) * 256)) + (wrap64 (rd l0 (ji7))))))).toNat - (ji14).toNat) from (by rw [List.length_drop, List.length_take]; have h_ : ((wrap64 ((ji14) + (wrap64 ((wrap64 ((wrap64 (rd l0 x5_1)) * 256)) + (wrap64 (rd l0 (ji7))))))) : Int) ≤ (l0.length : Int) := q_d; omega)]; repeat (first | exact (Kd.C_below HR157.out HB.out) | (with_reducible refine Kd.C_alloc ?_ _) | (with_reducible refine Kd.C_drewN ?_ _) | (with_reducible refine Kd.C_drew ?_))) | (repeat (first | exact (Kd.C_below HR157.out HB.out) | (with_reducible refine Kd.C_alloc ?_ _) | (with_reducible refine Kd.C_drewN ?_ _) | (with_reducible refine Kd.C_drew ?_)))); (case aB => exact bq); (case aF => exact (fun _ _ => trivial)); (case aO => exact (q_r (HO163.out))); (case aS => exact (below_size bq)); (case aL => have := LMc26.out; have hlx_ := (show ((l0.take ((wrap64 ((ji14) + (wrap64 ((wrap64 ((wrap64 (rd l0 x5_1)) * 256)) + (wrap64 (rd l0 (ji7))))))) : Int).toNat).drop ((ji14) : Int).toNat).length = ((wrap64 ((ji14) + (wrap64 ((wrap64 ((wrap64 (rd l0 x5_1)) * 256)) + (wrap64 (rd l0 (ji7))))))).toNat - (ji14).toNat) from (by rw [List.length_drop, List.length_take]; have h_ : ((wrap64 ((ji14) + (wrap64 ((wrap64 ((wrap64 (rd l0 x5_1)) * 256)) + (wrap64 (rd l0 (ji7))))))) : Int) ≤ (l0.length : Int) := q_d; omega)); omega); intro v165 w31 ho hb hg hat; rw [← Ny164.out] at ho; have n0_ := Aside0.mk (Kd.S_after (ok := (fun _ => True)) (q_s (HO_4.out)) hg hat); have n1_ := Aside0.mk (hb); have n2_ := Aside0.mk (ho); revert n0_ n1_ n2_; clear HO_4 HB HO163; intro HO_4 HB HO166; clear ho hb hg hat; obtain ⟨Ao33, co33, eo33⟩ := Kd.R_slice HO166.out; subst eo33) | ((with_reducible refine gate_builtin (b := .append) (xs := #[.tmp 67, .tmp 71]) rfl ?_); (try (refine gate_guard (by rfl) ?_; dsimp only)); at_builtin; refine Kd.S_append (Kd.slice 5 (Kd.int .u8)) (w0 := w) w.heap.size rfl (.tmp 67) (.tmp 71) 40 22 (.slice none 0 0) 24 rfl Try.underlying40 info22 rfl (by decide) (by omega) u4 x4_1 y164 [.slice Ao33 y164.length co33] (fun _ => True) (fun k_ => some k_ = (.slice Ao33 y164.length co33 : Value).ownBlock) rfl rfl ?aP (fun k_ hk_ => ((Kd.R_mono (ok' := fun k_ => ((fun _ => True)) k_ ∧ some k_ ≠ (u4 : Value).ownBlock) (Kd.R_apart' (HO166.out) (Kd.S_typed HO_4.out) (by decide)) (fun k_ hk => ⟨trivial, hk.2⟩))).1 k_ hk_.symm) ?aF ?aO ?aB ?aS ?aL ?_; (case aP => exact Kd.M_row (Kd.R_mono (Kd.R_tight rfl (Kd.R_mono (ok' := fun k_ => ((fun _ => True)) k_ ∧ some k_ ≠ (u4 : Value).ownBlock) (Kd.R_apart' (HO166.out) (Kd.S_typed HO_4.out) (by decide)) (fun k_ hk => ⟨trivial, hk.2⟩))) (fun _ h_ => h_))); (case aB => exact bq); (case aF => exact (fun _ _ => trivial)); (case aO => exact (by (with_reducible repeat (first | apply Kd.S_alloc | apply Kd.S_drewN | apply Kd.S_drew)); exact Kd.S_mono HO_4.out (fun k_ hk => ⟨trivial, fun e_ => hk.2 e_⟩))); (case aS => exact (below_size bq)); (case aL => have := LMc27.out; omega); intro v168 w32 ho hb hg hat; rw [← Ny167.out] at ho; have n0_ := Aside0.mk (hb); have n1_ := Aside0.mk (ho); revert n0_ n1_; clear HB HO_4 HO166; intro HB HO169; clear ho hb hg hat))
                     repeat (go_quiet (first | (go_at_call 78; (refine calls_of_args (args' := #[.slice _ ((l0.take ((wrap64 ((ji14) + (wrap64 ((wrap64 ((wrap64 (rd l0 x5_1)) * 256)) + (wrap64 (rd l0 (ji7))))))) : Int).toNat).drop ((ji14) : Int).toNat).length _]) (by simp only [List.length_drop, List.length_take]; rw [Nat.min_eq_left (by have h_ : ((wrap64 ((ji14) + (wrap64 ((wrap64 ((wrap64 (rd l0 x5_1)) * 256)) + (wrap64 (rd l0 (ji7))))))) : Int) ≤ (l0.length : Int) := q_d; omega)]) ?_); (with_reducible refine (spec_CheckOf.calls kj9 _ _ ((l0.take ((wrap64 ((ji14) + (wrap64 ((wrap64 ((wrap64 (rd l0 x5_1)) * 256)) + (wrap64 (rd l0 (ji7))))))) : Int).toNat).drop ((ji14) : Int).toNat) t158 _ ?side1 ?side2 A18.out).mono ?_); (case side1 => exact q_c ((Kd.C_below HR157.out HB.out))); (case side2 => exact HC157.out); rintro e w' ⟨rfl, ⟨nd, rfl⟩⟩; (try first | exact ⟨rfl, _, World.drewN_drewN _ _ _⟩ | exact ⟨rfl, _, Eq.trans (World.drewN_drewN _ _ _) (congrArg (World.drewN _) (Nat.add_assoc _ _ _))⟩); have p159 : 0 ≤ ((ji19) : Int) := q_d; have q159 : (ji19) < (l0.length : Int) := q_d; obtain ⟨ad159, e159, hx159_0⟩ := Kd.at_int HR0.out (ji19) p159 q159; obtain rfl : ad155 = ad159 := (by injection e159); replace hx159_0 := q_x HB.out hx159_0; replace p159 := eq_true p159; replace q159 := eq_true q159; have p160 : 0 ≤ ((ji22) : Int) := q_d; have q160 : (ji22) < (l0.length : Int) := q_d; obtain ⟨ad160, e160, hx160_0⟩ := Kd.at_int HR0.out (ji22) p160 q160; obtain rfl : ad155 = ad160 := (by injection e160); replace hx160_0 := q_x HB.out hx160_0; replace p160 := eq_true p160; replace q160 := eq_true q160) | ((with_reducible refine gate_dst (N := 68) rfl ?_); (try (refine gate_guard (by rfl) ?_; dsimp only)); refine Kd.R_lit (Kd.int .u8) _ 5 ?hg (N := 68) ?hd (xs := ([] : List Int)) (inner := []) (ok := fun _ => True) (okp := fun _ => True) ?hr ?hp (fun _ hk => hk) trivial (Below.refl _ _) (Nat.le_refl _) (by simp) ?_; (case hd => rfl); (case hg => rfl); (case hr => first | (go_simp; done) | (go_simp; rfl)); (case hp => exact (Reps.none _ _)); intro v162 w29 ho30 hb hg_ hnew_; clear hg_ hnew_; (first | rw [← Ny161.out] at ho30 | (simp only [Int.reduceToNat] at ho30; rw [← Ny161.out] at ho30)); have n0_ := Aside0.mk (Kd.S_elder' (q_s (HO_4.out)) (Kd.R_base ho30) hb); have n1_ := Aside0.mk (Kd.R_lower ho30 (below_size bq)); have n2_ := Aside0.mk (below_step bq hb); revert n0_ n1_ n2_; clear HO_4 HB; intro HO_4 HO163 HB; clear hb ho30) | ((with_reducible refine gate_builtin (b := .append) (xs := #[.tmp 68, .tmp 69]) rfl ?_); (try (refine gate_guard (by rfl) ?_; dsimp only)); at_builtin; refine Kd.R_append_rows (Kd.int .u8) (w0 := w) w.heap.size rfl (.tmp 68) (.tmp 69) 22 5 (.int .u8 0) 1 rfl Try.underlying22 info5 rfl (by decide) (by omega) v162 y161 ((l0.take ((wrap64 ((ji14) + (wrap64 ((wrap64 ((wrap64 (rd l0 x5_1)) * 256)) + (wrap64 (rd l0 (ji7))))))) : Int).toNat).drop ((ji14) : Int).toNat) _ _ _ (fun _ => True) (fun _ => False) rfl rfl ?aO ?aR (fun _ _ h => h) (fun _ h => h.elim) ?aF ?aB ?aS ?aL ?_; (case aR => first | (have hz_ := (Kd.C_below HR157.out HB.out); rw [show ((l0.take ((wrap64 ((ji14) + (wrap64 ((wrap64 ((wrap64 (rd l0 x5_1)) * 256)) + (wrap64 (rd l0 (ji7))))))) : Int).toNat).drop ((ji14) : Int).toNat).length = ((wrap64 ((ji14) + (wrap64 ((wrap64 ((wrap64 (rd l0 x5_1)) * 256)) + (wrap64 (rd l0 (ji7))))))).toNat - (ji14).toNat) from (by rw [List.length_drop, List.length_take]; have h_ : ((wrap64 ((ji14) + (wrap64 ((wrap64 ((wrap64 (rd l0 x5_1)) * 256)) + (wrap64 (rd l0 (ji7))))))) : Int) ≤ (l0.length : Int) := q_d; omega)] at hz_; exact hz_) | (rw [← show ((l0.take ((wrap64 ((ji14) + (wrap64 ((wrap64 ((wrap64 (rd l0 x5_1)) * 256)) + (wrap64 (rd l0 (ji7))))))) : Int).toNat).drop ((ji14) : Int).toNat).length = ((wrap64 ((ji14) + (wrap64 ((wrap64 ((wrap64 (rd l0 x5_1)) * 256)) + (wrap64 (rd l0 (ji7))))))).toNat - (ji14).toNat) from (by rw [List.length_drop, List.length_take]; have h_ : ((wrap64 ((ji14) + (wrap64 ((wrap64 ((wrap64 (rd l0 x5_1)) * 256)) + (wrap64 (rd l0 (ji7))))))) : Int) ≤ (l0.length : Int) := q_d; omega)]; repeat (first | exact (Kd.C_below HR157.out HB.out) | (with_reducible refine Kd.C_alloc ?_ _) | (with_reducible refine Kd.C_drewN ?_ _) | (with_reducible refine Kd.C_drew ?_))) | (repeat (first | exact (Kd.C_below HR157.out HB.out) | (with_reducible refine Kd.C_alloc ?_ _) | (with_reducible refine Kd.C_drewN ?_ _) | (with_reducible refine Kd.C_drew ?_)))); (case aB => exact bq); (case aF => exact (fun _ _ => trivial)); (case aO => exact (q_r (HO163.out))); (case aS => exact (below_size bq)); (case aL => have := LMc26.out; have hlx_ := (show ((l0.take ((wrap64 ((ji14) + (wrap64 ((wrap64 ((wrap64 (rd l0 x5_1)) * 256)) + (wrap64 (rd l0 (ji7))))))) : Int).toNat).drop ((ji14) : Int).toNat).length = ((wrap64 ((ji14) + (wrap64 ((wrap64 ((wrap64 (rd l0 x5_1)) * 256)) + (wrap64 (rd l0 (ji7))))))).toNat - (ji14).toNat) from (by rw [List.length_drop, List.length_take]; have h_ : ((wrap64 ((ji14) + (wrap64 ((wrap64 ((wrap64 (rd l0 x5_1)) * 256)) + (wrap64 (rd l0 (ji7))))))) : Int) ≤ (l0.length : Int) := q_d; omega)); omega); intro v165 w31 ho hb hg hat; rw [← Ny164.out] at ho; have n0_ := Aside0.mk (Kd.S_after (ok := (fun _ => True)) (q_s (HO_4.out)) hg hat); have n1_ := Aside0.mk (hb); have n2_ := Aside0.mk (ho); revert n0_ n1_ n2_; clear HO_4 HB HO163; intro HO_4 HB HO166; clear ho hb hg hat; obtain ⟨Ao33, co33, eo33⟩ := Kd.R_slice HO166.out; subst eo33) | ((with_reducible refine gate_builtin (b := .append) (xs := #[.tmp 67, .tmp 71]) rfl ?_); (try (refine gate_guard (by rfl) ?_; dsimp only)); at_builtin; refine Kd.S_append (Kd.slice 5 (Kd.int .u8)) (w0 := w) w.heap.size rfl (.tmp 67) (.tmp 71) 40 22 (.slice none 0 0) 24 rfl Try.underlying40 info22 rfl (by decide) (by omega) u4 x4_1 y164 [.slice Ao33 y164.length co33] (fun _ => True) (fun k_ => some k_ = (.slice Ao33 y164.length co33 : Value).ownBlock) rfl rfl ?aP (fun k_ hk_ => ((Kd.R_mono (ok' := fun k_ => ((fun _ => True)) k_ ∧ some k_ ≠ (u4 : Value).ownBlock) (Kd.R_apart' (HO166.out) (Kd.S_typed HO_4.out) (by decide)) (fun k_ hk => ⟨trivial, hk.2⟩))).1 k_ hk_.symm) ?aF ?aO ?aB ?aS ?aL ?_; (case aP => exact Kd.M_row (Kd.R_mono (Kd.R_tight rfl (Kd.R_mono (ok' := fun k_ => ((fun _ => True)) k_ ∧ some k_ ≠ (u4 : Value).ownBlock) (Kd.R_apart' (HO166.out) (Kd.S_typed HO_4.out) (by decide)) (fun k_ hk => ⟨trivial, hk.2⟩))) (fun _ h_ => h_))); (case aB => exact bq); (case aF => exact (fun _ _ => trivial)); (case aO => exact (by (with_reducible repeat (first | apply Kd.S_alloc | apply Kd.S_drewN | apply Kd.S_drew)); exact Kd.S_mono HO_4.out (fun k_ hk => ⟨trivial, fun e_ => hk.2 e_⟩))); (case aS => exact (below_size bq)); (case aL => have := LMc27.out; omega); intro v168 w32 ho hb hg hat; rw [← Ny167.out] at ho; have n0_ := Aside0.mk (hb); have n1_ := Aside0.mk (ho); revert n0_ n1_; clear HB HO_4 HO166; intro HB HO169; clear ho hb hg hat)); (try simp only [i64_w]); try go_wp2_with (first | (go_at_call 78; (refine calls_of_args (args' := #[.slice _ ((l0.take ((wrap64 ((ji14) + (wrap64 ((wrap64 ((wrap64 (rd l0 x5_1)) * 256)) + (wrap64 (rd l0 (ji7))))))) : Int).toNat).drop ((ji14) : Int).toNat).length _]) (by simp only [List.length_drop, List.length_take]; rw [Nat.min_eq_left (by have h_ : ((wrap64 ((ji14) + (wrap64 ((wrap64 ((wrap64 (rd l0 x5_1)) * 256)) + (wrap64 (rd l0 (ji7))))))) : Int) ≤ (l0.length : Int) := q_d; omega)]) ?_); (with_reducible refine (spec_CheckOf.calls kj9 _ _ ((l0.take ((wrap64 ((ji14) + (wrap64 ((wrap64 ((wrap64 (rd l0 x5_1)) * 256)) + (wrap64 (rd l0 (ji7))))))) : Int).toNat).drop ((ji14) : Int).toNat) t158 _ ?side1 ?side2 A18.out).mono ?_); (case side1 => exact q_c ((Kd.C_below HR157.out HB.out))); (case side2 => exact HC157.out); rintro e w' ⟨rfl, ⟨nd, rfl⟩⟩; (try first | exact ⟨rfl, _, World.drewN_drewN _ _ _⟩ | exact ⟨rfl, _, Eq.trans (World.drewN_drewN _ _ _) (congrArg (World.drewN _) (Nat.add_assoc _ _ _))⟩); have p159 : 0 ≤ ((ji19) : Int) := q_d; have q159 : (ji19) < (l0.length : Int) := q_d; obtain ⟨ad159, e159, hx159_0⟩ := Kd.at_int HR0.out (ji19) p159 q159; obtain rfl : ad155 = ad159 := (by injection e159); replace hx159_0 := q_x HB.out hx159_0; replace p159 := eq_true p159; replace q159 := eq_true q159; have p160 : 0 ≤ ((ji22) : Int) := q_d; have q160 : (ji22) < (l0.length : Int) := q_d; obtain ⟨ad160, e160, hx160_0⟩ := Kd.at_int HR0.out (ji22) p160 q160; obtain rfl : ad155 = ad160 := (by injection e160); replace hx160_0 := q_x HB.out hx160_0; replace p160 := eq_true p160; replace q160 := eq_true q160) | ((with_reducible refine gate_dst (N := 68) rfl ?_); (try (refine gate_guard (by rfl) ?_; dsimp only)); refine Kd.R_lit (Kd.int .u8) _ 5 ?hg (N := 68) ?hd (xs := ([] : List Int)) (inner := []) (ok := fun _ => True) (okp := fun _ => True) ?hr ?hp (fun _ hk => hk) trivial (Below.refl _ _) (Nat.le_refl _) (by simp) ?_; (case hd => rfl); (case hg => rfl); (case hr => first | (go_simp; done) | (go_simp; rfl)); (case hp => exact (Reps.none _ _)); intro v162 w29 ho30 hb hg_ hnew_; clear hg_ hnew_; (first | rw [← Ny161.out] at ho30 | (simp only [Int.reduceToNat] at ho30; rw [← Ny161.out] at ho30)); have n0_ := Aside0.mk (Kd.S_elder' (q_s (HO_4.out)) (Kd.R_base ho30) hb); have n1_ := Aside0.mk (Kd.R_lower ho30 (below_size bq)); have n2_ := Aside0.mk (below_step bq hb); revert n0_ n1_ n2_; clear HO_4 HB; intro HO_4 HO163 HB; clear hb ho30) | ((with_reducible refine gate_builtin (b := .append) (xs := #[.tmp 68, .tmp 69]) rfl ?_); (try (refine gate_guard (by rfl) ?_; dsimp only)); at_builtin; refine Kd.R_append_rows (Kd.int .u8) (w0 := w) w.heap.size rfl (.tmp 68) (.tmp 69) 22 5 (.int .u8 0) 1 rfl Try.underlying22 info5 rfl (by decide) (by omega) v162 y161 ((l0.take ((wrap64 ((ji14) + (wrap64 ((wrap64 ((wrap64 (rd l0 x5_1)) * 256)) + (wrap64 (rd l0 (ji7))))))) : Int).toNat).drop ((ji14) : Int).toNat) _ _ _ (fun _ => True) (fun _ => False) rfl rfl ?aO ?aR (fun _ _ h => h) (fun _ h => h.elim) ?aF ?aB ?aS ?aL ?_; (case aR => first | (have hz_ := (Kd.C_below HR157.out HB.out); rw [show ((l0.take ((wrap64 ((ji14) + (wrap64 ((wrap64 ((wrap64 (rd l0 x5_1)) * 256)) + (wrap64 (rd l0 (ji7))))))) : Int).toNat).drop ((ji14) : Int).toNat).length = ((wrap64 ((ji14) + (wrap64 ((wrap64 ((wrap64 (rd l0 x5_1)) * 256)) + (wrap64 (rd l0 (ji7))))))).toNat - (ji14).toNat) from (by rw [List.length_drop, List.length_take]; have h_ : ((wrap64 ((ji14) + (wrap64 ((wrap64 ((wrap64 (rd l0 x5_1)) * 256)) + (wrap64 (rd l0 (ji7))))))) : Int) ≤ (l0.length : Int) := q_d; omega)] at hz_; exact hz_) | (rw [← show ((l0.take ((wrap64 ((ji14) + (wrap64 ((wrap64 ((wrap64 (rd l0 x5_1)) * 256)) + (wrap64 (rd l0 (ji7))))))) : Int).toNat).drop ((ji14) : Int).toNat).length = ((wrap64 ((ji14) + (wrap64 ((wrap64 ((wrap64 (rd l0 x5_1)) * 256)) + (wrap64 (rd l0 (ji7))))))).toNat - (ji14).toNat) from (by rw [List.length_drop, List.length_take]; have h_ : ((wrap64 ((ji14) + (wrap64 ((wrap64 ((wrap64 (rd l0 x5_1)) * 256)) + (wrap64 (rd l0 (ji7))))))) : Int) ≤ (l0.length : Int) := q_d; omega)]; repeat (first | exact (Kd.C_below HR157.out HB.out) | (with_reducible refine Kd.C_alloc ?_ _) | (with_reducible refine Kd.C_drewN ?_ _) | (with_reducible refine Kd.C_drew ?_))) | (repeat (first | exact (Kd.C_below HR157.out HB.out) | (with_reducible refine Kd.C_alloc ?_ _) | (with_reducible refine Kd.C_drewN ?_ _) | (with_reducible refine Kd.C_drew ?_)))); (case aB => exact bq); (case aF => exact (fun _ _ => trivial)); (case aO => exact (q_r (HO163.out))); (case aS => exact (below_size bq)); (case aL => have := LMc26.out; have hlx_ := (show ((l0.take ((wrap64 ((ji14) + (wrap64 ((wrap64 ((wrap64 (rd l0 x5_1)) * 256)) + (wrap64 (rd l0 (ji7))))))) : Int).toNat).drop ((ji14) : Int).toNat).length = ((wrap64 ((ji14) + (wrap64 ((wrap64 ((wrap64 (rd l0 x5_1)) * 256)) + (wrap64 (rd l0 (ji7))))))).toNat - (ji14).toNat) from (by rw [List.length_drop, List.length_take]; have h_ : ((wrap64 ((ji14) + (wrap64 ((wrap64 ((wrap64 (rd l0 x5_1)) * 256)) + (wrap64 (rd l0 (ji7))))))) : Int) ≤ (l0.length : Int) := q_d; omega)); omega); intro v165 w31 ho hb hg hat; rw [← Ny164.out] at ho; have n0_ := Aside0.mk (Kd.S_after (ok := (fun _ => True)) (q_s (HO_4.out)) hg hat); have n1_ := Aside0.mk (hb); have n2_ := Aside0.mk (ho); revert n0_ n1_ n2_; clear HO_4 HB HO163; intro HO_4 HB HO166; clear ho hb hg hat; obtain ⟨Ao33, co33, eo33⟩ := Kd.R_slice HO166.out; subst eo33) | ((with_reducible refine gate_builtin (b := .append) (xs := #[.tmp 67, .tmp 71]) rfl ?_); (try (refine gate_guard (by rfl) ?_; dsimp only)); at_builtin; refine Kd.S_append (Kd.slice 5 (Kd.int .u8)) (w0 := w) w.heap.size rfl (.tmp 67) (.tmp 71) 40 22 (.slice none 0 0) 24 rfl Try.underlying40 info22 rfl (by decide) (by omega) u4 x4_1 y164 [.slice Ao33 y164.length co33] (fun _ => True) (fun k_ => some k_ = (.slice Ao33 y164.length co33 : Value).ownBlock) rfl rfl ?aP (fun k_ hk_ => ((Kd.R_mono (ok' := fun k_ => ((fun _ => True)) k_ ∧ some k_ ≠ (u4 : Value).ownBlock) (Kd.R_apart' (HO166.out) (Kd.S_typed HO_4.out) (by decide)) (fun k_ hk => ⟨trivial, hk.2⟩))).1 k_ hk_.symm) ?aF ?aO ?aB ?aS ?aL ?_; (case aP => exact Kd.M_row (Kd.R_mono (Kd.R_tight rfl (Kd.R_mono (ok' := fun k_ => ((fun _ => True)) k_ ∧ some k_ ≠ (u4 : Value).ownBlock) (Kd.R_apart' (HO166.out) (Kd.S_typed HO_4.out) (by decide)) (fun k_ hk => ⟨trivial, hk.2⟩))) (fun _ h_ => h_))); (case aB => exact bq); (case aF => exact (fun _ _ => trivial)); (case aO => exact (by (with_reducible repeat (first | apply Kd.S_alloc | apply Kd.S_drewN | apply Kd.S_drew)); exact Kd.S_mono HO_4.out (fun k_ hk => ⟨trivial, fun e_ => hk.2 e_⟩))); (case aS => exact (below_size bq)); (case aL => have := LMc27.out; omega); intro v168 w32 ho hb hg hat; rw [← Ny167.out] at ho; have n0_ := Aside0.mk (hb); have n1_ := Aside0.mk (ho); revert n0_ n1_; clear HB HO_4 HO166; intro HB HO169; clear ho hb hg hat)))
                     go_roundg kj9
                     case measure => have := HK1.out; have := HJ9.out; omega
                     case rel => exact ⟨(y167), (wrap64 ((ji14) + (wrap64 ((wrap64 ((wrap64 (rd l0 x5_1)) * 256)) + (wrap64 (rd l0 (ji7))))))), (by first | rfl | (simp; done) | (simp only [← hji7, ← hji14] <;> (first | rfl | simp)) | (simp [*]; done)), H', ⟨by have := HK1.out; have := HJ9.out; omega⟩, ⟨q_s (HO169.out)⟩, ⟨bq⟩⟩
                    ·rw [if_neg c27] at H
                     exact absurd H (by simp)
                   ·rw [if_neg c26] at H
                    exact absurd H (by simp)
                  ·rw [if_neg c25] at H
                   have c25b0 : (t158 == (wrap64 ((wrap64 ((wrap64 (rd l0 (ji19))) * 256)) + (wrap64 (rd l0 (ji22)))))) = false := beq_eq_false_iff_ne.mpr c25
                   have c25b1 : (t158 != (wrap64 ((wrap64 ((wrap64 (rd l0 (ji19))) * 256)) + (wrap64 (rd l0 (ji22)))))) = true := bne_iff_ne.mpr c25
                   simp only [Option.some.injEq, Prod.mk.injEq] at H
                   obtain ⟨rfl, rfl⟩ := H
                   obtain ⟨i034, hi034, _, hsz34, _⟩ := info_parts info5
                   obtain ⟨A34, hcut34, hA34, hC34⟩ := print_mid_of (P := Try.prog) (Value.int .u8) 0 22 5 .i64 .i64 Try.underlying22 hi034 hsz34 (some ad155) c0 l0 (ji14) (wrap64 ((ji14) + (wrap64 ((wrap64 ((wrap64 (rd l0 x5_1)) * 256)) + (wrap64 (rd l0 (ji7))))))) q_d (by first | omega | exact q_d) q_d HC0.out
                   have HR157 := Aside0.mk (Kd.C_of_reads (h1 := fun _ => rfl) (hA34 _ (Kd.reads_of_C HR0.out)))
                   have HC157 := Aside0.mk hC34
                   clear hA34 hC34 hi034 hsz34
                   go_wp2_with (first | (go_at_call 78; (refine calls_of_args (args' := #[.slice _ ((l0.take ((wrap64 ((ji14) + (wrap64 ((wrap64 ((wrap64 (rd l0 x5_1)) * 256)) + (wrap64 (rd l0 (ji7))))))) : Int).toNat).drop ((ji14) : Int).toNat).length _]) (by simp only [List.length_drop, List.length_take]; rw [Nat.min_eq_left (by have h_ : ((wrap64 ((ji14) + (wrap64 ((wrap64 ((wrap64 (rd l0 x5_1)) * 256)) + (wrap64 (rd l0 (ji7))))))) : Int) ≤ (l0.length : Int) := q_d; omega)]) ?_); (with_reducible refine (spec_CheckOf.calls kj9 _ _ ((l0.take ((wrap64 ((ji14) + (wrap64 ((wrap64 ((wrap64 (rd l0 x5_1)) * 256)) + (wrap64 (rd l0 (ji7))))))) : Int).toNat).drop ((ji14) : Int).toNat) t158 _ ?side1 ?side2 A18.out).mono ?_); (case side1 => exact q_c ((Kd.C_below HR157.out HB.out))); (case side2 => exact HC157.out); rintro e w' ⟨rfl, ⟨nd, rfl⟩⟩; (try first | exact ⟨rfl, _, World.drewN_drewN _ _ _⟩ | exact ⟨rfl, _, Eq.trans (World.drewN_drewN _ _ _) (congrArg (World.drewN _) (Nat.add_assoc _ _ _))⟩); have p159 : 0 ≤ ((ji19) : Int) := q_d; have q159 : (ji19) < (l0.length : Int) := q_d; obtain ⟨ad159, e159, hx159_0⟩ := Kd.at_int HR0.out (ji19) p159 q159; obtain rfl : ad155 = ad159 := (by injection e159); replace hx159_0 := q_x HB.out hx159_0; replace p159 := eq_true p159; replace q159 := eq_true q159; have p160 : 0 ≤ ((ji22) : Int) := q_d; have q160 : (ji22) < (l0.length : Int) := q_d; obtain ⟨ad160, e160, hx160_0⟩ := Kd.at_int HR0.out (ji22) p160 q160; obtain rfl : ad155 = ad160 := (by injection e160); replace hx160_0 := q_x HB.out hx160_0; replace p160 := eq_true p160; replace q160 := eq_true q160))
                   repeat (go_quiet (first | (go_at_call 78; (refine calls_of_args (args' := #[.slice _ ((l0.take ((wrap64 ((ji14) + (wrap64 ((wrap64 ((wrap64 (rd l0 x5_1)) * 256)) + (wrap64 (rd l0 (ji7))))))) : Int).toNat).drop ((ji14) : Int).toNat).length _]) (by simp only [List.length_drop, List.length_take]; rw [Nat.min_eq_left (by have h_ : ((wrap64 ((ji14) + (wrap64 ((wrap64 ((wrap64 (rd l0 x5_1)) * 256)) + (wrap64 (rd l0 (ji7))))))) : Int) ≤ (l0.length : Int) := q_d; omega)]) ?_); (with_reducible refine (spec_CheckOf.calls kj9 _ _ ((l0.take ((wrap64 ((ji14) + (wrap64 ((wrap64 ((wrap64 (rd l0 x5_1)) * 256)) + (wrap64 (rd l0 (ji7))))))) : Int).toNat).drop ((ji14) : Int).toNat) t158 _ ?side1 ?side2 A18.out).mono ?_); (case side1 => exact q_c ((Kd.C_below HR157.out HB.out))); (case side2 => exact HC157.out); rintro e w' ⟨rfl, ⟨nd, rfl⟩⟩; (try first | exact ⟨rfl, _, World.drewN_drewN _ _ _⟩ | exact ⟨rfl, _, Eq.trans (World.drewN_drewN _ _ _) (congrArg (World.drewN _) (Nat.add_assoc _ _ _))⟩); have p159 : 0 ≤ ((ji19) : Int) := q_d; have q159 : (ji19) < (l0.length : Int) := q_d; obtain ⟨ad159, e159, hx159_0⟩ := Kd.at_int HR0.out (ji19) p159 q159; obtain rfl : ad155 = ad159 := (by injection e159); replace hx159_0 := q_x HB.out hx159_0; replace p159 := eq_true p159; replace q159 := eq_true q159; have p160 : 0 ≤ ((ji22) : Int) := q_d; have q160 : (ji22) < (l0.length : Int) := q_d; obtain ⟨ad160, e160, hx160_0⟩ := Kd.at_int HR0.out (ji22) p160 q160; obtain rfl : ad155 = ad160 := (by injection e160); replace hx160_0 := q_x HB.out hx160_0; replace p160 := eq_true p160; replace q160 := eq_true q160)); (try simp only [i64_w]); try go_wp2_with (first | (go_at_call 78; (refine calls_of_args (args' := #[.slice _ ((l0.take ((wrap64 ((ji14) + (wrap64 ((wrap64 ((wrap64 (rd l0 x5_1)) * 256)) + (wrap64 (rd l0 (ji7))))))) : Int).toNat).drop ((ji14) : Int).toNat).length _]) (by simp only [List.length_drop, List.length_take]; rw [Nat.min_eq_left (by have h_ : ((wrap64 ((ji14) + (wrap64 ((wrap64 ((wrap64 (rd l0 x5_1)) * 256)) + (wrap64 (rd l0 (ji7))))))) : Int) ≤ (l0.length : Int) := q_d; omega)]) ?_); (with_reducible refine (spec_CheckOf.calls kj9 _ _ ((l0.take ((wrap64 ((ji14) + (wrap64 ((wrap64 ((wrap64 (rd l0 x5_1)) * 256)) + (wrap64 (rd l0 (ji7))))))) : Int).toNat).drop ((ji14) : Int).toNat) t158 _ ?side1 ?side2 A18.out).mono ?_); (case side1 => exact q_c ((Kd.C_below HR157.out HB.out))); (case side2 => exact HC157.out); rintro e w' ⟨rfl, ⟨nd, rfl⟩⟩; (try first | exact ⟨rfl, _, World.drewN_drewN _ _ _⟩ | exact ⟨rfl, _, Eq.trans (World.drewN_drewN _ _ _) (congrArg (World.drewN _) (Nat.add_assoc _ _ _))⟩); have p159 : 0 ≤ ((ji19) : Int) := q_d; have q159 : (ji19) < (l0.length : Int) := q_d; obtain ⟨ad159, e159, hx159_0⟩ := Kd.at_int HR0.out (ji19) p159 q159; obtain rfl : ad155 = ad159 := (by injection e159); replace hx159_0 := q_x HB.out hx159_0; replace p159 := eq_true p159; replace q159 := eq_true q159; have p160 : 0 ≤ ((ji22) : Int) := q_d; have q160 : (ji22) < (l0.length : Int) := q_d; obtain ⟨ad160, e160, hx160_0⟩ := Kd.at_int HR0.out (ji22) p160 q160; obtain rfl : ad155 = ad160 := (by injection e160); replace hx160_0 := q_x HB.out hx160_0; replace p160 := eq_true p160; replace q160 := eq_true q160)))
                   go_ret2
                   exact ⟨_, by first | rfl | (simp [errW_none, errW_some] <;> rfl) | (simp only [← hji7, ← hji14, ← hji19, ← hji22]; first | rfl | (simp [errW_none, errW_some] <;> rfl)) | (simp [*, errW_none, errW_some] <;> rfl), q_s (HO_4.out), bq⟩
                 ·rw [if_neg c24] at H
                  exact absurd H (by simp)
                ·rw [if_neg c23] at H
                 exact absurd H (by simp)
               ·rw [if_neg c21] at H
                exact absurd H (by simp)
              ·rw [if_neg c20] at H
               exact absurd H (by simp)
             ·rw [if_neg c17] at H
              exact absurd H (by simp)
            ·rw [if_neg c16] at H
             exact absurd H (by simp)
           ·rw [if_neg c15] at H
            exact absurd H (by simp)
       ·rw [if_neg c9] at H
        exact absurd H (by simp)
      ·rw [if_neg c8] at H
       exact absurd H (by simp)
     ·rw [if_neg c6] at H
      exact absurd H (by simp)
    ·rw [if_neg c5] at H
     exact absurd H (by simp)
   ·rw [if_neg c4] at H
    have c4b0 := decide_eq_false c4
    clear c4
    simp only [Option.some.injEq, Prod.mk.injEq] at H
    obtain ⟨rfl, rfl⟩ := H
    go_wp2
    repeat (go_quiet (fail); try go_wp2)
    go_ret2
    exact ⟨_, q_e, q_s (HO_4.out), bq⟩

end Go.Proofs.Ytcdpiejcdeedoaa.PFnExactUnframeAll
