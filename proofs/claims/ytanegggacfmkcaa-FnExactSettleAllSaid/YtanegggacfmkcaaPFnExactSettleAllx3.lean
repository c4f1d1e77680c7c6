/- Functions that a law reaches, as plain Lean functions, with the proof that the machine comes to their answers. No conditions. -/
import Derived.Test.YtanegggacfmkcaaPFnExactSettleAllx0
import Derived.Test.YtanegggacfmkcaaPFnExactSettleAllx1
import Derived.Test.YtanegggacfmkcaaPFnExactSettleAllx2
namespace Go.Proofs.Ytanegggacfmkcaa.PFnExactSettleAll
open Go.RowKit Go.Proofs.YtanegggacfmkcaaW.PrintWords Go.Proofs.YtanegggacfmkcaaW.PrintLast Go.Proofs.YtanegggacfmkcaaW.PrintMore
attribute [local go_sem] max2_int min2_int max_two min_two max_three min_three max_four min_four   -- for this text's walks alone
set_option linter.unusedVariables false
set_option linter.unusedSimpArgs false
set_option maxHeartbeats 8000000
set_option maxRecDepth 100000

/-! ### impl_copyLedger: function 60 -/
def impl_copyLedger.l0 : Nat → List (List (S104)) → Int → Int → List (List (S104)) → Option ((List (List (S104))))
  | 0, _, _, _, _ => none
  | k + 1, x8, x9, x10, x135000 => if x10 < x9 then (if 0 ≤ x10 then (if x10 < (x8.length : Int) then ((slices_Clone_impl_Balance.f (rd_L2 x8 x10)).bind fun t136 => (if x135000.length < 5864062014805 then (impl_copyLedger.l0 k x8 x9 (wrap64 (x10 + 1)) (x135000 ++ [t136])) else (none))) else (none)) else (none)) else (some x135000)
def impl_copyLedger.f (k : Nat) (l0_0 : List (List (S104))) : Option ((List (List (S104)))) := impl_copyLedger.l0 k l0_0 (l0_0.length : Int) 0 ([] : List (List (S104)))
def impl_copyLedger.T5 : Bool × List (List Nat × List Nat) := (true, [([], []), ([0], [0]), ([], []), ([2], [2]), ([3], [3]), ([1, 4, 3], [1, 4]), ([0, 1, 2, 3, 4, 5], []), ([6, 5, 5, 0, 1, 2, 3, 4, 5], [5, 6])])
def impl_copyLedger.B5 : List Nat := [0, 1, 0, 4, 12, 31, 63, 127]
theorem impl_copyLedger.tab5 : rtab .any (opsOf Try.f60 5) = impl_copyLedger.T5 := by kernel_rfl
theorem impl_copyLedger.bits5 : waitsOk impl_copyLedger.T5.2 impl_copyLedger.B5 = true := by kernel_rfl
theorem impl_copyLedger.calls (k : Nat) (A0_0 : Option Addr) (c0_0 : Nat) (l0_0 : List (List (S104))) (r : List (List (S104))) (w : World) (hr0_0 : Kd.C (Kd.slice 104 k104) w A0_0 l0_0.length l0_0) (hc0_0 : l0_0.length ≤ c0_0) (h : impl_copyLedger.f k l0_0 = some r) :
  Calls Try.prog 60 #[.agg #[.slice A0_0 l0_0.length c0_0]] w fun e w' => ∃ v0_ : Value, e = .returned (.agg #[v0_]) ∧ Kd.S (Kd.slice 104 k104) 64 w' w.heap.size (fun _ => True) v0_ r ∧ Below w.heap.size w w' := by
 have hu26 := Try.underlying26
 have HR0_0 := am hr0_0
 have HC0_0 := am hc0_0
 clear hr0_0 hc0_0
 have HB := am (Below.refl w.heap.size w)
 have H : (impl_copyLedger.l0 k l0_0 (l0_0.length : Int) 0 ([] : List (List (S104)))) = some r := h
 clear h
 have H' := am H
 clear H
 go_enter Try.func60, Try.ntmps60
 go_wp2_with (first | ((with_reducible refine gate_dst (N := 1) rfl ?_); refine q_box (N := 1) (cs := #[.slice A0_0 l0_0.length c0_0]) (t := 26) ?_; intro gb132 hg w2 hbox hb; have n0_ := am (below_step bq hb); have n1_ := am (hbox); have n2_ := am ((q_g hg bq : w.heap.size ≤ gb132)); have n3_ := n2_; revert n0_ n1_ n2_ n3_; clear HB; intro HB BK132 GW132 GE132; clear hb hbox hg) | ((with_reducible refine gate_dst (N := 2) rfl ?_); refine q_box (N := 2) (cs := #[.slice none 0 0]) (t := 26) ?_; intro gb133 hg w3 hbox hb; have n0_ := am (blk_below (q_b BK132.out) hb); have n1_ := am (below_step bq hb); have n2_ := am (hbox); have n3_ := am ((q_g hg bq : w.heap.size ≤ gb133)); have n4_ := n3_; have n5_ := am ((q_n hg (q_b BK132.out) : gb132 ≠ gb133)); have n6_ := am n5_.out.symm; revert n0_ n1_ n2_ n3_ n4_ n5_ n6_; clear BK132 HB; intro BK132 HB BK133 GW133 GE133 NB132_133 NB133_132; clear hb hbox hg) | ((with_reducible refine gate_dst (N := 3) rfl ?_); refine q_box (N := 3) (cs := #[.slice none 0 0]) (t := 26) ?_; intro gb134 hg w4 hbox hb; have n0_ := am (blk_below (q_b BK132.out) hb); have n1_ := am (blk_below (q_b BK133.out) hb); have n2_ := am (below_step bq hb); have n3_ := am (hbox); have n4_ := am ((q_g hg bq : w.heap.size ≤ gb134)); have n5_ := n4_; have n6_ := am ((q_n hg (q_b BK132.out) : gb132 ≠ gb134)); have n7_ := am n6_.out.symm; have n8_ := am ((q_n hg (q_b BK133.out) : gb133 ≠ gb134)); have n9_ := am n8_.out.symm; revert n0_ n1_ n2_ n3_ n4_ n5_ n6_ n7_ n8_ n9_; clear BK132 BK133 HB; intro BK132 BK133 HB BK134 GW134 GE134 NB132_134 NB134_132 NB133_134 NB134_133; clear hb hbox hg; have hnb5 := NB134_132.out; have hnc5 := NB132_134.out; have hnb6 := NB134_133.out; have hnc6 := NB133_134.out; obtain ⟨hcz7_0, hfz7_0⟩ := q_1 BK134.out; have hnb8 := NB132_133.out; have hnc8 := NB133_132.out; obtain ⟨hcz9_0, hfz9_0⟩ := q_1 BK132.out))
 go_loopg [10] k (fun kq v10 w' => ∃ (x10_1 : Int) (x135000_1 : List (List (S104))) (u135000 : Value), v10 = .int .i64 x10_1 ∧ Aside0 (impl_copyLedger.l0 kq l0_0 (l0_0.length : Int) x10_1 x135000_1 = some r) ∧ Aside0 (kq ≤ k) ∧ Aside0 (Kd.S (Kd.slice 104 k104) 64 w' w.heap.size (fun _ => True) u135000 x135000_1) ∧ Aside0 (w'.heap[gb132]? = some (.cells #[(.slice A0_0 l0_0.length c0_0)] 26 (0, 0))) ∧ Aside0 (w'.heap[gb133]? = some (.cells #[(.slice none 0 0)] 26 (0, 0))) ∧ Aside0 (w'.heap[gb134]? = some (.cells #[u135000] 26 (0, 0))) ∧ Aside0 (Below w.heap.size w w'))
 case atStart => exact ⟨(0), (([] : List (List (S104)))), (.slice none 0 0), q_i, H', ⟨Nat.le_refl _⟩, ⟨by first | exact Kd.S_nil _ _ _ _ _ | exact Kd.N_nil _ _ _ _ _ | exact Kd.V_nil _ _ _ _ _ | exact Kd.Q_nil _ _ _ _ _ | exact Kd.R_nil _ _ _ _ _⟩, ⟨by (with_reducible repeat (first | refine blk_drewN ?_ _ | refine blk_drew ?_ | refine blk_alloc ?_ _)); refine blk_far ?_ NB132_134.out _; (with_reducible repeat (first | refine blk_drewN ?_ _ | refine blk_drew ?_ | refine blk_alloc ?_ _)); exact BK132.out⟩, ⟨by (with_reducible repeat (first | refine blk_drewN ?_ _ | refine blk_drew ?_ | refine blk_alloc ?_ _)); refine blk_far ?_ NB133_134.out _; (with_reducible repeat (first | refine blk_drewN ?_ _ | refine blk_drew ?_ | refine blk_alloc ?_ _)); exact BK133.out⟩, ⟨by (with_reducible repeat (first | refine blk_drewN ?_ _ | refine blk_drew ?_ | refine blk_alloc ?_ _)); refine blk_put (cs := #[.slice none 0 0]) ?_ 0 _ rfl; (with_reducible repeat (first | refine blk_drewN ?_ _ | refine blk_drew ?_ | refine blk_alloc ?_ _)); exact BK134.out⟩, ⟨bq⟩⟩
 case round =>
  clear H'
  (try clear p2); (try clear c5); (try clear c6); (try clear c8); (try clear hcz7_0); (try clear hcz9_0); (try clear hfz7_0); (try clear hfz9_0)
  obtain ⟨x10_1, x135000_1, u135000, rfl, HA, HK1, HO_135000, BK132, BK133, BK134, HB⟩ := hrel
  cases gk with
  | zero => exact absurd HA.out (by simp [impl_copyLedger.l0])
  | succ k1 =>
   have H := HA.out
   clear HA
   simp only [impl_copyLedger.l0] at H
   by_cases c10 : x10_1 < (l0_0.length : Int)
   ·rw [if_pos c10] at H
    have c10b0 := decide_eq_true c10
    clear c10
    by_cases c11 : 0 ≤ x10_1
    ·rw [if_pos c11] at H
     have c11b0 := decide_eq_true c11
     clear c11
     by_cases c12 : x10_1 < (l0_0.length : Int)
     ·rw [if_pos c12] at H
      have c12b0 := decide_eq_true c12
      clear c12
      replace H := ob H
      obtain ⟨t136, A130, H⟩ := H
      replace H : (if x135000_1.length < 5864062014805 then (impl_copyLedger.l0 k1 l0_0 (l0_0.length : Int) (wrap64 (x10_1 + 1)) (x135000_1 ++ [t136])) else (none)) = some r := H
      have A13 := am A130
      clear A130
      by_cases c14 : x135000_1.length < 5864062014805
      ·rw [if_pos c14] at H
       have LMc14 := am c14
       clear c14
       obtain ⟨y139, hy139⟩ : ∃ y_ : List (List (S104)), y_ = (x135000_1 ++ [t136]) := ⟨_, rfl⟩
       replace H : (impl_copyLedger.l0 k1 l0_0 (l0_0.length : Int) (wrap64 (x10_1 + 1)) y139) = some r := q_h hy139 H
       have Ny139 := am hy139
       clear hy139
       have H' := am H
       clear H
       have p135 : 0 ≤ (x10_1 : Int) := q_d
       have q135 : x10_1 < (l0_0.length : Int) := q_d
       obtain ⟨ad135, A135_0, c135_0, e135, hx135_0, hl135_0, hi135_0⟩ := at_L2 HR0_0.out x10_1 p135 q135
       cases e135
       replace hx135_0 := q_x HB.out hx135_0
       have HR135_0 := am hi135_0
       have HC135_0 := am hl135_0
       clear hi135_0 hl135_0
       replace p135 := eq_true p135
       replace q135 := eq_true q135
       try go_wp2
       have n0_ := am (Kd.S_drew HO_135000.out)
       have n1_ := am (blk_drew BK132.out)
       have n2_ := am (blk_drew BK133.out)
       have n3_ := am (blk_drew BK134.out)
       have n4_ := am (below_drew1 HB.out)
       clear HO_135000
       clear BK132
       clear BK133
       clear BK134
       clear HB
       have HO_135000 := n0_
       have BK132 := n1_
       have BK133 := n2_
       have BK134 := n3_
       have HB := n4_
       clear n0_ n1_ n2_ n3_ n4_
       refine start_ (n := 8) (S := fun w' => w'.cell? ⟨gb134, 0, none⟩ = some (u135000)) (ds := [7]) #[false, false, false, false, false, false, false, false] (by kernel_rfl) rfl rfl ((blk_cell BK134.out 0).trans rfl) (fun hHeld => ?_); refine with_tabW impl_copyLedger.tab5 impl_copyLedger.bits5 (fun HT_ HW_ => ?_)
       generalize wr.drew = w15 at HO_135000 BK132 BK133 BK134 HB hHeld ⊢
       refine q_p 0 (some 14) #[true, false, false, false, false, false, false, false] HT_.out ?_
       refine q_p 2 (some 16) #[true, false, true, false, false, false, false, false] HT_.out ?_
       refine q_t 1 (some 15) #[true, true, true, false, false, false, false, false] HT_.out HW_.out hHeld ?_
       refine one_ (i := 3) (N := some 17) #[true, true, true, true, false, false, false, false] rfl rfl (one_of HT_.out (by kernel_rfl)) (by decide) (fun K hK => ?_)
       refine goes_ Try.func98 (by kernel_rfl) rfl #[.slice A135_0 (rd_L2 l0_0 x10_1).length c135_0] (by rfl) rfl rfl (by (try simp only [List.map_toArray, List.map_cons, List.map_nil]); first | done | rfl | (simp only [List.length_drop, List.length_take]; rfl)) ?_
       with_reducible refine (slices_Clone_impl_Balance.calls _ _ (rd_L2 l0_0 x10_1) t136 _ ?side1 ?side2 A13.out).mono ?_
       (case side1 => exact q_c ((Kd.C_below HR135_0.out HB.out)))
       (case side2 => exact HC135_0.out)
       rintro e w16 ⟨v137, rfl, ho0, hb⟩
       refine ⟨_, rfl, ?_⟩
       have n0_ := am (Kd.S_elder' (q_s (HO_135000.out)) (Kd.R_base ho0) hb)
       have n1_ := am (Kd.R_lower ho0 (below_size bq))
       have n2_ := am (blk_below (q_b BK132.out) hb)
       have n3_ := am (blk_below (q_b BK133.out) hb)
       have n4_ := am (blk_below (q_b BK134.out) hb)
       have n5_ := am (below_step bq hb)
       clear HO_135000
       clear BK132
       clear BK133
       clear BK134
       clear HB
       have HO_135000 := n0_
       have HO138 := n1_
       have BK132 := n2_
       have BK133 := n3_
       have BK134 := n4_
       have HB := n5_
       clear n0_ n1_ n2_ n3_ n4_ n5_
       (try clear hb)
       (try clear hb2)
       (try clear hk)
       (try clear hi)
       (try clear ho0)
       obtain ⟨Ao18, co18, eo18⟩ := Kd.R_slice HO138.out
       (first | subst eo18 | (injection eo18 with f1_ f2_ f3_; have f4_ := f1_.symm; have f5_ := f3_.symm; clear f1_ f2_ f3_; subst f4_; subst f5_))
       refine hK.out _ _ ((blk_cell BK134.out 0).trans rfl) (fun hHeld => ?_)
       clear hK K
       refine norm_ (a' := ?_) ?_ ?_
       rotate_left
       ·show Act.put _ (some 17) _ = _
        simp only [Act.put, List.setIfInBounds_toArray, List.set_cons_zero, List.set_cons_succ, i64_w, i32_w]
        rfl
       refine one_ (i := 4) (N := some 18) #[true, true, true, true, true, false, false, false] rfl rfl (one_of HT_.out (by kernel_rfl)) (by decide) (fun K hK => ?_)
       refine value_ (w1 := ?_) (v := ?_) (by rfl) rfl ?_ ?_
       rotate_left 2
       ·go_simp
        constructor
        ·rfl
        ·rfl
       refine hK.out _ _ ((blk_cell (blk_alloc BK134.out _) 0).trans rfl) (fun hHeld => ?_)
       clear hK K
       refine norm_ (a' := ?_) ?_ ?_
       rotate_left
       ·show Act.put _ (some 18) _ = _
        simp only [Act.put, List.setIfInBounds_toArray, List.set_cons_zero, List.set_cons_succ, i64_w, i32_w]
        rfl
       refine one_ (i := 5) (N := some 19) #[true, true, true, true, true, true, false, false] rfl rfl (one_of HT_.out (by kernel_rfl)) (by decide) (fun K hK => ?_)
       refine Kd.S_append_step (Kd.slice 104 k104) (w0 := w) w.heap.size (by rfl) (.tmp 15) (.tmp 18) 24 64 (.slice none 0 0) 24 rfl Try.underlying24 info64 rfl (by decide) (by omega) u135000 x135000_1 t136 [.slice Ao18 t136.length co18] (fun _ => True) (fun k_ => some k_ = (.slice Ao18 t136.length co18 : Value).ownBlock) rfl rfl ?aP (fun k_ hk_ => ((Kd.R_mono (ok' := fun k_ => ((fun _ => True)) k_ ∧ some k_ ≠ (u135000 : Value).ownBlock) (Kd.R_apart' (HO138.out) (Kd.S_typed HO_135000.out) (by decide)) (fun k_ hk => ⟨trivial, hk.2⟩))).1 k_ hk_.symm) ?aF ?aO ?aB ?aS ?aL ?_
       (case aP => exact Kd.M_row (Kd.R_mono (Kd.R_tight rfl (Kd.R_mono (ok' := fun k_ => ((fun _ => True)) k_ ∧ some k_ ≠ (u135000 : Value).ownBlock) (Kd.R_apart' (HO138.out) (Kd.S_typed HO_135000.out) (by decide)) (fun k_ hk => ⟨trivial, hk.2⟩))) (fun _ h_ => h_)))
       (case aB => exact bq)
       (case aF => exact (fun _ _ => trivial))
       (case aO => exact (by (with_reducible repeat (first | apply Kd.S_alloc | apply Kd.S_drewN | apply Kd.S_drew)); exact Kd.S_mono HO_135000.out (fun k_ hk => ⟨trivial, fun e_ => hk.2 e_⟩)))
       (case aS => exact (below_size bq))
       (case aL => have := LMc14.out; omega)
       intro v140 w17 ho hb hg hat
       rw [← Ny139.out] at ho
       have n0_ := am (blk_grown (q_b BK132.out) hg (Kd.S_ne HO_135000.out BK132.out (by decide)))
       have n1_ := am (blk_grown (q_b BK133.out) hg (Kd.S_ne HO_135000.out BK133.out (by decide)))
       have n2_ := am (blk_grown (q_b BK134.out) hg (Kd.S_ne HO_135000.out BK134.out (by decide)))
       have n3_ := am (hb)
       have n4_ := am (ho)
       clear BK132
       clear BK133
       clear BK134
       clear HB
       clear HO_135000
       clear HO138
       have BK132 := n0_
       have BK133 := n1_
       have BK134 := n2_
       have HB := n3_
       have HO141 := n4_
       clear n0_ n1_ n2_ n3_ n4_
       clear ho hb hg hat
       obtain ⟨Ao19, co19, eo19⟩ := Kd.S_slice HO141.out
       (first | subst eo19 | (injection eo19 with f1_ f2_ f3_; have f4_ := f1_.symm; have f5_ := f3_.symm; clear f1_ f2_ f3_; subst f4_; subst f5_))
       refine hK.out _ _ ((blk_cell BK134.out 0).trans rfl) (fun hHeld => ?_)
       clear hK K
       refine norm_ (a' := ?_) ?_ ?_
       rotate_left
       ·show Act.put _ (some 19) _ = _
        simp only [Act.put, List.setIfInBounds_toArray, List.set_cons_zero, List.set_cons_succ, i64_w, i32_w]
        rfl
       refine q_p 6 (some 20) #[true, true, true, true, true, true, true, false] HT_.out ?_
       refine last_ (i := 7) (N := none) #[true, true, true, true, true, true, true, true] rfl rfl (one_of HT_.out (by kernel_rfl)) (by decide) (fun K hK => ?_)
       have hs20 : w17.cell? ⟨gb134, 0, none⟩ = some (u135000) := (blk_cell BK134.out 0).trans rfl
       have hfs20 := blk_frozen BK134.out 0
       have hns20_0 := NB132_134.out
       have hns20_1 := NB133_134.out
       have hms20_0 := NB134_132.out
       have hms20_1 := NB134_133.out
       refine skip_ (w1 := ?_) (by rfl) rfl ?_ ?_
       rotate_left
       ·go_simp
        rfl
       refine hK.out _ _ ?_
       clear hK K
       refine done_ (done_of HT_.out (by kernel_rfl)) ?_
       try go_wp2
       go_roundg k1
       case measure => have := HK1.out; omega
       case rel => exact ⟨(wrap64 (x10_1 + 1)), (y139), (.slice Ao19 y139.length co19), q_i, H', ⟨by have := HK1.out; omega⟩, ⟨by (with_reducible repeat (first | apply Kd.S_alloc | apply Kd.S_drewN | apply Kd.S_drew)); exact Kd.S_mono (Kd.S_far (p := ⟨gb134, 0, none⟩) (Kd.S_types HO141.out BK134.out (by decide)) (fun _ hk => hk.2) (.slice Ao19 y139.length co19)) (fun _ hk => trivial)⟩, ⟨by (with_reducible repeat (first | refine blk_drewN ?_ _ | refine blk_drew ?_ | refine blk_alloc ?_ _)); refine blk_far ?_ NB132_134.out _; (with_reducible repeat (first | refine blk_drewN ?_ _ | refine blk_drew ?_ | refine blk_alloc ?_ _)); exact BK132.out⟩, ⟨by (with_reducible repeat (first | refine blk_drewN ?_ _ | refine blk_drew ?_ | refine blk_alloc ?_ _)); refine blk_far ?_ NB133_134.out _; (with_reducible repeat (first | refine blk_drewN ?_ _ | refine blk_drew ?_ | refine blk_alloc ?_ _)); exact BK133.out⟩, ⟨by (with_reducible repeat (first | refine blk_drewN ?_ _ | refine blk_drew ?_ | refine blk_alloc ?_ _)); refine blk_put (cs := #[u135000]) ?_ 0 _ rfl; (with_reducible repeat (first | refine blk_drewN ?_ _ | refine blk_drew ?_ | refine blk_alloc ?_ _)); exact BK134.out⟩, ⟨bq⟩⟩
      ·rw [if_neg c14] at H
       exact absurd H (by simp)
     ·rw [if_neg c12] at H
      exact absurd H (by simp)
    ·rw [if_neg c11] at H
     exact absurd H (by simp)
   ·rw [if_neg c10] at H
    have c10b0 := decide_eq_false c10
    clear c10
    obtain rfl := Option.some.inj H
    have hnb21 := NB134_132.out
    have hnc21 := NB132_134.out
    have hnb22 := NB134_133.out
    have hnc22 := NB133_134.out
    obtain ⟨hcz23_0, hfz23_0⟩ := q_1 BK134.out
    obtain ⟨Ao24, co24, eo24⟩ := Kd.S_slice HO_135000.out
    subst eo24
    have hnb25 := NB133_132.out
    have hnc25 := NB132_133.out
    obtain ⟨hcz26_0, hfz26_0⟩ := q_1 BK133.out
    go_wp2
    refine bodyPost_ret (results_cell_row rfl _ _ gb133 26 #[.slice Ao24 x135000_1.length co24] (0, 0) _ rfl (by (with_reducible repeat (first | refine blk_drewN ?_ _ | refine blk_drew ?_ | refine blk_alloc ?_ _)); refine blk_put (cs := #[.slice none 0 0]) ?_ 0 _ rfl; (with_reducible repeat (first | refine blk_drewN ?_ _ | refine blk_drew ?_ | refine blk_alloc ?_ _)); exact BK133.out) Try.underlying26 rfl (by kernel_rfl)) rfl ?_
    exact ⟨_, q_e, by (with_reducible repeat (first | apply Kd.S_alloc | apply Kd.S_drewN | apply Kd.S_drew)); exact Kd.S_mono (Kd.S_far (p := ⟨gb133, 0, none⟩) (Kd.S_types HO_135000.out BK133.out (by decide)) (fun _ hk => hk.2) (.slice Ao24 x135000_1.length co24)) (fun _ hk => trivial), bq⟩

/-! ### impl_isId: function 94 -/
def impl_isId.f (a0 : Int) : Option (Bool) := (impl_within.f a0 1 1000000000).bind fun t142 => (some t142)
theorem impl_isId.calls (a0 : Int) (r : Bool) (w : World) (h : impl_isId.f a0 = some r) :
  Calls Try.prog 94 #[.int .i64 a0] w fun e w' => e = .returned (.bool r) ∧ Drawn0 w w' := by
 have H : ((impl_within.f a0 1 1000000000).bind fun t142 => (some t142)) = some r := h
 clear h
 replace H := ob H
 obtain ⟨t142, A20, H⟩ := H
 replace H : (some t142) = some r := H
 have A2 := am A20
 clear A20
 obtain rfl := Option.some.inj H
 go_enter Try.func94, Try.ntmps94
 go_wp2_with (first | ((with_reducible refine gate_callee (f := 65) rfl ?_); refine goesLq (some 4) rfl rfl Try.func65 (by kernel_rfl) rfl #[.int .i64 a0, .int .i64 1, .int .i64 1000000000] rfl ?_; (with_reducible refine (impl_within.calls a0 1 1000000000 t142 _ A2.out).mono ?_); rintro e w' ⟨rfl, ⟨nd, rfl⟩⟩; refine ⟨_, rfl, ?_⟩))
 go_ret
 exact ⟨by first | rfl | (simp; done) | (simp [*]; done), q_0⟩

/-! ### slices_IndexFunc_impl_Leg: function 120 -/

theorem print_gateC {P : Program} {ops : Array Oper} {rest : List Oper} {o : Oper} {a : Act} {Q : Exit → Act → World → Prop} {W : World} {co : Operand} (f : FuncId) (caps : Array Value) {ars : Array Operand} {ts : Array TypeId} (_ho : o.op = .call { callee := .value co, args := ars, argTypes := ts }) (_hT : a.eval co = .func (.func f) #[] caps) (h : wpList P ops Q (o :: rest) a W) : wpList P ops Q (o :: rest) a W := h
theorem print_goesC {P : Program} {ops : Array Oper} {Q : Exit → Act → World → Prop} {rest : List Oper} {oi : Oper} {a : Act} {w : World} {co : Operand} (N : Option Tmp) (hd : oi.dst = N) (hg : oi.guard = none) {f : FuncId} {fn : Func} {ars : Array Operand} {ts : Array TypeId} (hf : P.funcs[f]? = some fn) (hname : (fn.name == "runtime.NumGoroutine") = false) (hb : fn.body.isSome = true) (caps args : Array Value)
    (hop : oi.op = .call { callee := .value co, args := ars, argTypes := ts }) (hT : a.eval co = .func (.func f) #[] caps) (hargs : ars.map a.eval = args)
    (h : Calls P f (args ++ caps) w fun e w' => ∃ v, e = .returned v ∧ wpList P ops Q rest (a.put N v) w') : wpList P ops Q (oi :: rest) a w := by
  refine wpList_plain hg fun K hK => ?_
  have he := enters_ hf hname hb (args ++ caps) w
  have hrun : (execOp a.eval oi).run P w = .ok (.enter f (args ++ caps)) w := by
    unfold execOp
    simp [hop, resolve, Deferred.ofValue, invoke, hT, hargs, he]
  unfold Oper.wp
  rw [hrun, Oper.upon_enter]
  refine h.mono fun e w'' hh => ?_
  obtain ⟨v, rfl, hk⟩ := hh
  subst hd
  exact hK _ _ hk
theorem print_goesCR {P : Program} {ops : Array Oper} {Q : Exit → Act → World → Prop} {oi : Oper} {N : Option Tmp} {a : Act} {w : World} {K : Act → World → Prop} {co : Operand} {f : FuncId} {fn : Func} {ars : Array Operand} {ts : Array TypeId} (hf : P.funcs[f]? = some fn) (hname : (fn.name == "runtime.NumGoroutine") = false) (hb : fn.body.isSome = true) (caps args : Array Value)
    (hw : Region.wanted oi (yielded ops a.tmps) = true) (hN : oi.dst = N) (hop : oi.op = .call { callee := .value co, args := ars, argTypes := ts }) (hT : a.eval co = .func (.func f) #[] caps) (hargs : ars.map a.eval = args)
    (h : Calls P f (args ++ caps) w fun e w' => ∃ v, e = .returned v ∧ K (a.put N v) w') : if Region.wanted oi (yielded ops a.tmps) = true then Oper.wp P oi a w K Q else K (a.put N undef) w := by
  refine call_ f (args ++ caps) hw hN ?_ h
  have he := enters_ hf hname hb (args ++ caps) w
  unfold execOp
  simp [hop, resolve, Deferred.ofValue, invoke, hT, hargs, he]
class FN_slices_IndexFunc_impl_Leg where
  f : Int → Int → Int → Int → Option Bool
section
variable [FN_slices_IndexFunc_impl_Leg]
def slices_IndexFunc_impl_Leg.l0 : Nat → List (S86) → Int → Int → Option (Int)
  | 0, _, _, _ => none
  | k + 1, x0, x7, x8 => if x8 < x7 then (if 0 ≤ x8 then (if x8 < (x0.length : Int) then ((FN_slices_IndexFunc_impl_Leg.f ((rd_T86 x0 x8).f0) ((rd_T86 x0 x8).f1) ((rd_T86 x0 x8).f2) ((rd_T86 x0 x8).f3)).bind fun t144 => (if t144 = true then (some x8) else (slices_IndexFunc_impl_Leg.l0 k x0 x7 (wrap64 (x8 + 1))))) else (none)) else (none)) else (some (-1))
def slices_IndexFunc_impl_Leg.f (k : Nat) (l0 : List (S86)) : Option (Int) := slices_IndexFunc_impl_Leg.l0 k l0 (l0.length : Int) 0
theorem slices_IndexFunc_impl_Leg.calls (k : Nat) (A0 : Option Addr) (c0 : Nat) (l0 : List (S86)) (r : Int) (w : World) (hr0 : Kd.C k86 w A0 l0.length l0) (hc0 : l0.length ≤ c0) (h : slices_IndexFunc_impl_Leg.f k l0 = some r) (F : FuncId) (fn : Func) (caps : Array Value) (hF : Try.prog.funcs[F]? = some fn) (hFn : (fn.name == "runtime.NumGoroutine") = false) (hFb : fn.body.isSome = true) (hFc : ∀ (x0_ : Int) (x1_ : Int) (x2_ : Int) (x3_ : Int) (r : Bool) (W : World), FN_slices_IndexFunc_impl_Leg.f x0_ x1_ x2_ x3_ = some r → Below w.heap.size w W → Calls Try.prog F (#[.agg #[.int .i64 x0_, .int .i64 x1_, .int .i64 x2_, .int .i64 x3_]] ++ caps) W fun e w' => e = .returned (.bool r) ∧ Below W.heap.size W w') :
  Calls Try.prog 120 #[.slice A0 l0.length c0, .func (.func F) #[] caps] w fun e w' => e = .returned (.int .i64 r) ∧ Below w.heap.size w w' := by
 have hu86 := Try.underlying86
 have HR0 := am hr0
 have HC0 := am hc0
 clear hr0 hc0
 have HB := am (Below.refl w.heap.size w)
 have H : (slices_IndexFunc_impl_Leg.l0 k l0 (l0.length : Int) 0) = some r := h
 clear h
 have H' := am H
 clear H
 go_enter Try.func120, Try.ntmps120
 go_wp2
 go_loopg [8] k (fun kq v8 w' => ∃ (x8_1 : Int), v8 = .int .i64 x8_1 ∧ Aside0 (slices_IndexFunc_impl_Leg.l0 kq l0 (l0.length : Int) x8_1 = some r) ∧ Aside0 (kq ≤ k) ∧ Aside0 (Below w.heap.size w w'))
 case atStart => exact ⟨(0), q_i, H', ⟨Nat.le_refl _⟩, ⟨bq⟩⟩
 case round =>
  clear H'
  (try clear c1)
  obtain ⟨x8_1, rfl, HA, HK1, HB⟩ := hrel
  cases gk with
  | zero => exact absurd HA.out (by simp [slices_IndexFunc_impl_Leg.l0])
  | succ k1 =>
   have H := HA.out
   clear HA
   simp only [slices_IndexFunc_impl_Leg.l0] at H
   by_cases c2 : x8_1 < (l0.length : Int)
   ·rw [if_pos c2] at H
    have c2b0 := decide_eq_true c2
    clear c2
    by_cases c3 : 0 ≤ x8_1
    ·rw [if_pos c3] at H
     have c3b0 := decide_eq_true c3
     clear c3
     by_cases c4 : x8_1 < (l0.length : Int)
     ·rw [if_pos c4] at H
      have c4b0 := decide_eq_true c4
      clear c4
      replace H := ob H
      obtain ⟨t144, A50, H⟩ := H
      replace H : (if t144 = true then (some x8_1) else (slices_IndexFunc_impl_Leg.l0 k1 l0 (l0.length : Int) (wrap64 (x8_1 + 1)))) = some r := H
      have A5 := am A50
      clear A50
      by_cases c6 : t144 = true
      ·subst c6
       have H1 : (some x8_1) = some r := by rw [if_pos rfl] at H; exact H
       clear H
       have H := H1
       clear H1
       obtain rfl := Option.some.inj H
       have p143 : 0 ≤ (x8_1 : Int) := q_d
       have q143 : x8_1 < (l0.length : Int) := q_d
       obtain ⟨ad143, e143, hx143_0, hx143_1, hx143_2, hx143_3⟩ := at_T86 HR0.out x8_1 p143 q143
       cases e143
       replace hx143_0 := q_x HB.out hx143_0
       replace hx143_1 := q_x HB.out hx143_1
       replace hx143_2 := q_x HB.out hx143_2
       replace hx143_3 := q_x HB.out hx143_3
       replace p143 := eq_true p143
       replace q143 := eq_true q143
       go_wp2_with (first | ((with_reducible refine print_gateC F caps rfl rfl ?_); refine print_goesC (some 16) rfl rfl hF hFn hFb caps #[.agg #[.int .i64 ((rd_T86 l0 x8_1).f0), .int .i64 ((rd_T86 l0 x8_1).f1), .int .i64 ((rd_T86 l0 x8_1).f2), .int .i64 ((rd_T86 l0 x8_1).f3)]] rfl rfl (by (try simp only [List.map_toArray, List.map_cons, List.map_nil]); first | done | rfl | (simp only [List.length_drop, List.length_take]; rfl)) ?_; (refine (hFc ((rd_T86 l0 x8_1).f0) ((rd_T86 l0 x8_1).f1) ((rd_T86 l0 x8_1).f2) ((rd_T86 l0 x8_1).f3) true _ A5.out bq).mono ?_); rintro e w7 ⟨rfl, hb⟩; refine ⟨_, rfl, ?_⟩; have n0_ := am (below_step bq hb); revert n0_; clear HB; intro HB; (try clear hb); (try clear hb2); (try clear hk); (try clear hi)))
       go_ret
       exact ⟨q_e, bq⟩
      ·replace c6 := Bool.eq_false_iff.mpr c6
       subst c6
       have H1 : (slices_IndexFunc_impl_Leg.l0 k1 l0 (l0.length : Int) (wrap64 (x8_1 + 1))) = some r := by rw [if_neg (show ¬ (false = true) by decide)] at H; exact H
       clear H
       have H := H1
       clear H1
       have H' := am H
       clear H
       have p143 : 0 ≤ (x8_1 : Int) := q_d
       have q143 : x8_1 < (l0.length : Int) := q_d
       obtain ⟨ad143, e143, hx143_0, hx143_1, hx143_2, hx143_3⟩ := at_T86 HR0.out x8_1 p143 q143
       cases e143
       replace hx143_0 := q_x HB.out hx143_0
       replace hx143_1 := q_x HB.out hx143_1
       replace hx143_2 := q_x HB.out hx143_2
       replace hx143_3 := q_x HB.out hx143_3
       replace p143 := eq_true p143
       replace q143 := eq_true q143
       go_wp2_with (first | ((with_reducible refine print_gateC F caps rfl rfl ?_); refine print_goesC (some 16) rfl rfl hF hFn hFb caps #[.agg #[.int .i64 ((rd_T86 l0 x8_1).f0), .int .i64 ((rd_T86 l0 x8_1).f1), .int .i64 ((rd_T86 l0 x8_1).f2), .int .i64 ((rd_T86 l0 x8_1).f3)]] rfl rfl (by (try simp only [List.map_toArray, List.map_cons, List.map_nil]); first | done | rfl | (simp only [List.length_drop, List.length_take]; rfl)) ?_; (refine (hFc ((rd_T86 l0 x8_1).f0) ((rd_T86 l0 x8_1).f1) ((rd_T86 l0 x8_1).f2) ((rd_T86 l0 x8_1).f3) false _ A5.out bq).mono ?_); rintro e w8 ⟨rfl, hb⟩; refine ⟨_, rfl, ?_⟩; have n0_ := am (below_step bq hb); revert n0_; clear HB; intro HB; (try clear hb); (try clear hb2); (try clear hk); (try clear hi)))
       go_roundg k1
       case measure => have := HK1.out; omega
       case rel => exact ⟨(wrap64 (x8_1 + 1)), q_i, H', ⟨by have := HK1.out; omega⟩, ⟨bq⟩⟩
     ·rw [if_neg c4] at H
      exact absurd H (by simp)
    ·rw [if_neg c3] at H
     exact absurd H (by simp)
   ·rw [if_neg c2] at H
    have c2b0 := decide_eq_false c2
    clear c2
    obtain rfl := Option.some.inj H
    go_wp2
    go_ret
    exact ⟨q_e, bq⟩
end

/-! ### slices_ContainsFunc_impl_Leg: function 99 -/
section
variable [FN_slices_IndexFunc_impl_Leg]
def slices_ContainsFunc_impl_Leg.f (k : Nat) (l0 : List (S86)) : Option (Bool) := (slices_IndexFunc_impl_Leg.f k l0).bind fun t145 => (some (decide (t145 ≥ 0)))
theorem slices_ContainsFunc_impl_Leg.calls (k : Nat) (A0 : Option Addr) (c0 : Nat) (l0 : List (S86)) (r : Bool) (w : World) (hr0 : Kd.C k86 w A0 l0.length l0) (hc0 : l0.length ≤ c0) (h : slices_ContainsFunc_impl_Leg.f k l0 = some r) (F : FuncId) (fn : Func) (caps : Array Value) (hF : Try.prog.funcs[F]? = some fn) (hFn : (fn.name == "runtime.NumGoroutine") = false) (hFb : fn.body.isSome = true) (hFc : ∀ (x0_ : Int) (x1_ : Int) (x2_ : Int) (x3_ : Int) (r : Bool) (W : World), FN_slices_IndexFunc_impl_Leg.f x0_ x1_ x2_ x3_ = some r → Below w.heap.size w W → Calls Try.prog F (#[.agg #[.int .i64 x0_, .int .i64 x1_, .int .i64 x2_, .int .i64 x3_]] ++ caps) W fun e w' => e = .returned (.bool r) ∧ Below W.heap.size W w') :
  Calls Try.prog 99 #[.slice A0 l0.length c0, .func (.func F) #[] caps] w fun e w' => e = .returned (.bool r) ∧ Below w.heap.size w w' := by
 have HR0 := am hr0
 have HC0 := am hc0
 clear hr0 hc0
 have HB := am (Below.refl w.heap.size w)
 have H : ((slices_IndexFunc_impl_Leg.f k l0).bind fun t145 => (some (decide (t145 ≥ 0)))) = some r := h
 clear h
 replace H := ob H
 obtain ⟨t145, A20, H⟩ := H
 replace H : (some (decide (t145 ≥ 0))) = some r := H
 have A2 := am A20
 clear A20
 obtain rfl := Option.some.inj H
 go_enter Try.func99, Try.ntmps99
 go_wp2_with (first | ((with_reducible refine gate_callee (f := 120) rfl ?_); refine goesLq (some 7) rfl rfl Try.func120 (by kernel_rfl) rfl #[.slice A0 l0.length c0, .func (.func F) #[] caps] rfl ?_; (with_reducible refine (slices_IndexFunc_impl_Leg.calls k _ _ l0 t145 _ ?side1 ?side2 A2.out F fn caps hF hFn hFb hFc).mono ?_); (case side1 => exact q_c (HR0.out)); (case side2 => exact HC0.out); rintro e w3 ⟨rfl, hb⟩; refine ⟨_, rfl, ?_⟩; have n0_ := am (below_step bq hb); revert n0_; clear HB; intro HB; (try clear hb); (try clear hb2); (try clear hk); (try clear hi)))
 go_ret
 exact ⟨q_e, bq⟩
end

/-! ### impl_size_impl_Leg: function 115 -/
def impl_size_impl_Leg.f (l0 : List (S86)) : Option (Int) := some (l0.length : Int)
theorem impl_size_impl_Leg.calls (A0 : Option Addr) (c0 : Nat) (l0 : List (S86)) (r : Int) (w : World) (hr0 : Kd.C k86 w A0 l0.length l0) (hc0 : l0.length ≤ c0) (h : impl_size_impl_Leg.f l0 = some r) :
  Calls Try.prog 115 #[.slice A0 l0.length c0] w fun e w' => e = .returned (.int .i64 r) ∧ Drawn0 w w' := by
 have HR0 := am hr0
 have HC0 := am hc0
 clear hr0 hc0
 have H : (some (l0.length : Int)) = some r := h
 clear h
 obtain rfl := Option.some.inj H
 go_enter Try.func115, Try.ntmps115
 go_wp2
 go_ret
 exact ⟨by first | rfl | (simp; done) | (simp [*]; done), q_0⟩

/-! ### impl_isShard: function 127 -/
def impl_isShard.f (a0 : Int) : Option (Bool) := (impl_within.f a0 0 2).bind fun t146 => (some t146)
theorem impl_isShard.calls (a0 : Int) (r : Bool) (w : World) (h : impl_isShard.f a0 = some r) :
  Calls Try.prog 127 #[.int .i64 a0] w fun e w' => e = .returned (.bool r) ∧ Drawn0 w w' := by
 have H : ((impl_within.f a0 0 2).bind fun t146 => (some t146)) = some r := h
 clear h
 replace H := ob H
 obtain ⟨t146, A20, H⟩ := H
 replace H : (some t146) = some r := H
 have A2 := am A20
 clear A20
 obtain rfl := Option.some.inj H
 go_enter Try.func127, Try.ntmps127
 go_wp2_with (first | ((with_reducible refine gate_callee (f := 65) rfl ?_); refine goesLq (some 4) rfl rfl Try.func65 (by kernel_rfl) rfl #[.int .i64 a0, .int .i64 0, .int .i64 2] rfl ?_; (with_reducible refine (impl_within.calls a0 0 2 t146 _ A2.out).mono ?_); rintro e w' ⟨rfl, ⟨nd, rfl⟩⟩; refine ⟨_, rfl, ?_⟩))
 go_ret
 exact ⟨by first | rfl | (simp; done) | (simp [*]; done), q_0⟩

/-! ### impl_LegFault: function 116 -/
def impl_LegFault.j0 : Nat → Bool → Int → Int → Int → Int → Option (Int)
  | 0, _, _, _, _, _ => none
  | k + 1, x3, x148000, x148001, x148002, x148003 => if x3 = true then (some 3) else (if x148003 = 0 then (some 1) else (some 0))
def impl_LegFault.f (k : Nat) (a0_0 : Int) (a0_1 : Int) (a0_2 : Int) (a0_3 : Int) : Option (Int) := (impl_isShard.f a0_0).bind fun t148 => (if t148 = true then ((impl_isPlace.f a0_1 a0_2).bind fun t149 => (if t149 = true then ((impl_within.f a0_3 (-1000000000000) 1000000000000).bind fun t150 => (impl_LegFault.j0 k (!t150) a0_0 a0_1 a0_2 a0_3)) else (impl_LegFault.j0 k true a0_0 a0_1 a0_2 a0_3))) else (impl_LegFault.j0 k true a0_0 a0_1 a0_2 a0_3))
theorem impl_LegFault.calls (k : Nat) (a0_0 : Int) (a0_1 : Int) (a0_2 : Int) (a0_3 : Int) (r : Int) (w : World) (h : impl_LegFault.f k a0_0 a0_1 a0_2 a0_3 = some r) :
  Calls Try.prog 116 #[.agg #[.int .i64 a0_0, .int .i64 a0_1, .int .i64 a0_2, .int .i64 a0_3]] w fun e w' => e = .returned (.int .i64 r) ∧ Below w.heap.size w w' := by
 have hu86 := Try.underlying86
 have HB := am (Below.refl w.heap.size w)
 have H : ((impl_isShard.f a0_0).bind fun t148 => (if t148 = true then ((impl_isPlace.f a0_1 a0_2).bind fun t149 => (if t149 = true then ((impl_within.f a0_3 (-1000000000000) 1000000000000).bind fun t150 => (impl_LegFault.j0 k (!t150) a0_0 a0_1 a0_2 a0_3)) else (impl_LegFault.j0 k true a0_0 a0_1 a0_2 a0_3))) else (impl_LegFault.j0 k true a0_0 a0_1 a0_2 a0_3))) = some r := h
 clear h
 have HC2 := am H
 clear H
 go_enter Try.func116, Try.ntmps116
 go_upto_region 1 with (first | ((with_reducible refine gate_dst (N := 1) rfl ?_); refine q_box (N := 1) (cs := #[.int .i64 a0_0, .int .i64 a0_1, .int .i64 a0_2, .int .i64 a0_3]) (t := 86) ?_; intro gb147 hg w3 hbox hb; have n0_ := am (below_step bq hb); have n1_ := am (hbox); have n2_ := am ((q_g hg bq : w.heap.size ≤ gb147)); have n3_ := n2_; revert n0_ n1_ n2_ n3_; clear HB; intro HB BK147 GW147 GE147; clear hb hbox hg))
 (try simp only [Act.put, List.setIfInBounds_toArray, List.set_cons_zero, List.set_cons_succ])
 go_cut [3] (fun v3 wc => ∃ (kq : Nat) (x3_1 : Bool), v3 = .bool x3_1 ∧ Aside0 (impl_LegFault.j0 kq x3_1 a0_0 a0_1 a0_2 a0_3 = some r) ∧ Aside0 (kq ≤ k) ∧ Aside0 (wc.heap[gb147]? = some (.cells #[.int .i64 a0_0, .int .i64 a0_1, .int .i64 a0_2, .int .i64 a0_3] 86 (0, 0))) ∧ Aside0 (Below w.heap.size w wc))
 case first =>
  have H := HC2.out
  clear HC2
  replace H := ob H
  obtain ⟨t148, A40, H⟩ := H
  replace H : (if t148 = true then ((impl_isPlace.f a0_1 a0_2).bind fun t149 => (if t149 = true then ((impl_within.f a0_3 (-1000000000000) 1000000000000).bind fun t150 => (impl_LegFault.j0 k (!t150) a0_0 a0_1 a0_2 a0_3)) else (impl_LegFault.j0 k true a0_0 a0_1 a0_2 a0_3))) else (impl_LegFault.j0 k true a0_0 a0_1 a0_2 a0_3)) = some r := H
  have A4 := am A40
  clear A40
  by_cases c5 : t148 = true
  ·subst c5
   have H1 : ((impl_isPlace.f a0_1 a0_2).bind fun t149 => (if t149 = true then ((impl_within.f a0_3 (-1000000000000) 1000000000000).bind fun t150 => (impl_LegFault.j0 k (!t150) a0_0 a0_1 a0_2 a0_3)) else (impl_LegFault.j0 k true a0_0 a0_1 a0_2 a0_3))) = some r := by rw [if_pos rfl] at H; exact H
   clear H
   have H := H1
   clear H1
   replace H := ob H
   obtain ⟨t149, A60, H⟩ := H
   replace H : (if t149 = true then ((impl_within.f a0_3 (-1000000000000) 1000000000000).bind fun t150 => (impl_LegFault.j0 k (!t150) a0_0 a0_1 a0_2 a0_3)) else (impl_LegFault.j0 k true a0_0 a0_1 a0_2 a0_3)) = some r := H
   have A6 := am A60
   clear A60
   by_cases c7 : t149 = true
   ·subst c7
    have H1 : ((impl_within.f a0_3 (-1000000000000) 1000000000000).bind fun t150 => (impl_LegFault.j0 k (!t150) a0_0 a0_1 a0_2 a0_3)) = some r := by rw [if_pos rfl] at H; exact H
    clear H
    have H := H1
    clear H1
    replace H := ob H
    obtain ⟨t150, A80, H⟩ := H
    replace H : (impl_LegFault.j0 k (!t150) a0_0 a0_1 a0_2 a0_3) = some r := H
    have A8 := am A80
    clear A80
    have H' := am H
    clear H
    obtain ⟨hcz9_0, hcz9_1, hcz9_2, hcz9_3, hfz9_0, hfz9_1, hfz9_2, hfz9_3⟩ := q_4 BK147.out
    go_wp2_with (first | ((with_reducible refine gate_callee (f := 127) rfl ?_); refine goesLq (some 6) rfl rfl Try.func127 (by kernel_rfl) rfl #[.int .i64 a0_0] rfl ?_; (with_reducible refine (impl_isShard.calls a0_0 true _ A4.out).mono ?_); rintro e w' ⟨rfl, ⟨nd, rfl⟩⟩; refine ⟨_, rfl, ?_⟩) | (go_at_call 83; (with_reducible refine (impl_isPlace.calls a0_1 a0_2 true _ A6.out).mono ?_); rintro e w' ⟨rfl, ⟨nd, rfl⟩⟩) | (go_at_call 65; (with_reducible refine (impl_within.calls a0_3 (-1000000000000) 1000000000000 t150 _ A8.out).mono ?_); rintro e w' ⟨rfl, ⟨nd, rfl⟩⟩))
    go_meet
    case rel => exact ⟨_, (!t150), q_i, H', ⟨by first | omega | exact Nat.le_refl _⟩, ⟨q_b BK147.out⟩, ⟨bq⟩⟩
   ·replace c7 := Bool.eq_false_iff.mpr c7
    subst c7
    have H1 : (impl_LegFault.j0 k true a0_0 a0_1 a0_2 a0_3) = some r := by rw [if_neg (show ¬ (false = true) by decide)] at H; exact H
    clear H
    have H := H1
    clear H1
    have H' := am H
    clear H
    obtain ⟨hcz10_0, hcz10_1, hcz10_2, hcz10_3, hfz10_0, hfz10_1, hfz10_2, hfz10_3⟩ := q_4 BK147.out
    go_wp2_with (first | ((with_reducible refine gate_callee (f := 127) rfl ?_); refine goesLq (some 6) rfl rfl Try.func127 (by kernel_rfl) rfl #[.int .i64 a0_0] rfl ?_; (with_reducible refine (impl_isShard.calls a0_0 true _ A4.out).mono ?_); rintro e w' ⟨rfl, ⟨nd, rfl⟩⟩; refine ⟨_, rfl, ?_⟩) | (go_at_call 83; (with_reducible refine (impl_isPlace.calls a0_1 a0_2 false _ A6.out).mono ?_); rintro e w' ⟨rfl, ⟨nd, rfl⟩⟩))
    go_meet
    case rel => exact ⟨_, (true), q_i, H', ⟨by first | omega | exact Nat.le_refl _⟩, ⟨q_b BK147.out⟩, ⟨bq⟩⟩
  ·replace c5 := Bool.eq_false_iff.mpr c5
   subst c5
   have H1 : (impl_LegFault.j0 k true a0_0 a0_1 a0_2 a0_3) = some r := by rw [if_neg (show ¬ (false = true) by decide)] at H; exact H
   clear H
   have H := H1
   clear H1
   have H' := am H
   clear H
   obtain ⟨hcz11_0, hcz11_1, hcz11_2, hcz11_3, hfz11_0, hfz11_1, hfz11_2, hfz11_3⟩ := q_4 BK147.out
   go_wp2_with (first | ((with_reducible refine gate_callee (f := 127) rfl ?_); refine goesLq (some 6) rfl rfl Try.func127 (by kernel_rfl) rfl #[.int .i64 a0_0] rfl ?_; (with_reducible refine (impl_isShard.calls a0_0 false _ A4.out).mono ?_); rintro e w' ⟨rfl, ⟨nd, rfl⟩⟩; refine ⟨_, rfl, ?_⟩))
   go_meet
   case rel => exact ⟨_, (true), q_i, H', ⟨by first | omega | exact Nat.le_refl _⟩, ⟨q_b BK147.out⟩, ⟨bq⟩⟩
 case rest =>
  clear HC2
  (try clear c1); (try clear p2); (try clear c5); (try clear c7); (try clear c11); (try clear hcz10_0); (try clear hcz10_1); (try clear hcz10_2); (try clear hcz10_3); (try clear hcz11_0); (try clear hcz11_1)
  (try clear hcz11_2); (try clear hcz11_3); (try clear hcz9_0); (try clear hcz9_1); (try clear hcz9_2); (try clear hcz9_3); (try clear hfz10_0); (try clear hfz10_1); (try clear hfz10_2); (try clear hfz10_3)
  (try clear hfz11_0); (try clear hfz11_1); (try clear hfz11_2); (try clear hfz11_3); (try clear hfz9_0); (try clear hfz9_1); (try clear hfz9_2); (try clear hfz9_3)
  obtain ⟨kq, x3_1, rfl, HA, HJ1, BK147, HB⟩ := hcut
  cases kq with
  | zero => exact absurd HA.out (by simp [impl_LegFault.j0])
  | succ kj1 =>
   have H := HA.out
   clear HA
   simp only [impl_LegFault.j0] at H
   by_cases c12 : x3_1 = true
   ·subst c12
    have H1 : (some 3) = some r := by rw [if_pos rfl] at H; exact H
    clear H
    have H := H1
    clear H1
    obtain rfl := Option.some.inj H
    go_wp2
    go_ret
    exact ⟨q_e, bq⟩
   ·replace c12 := Bool.eq_false_iff.mpr c12
    subst c12
    have H1 : (if a0_3 = 0 then (some 1) else (some 0)) = some r := by rw [if_neg (show ¬ (false = true) by decide)] at H; exact H
    clear H
    have H := H1
    clear H1
    by_cases c13 : a0_3 = 0
    ·rw [if_pos c13] at H
     have c13b0 : (a0_3 == 0) = true := beq_iff_eq.mpr c13
     have c13b1 : (a0_3 != 0) = false := bne_eq_false_iff_eq.mpr c13
     clear c13
     obtain rfl := Option.some.inj H
     obtain ⟨hcz14_0, hcz14_1, hcz14_2, hcz14_3, hfz14_0, hfz14_1, hfz14_2, hfz14_3⟩ := q_4 BK147.out
     go_wp2
     go_ret
     exact ⟨q_e, bq⟩
    ·rw [if_neg c13] at H
     have c13b0 : (a0_3 == 0) = false := beq_eq_false_iff_ne.mpr c13
     have c13b1 : (a0_3 != 0) = true := bne_iff_ne.mpr c13
     obtain rfl := Option.some.inj H
     obtain ⟨hcz15_0, hcz15_1, hcz15_2, hcz15_3, hfz15_0, hfz15_1, hfz15_2, hfz15_3⟩ := q_4 BK147.out
     go_wp2
     go_ret
     exact ⟨q_e, bq⟩

/-! ### impl_samePlace: function 118 -/
def impl_samePlace.f (a0_0 : Int) (a0_1 : Int) (a0_2 : Int) (a0_3 : Int) (a1_0 : Int) (a1_1 : Int) (a1_2 : Int) (a1_3 : Int) : Option (Bool) := if a0_0 = a1_0 then (if a0_1 = a1_1 then (some (a0_2 == a1_2)) else (some false)) else (some false)
theorem impl_samePlace.calls (a0_0 : Int) (a0_1 : Int) (a0_2 : Int) (a0_3 : Int) (a1_0 : Int) (a1_1 : Int) (a1_2 : Int) (a1_3 : Int) (r : Bool) (w : World) (h : impl_samePlace.f a0_0 a0_1 a0_2 a0_3 a1_0 a1_1 a1_2 a1_3 = some r) :
  Calls Try.prog 118 #[.agg #[.int .i64 a0_0, .int .i64 a0_1, .int .i64 a0_2, .int .i64 a0_3], .agg #[.int .i64 a1_0, .int .i64 a1_1, .int .i64 a1_2, .int .i64 a1_3]] w fun e w' => e = .returned (.bool r) ∧ Below w.heap.size w w' := by
 have hu86 := Try.underlying86
 have HB := am (Below.refl w.heap.size w)
 have H : (if a0_0 = a1_0 then (if a0_1 = a1_1 then (some (a0_2 == a1_2)) else (some false)) else (some false)) = some r := h
 clear h
 by_cases c3 : a0_0 = a1_0
 ·rw [if_pos c3] at H
  have c3b0 : (a0_0 == a1_0) = true := beq_iff_eq.mpr c3
  have c3b1 : (a0_0 != a1_0) = false := bne_eq_false_iff_eq.mpr c3
  clear c3
  by_cases c4 : a0_1 = a1_1
  ·rw [if_pos c4] at H
   have c4b0 : (a0_1 == a1_1) = true := beq_iff_eq.mpr c4
   have c4b1 : (a0_1 != a1_1) = false := bne_eq_false_iff_eq.mpr c4
   clear c4
   obtain rfl := Option.some.inj H
   go_enter Try.func118, Try.ntmps118
   go_wp2_with (first | ((with_reducible refine gate_dst (N := 2) rfl ?_); refine q_box (N := 2) (cs := #[.int .i64 a0_0, .int .i64 a0_1, .int .i64 a0_2, .int .i64 a0_3]) (t := 86) ?_; intro gb151 hg w5 hbox hb; have n0_ := am (below_step bq hb); have n1_ := am (hbox); have n2_ := am ((q_g hg bq : w.heap.size ≤ gb151)); have n3_ := n2_; revert n0_ n1_ n2_ n3_; clear HB; intro HB BK151 GW151 GE151; clear hb hbox hg) | ((with_reducible refine gate_dst (N := 3) rfl ?_); refine q_box (N := 3) (cs := #[.int .i64 a1_0, .int .i64 a1_1, .int .i64 a1_2, .int .i64 a1_3]) (t := 86) ?_; intro gb152 hg w6 hbox hb; have n0_ := am (blk_below (q_b BK151.out) hb); have n1_ := am (below_step bq hb); have n2_ := am (hbox); have n3_ := am ((q_g hg bq : w.heap.size ≤ gb152)); have n4_ := n3_; have n5_ := am ((q_n hg (q_b BK151.out) : gb151 ≠ gb152)); have n6_ := am n5_.out.symm; revert n0_ n1_ n2_ n3_ n4_ n5_ n6_; clear BK151 HB; intro BK151 HB BK152 GW152 GE152 NB151_152 NB152_151; clear hb hbox hg; have hnb7 := NB151_152.out; have hnc7 := NB152_151.out; obtain ⟨hcz8_0, hcz8_1, hcz8_2, hcz8_3, hfz8_0, hfz8_1, hfz8_2, hfz8_3⟩ := q_4 BK151.out; obtain ⟨hcz9_0, hcz9_1, hcz9_2, hcz9_3, hfz9_0, hfz9_1, hfz9_2, hfz9_3⟩ := q_4 BK152.out))
   go_ret
   exact ⟨q_e, bq⟩
  ·rw [if_neg c4] at H
   have c4b0 : (a0_1 == a1_1) = false := beq_eq_false_iff_ne.mpr c4
   have c4b1 : (a0_1 != a1_1) = true := bne_iff_ne.mpr c4
   obtain rfl := Option.some.inj H
   go_enter Try.func118, Try.ntmps118
   go_wp2_with (first | ((with_reducible refine gate_dst (N := 2) rfl ?_); refine q_box (N := 2) (cs := #[.int .i64 a0_0, .int .i64 a0_1, .int .i64 a0_2, .int .i64 a0_3]) (t := 86) ?_; intro gb151 hg w10 hbox hb; have n0_ := am (below_step bq hb); have n1_ := am (hbox); have n2_ := am ((q_g hg bq : w.heap.size ≤ gb151)); have n3_ := n2_; revert n0_ n1_ n2_ n3_; clear HB; intro HB BK151 GW151 GE151; clear hb hbox hg) | ((with_reducible refine gate_dst (N := 3) rfl ?_); refine q_box (N := 3) (cs := #[.int .i64 a1_0, .int .i64 a1_1, .int .i64 a1_2, .int .i64 a1_3]) (t := 86) ?_; intro gb152 hg w11 hbox hb; have n0_ := am (blk_below (q_b BK151.out) hb); have n1_ := am (below_step bq hb); have n2_ := am (hbox); have n3_ := am ((q_g hg bq : w.heap.size ≤ gb152)); have n4_ := n3_; have n5_ := am ((q_n hg (q_b BK151.out) : gb151 ≠ gb152)); have n6_ := am n5_.out.symm; revert n0_ n1_ n2_ n3_ n4_ n5_ n6_; clear BK151 HB; intro BK151 HB BK152 GW152 GE152 NB151_152 NB152_151; clear hb hbox hg; have hnb12 := NB151_152.out; have hnc12 := NB152_151.out; obtain ⟨hcz13_0, hcz13_1, hcz13_2, hcz13_3, hfz13_0, hfz13_1, hfz13_2, hfz13_3⟩ := q_4 BK151.out; obtain ⟨hcz14_0, hcz14_1, hcz14_2, hcz14_3, hfz14_0, hfz14_1, hfz14_2, hfz14_3⟩ := q_4 BK152.out))
   go_ret
   exact ⟨q_e, bq⟩
 ·rw [if_neg c3] at H
  have c3b0 : (a0_0 == a1_0) = false := beq_eq_false_iff_ne.mpr c3
  have c3b1 : (a0_0 != a1_0) = true := bne_iff_ne.mpr c3
  obtain rfl := Option.some.inj H
  go_enter Try.func118, Try.ntmps118
  go_wp2_with (first | ((with_reducible refine gate_dst (N := 2) rfl ?_); refine q_box (N := 2) (cs := #[.int .i64 a0_0, .int .i64 a0_1, .int .i64 a0_2, .int .i64 a0_3]) (t := 86) ?_; intro gb151 hg w15 hbox hb; have n0_ := am (below_step bq hb); have n1_ := am (hbox); have n2_ := am ((q_g hg bq : w.heap.size ≤ gb151)); have n3_ := n2_; revert n0_ n1_ n2_ n3_; clear HB; intro HB BK151 GW151 GE151; clear hb hbox hg) | ((with_reducible refine gate_dst (N := 3) rfl ?_); refine q_box (N := 3) (cs := #[.int .i64 a1_0, .int .i64 a1_1, .int .i64 a1_2, .int .i64 a1_3]) (t := 86) ?_; intro gb152 hg w16 hbox hb; have n0_ := am (blk_below (q_b BK151.out) hb); have n1_ := am (below_step bq hb); have n2_ := am (hbox); have n3_ := am ((q_g hg bq : w.heap.size ≤ gb152)); have n4_ := n3_; have n5_ := am ((q_n hg (q_b BK151.out) : gb151 ≠ gb152)); have n6_ := am n5_.out.symm; revert n0_ n1_ n2_ n3_ n4_ n5_ n6_; clear BK151 HB; intro BK151 HB BK152 GW152 GE152 NB151_152 NB152_151; clear hb hbox hg; have hnb17 := NB151_152.out; have hnc17 := NB152_151.out; obtain ⟨hcz18_0, hcz18_1, hcz18_2, hcz18_3, hfz18_0, hfz18_1, hfz18_2, hfz18_3⟩ := q_4 BK151.out; obtain ⟨hcz19_0, hcz19_1, hcz19_2, hcz19_3, hfz19_0, hfz19_1, hfz19_2, hfz19_3⟩ := q_4 BK152.out))
  go_ret
  exact ⟨q_e, bq⟩

end Go.Proofs.Ytanegggacfmkcaa.PFnExactSettleAll
