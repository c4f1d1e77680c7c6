/- The functions that a law reaches, each as a plain Lean function with the proof that the machine comes to its answer: written by program (the kit's print, turned by wip/gen). No conditions. -/
import Derived.Test.YtanegggacfmkcaaPFnExactSettleOnex0
import Derived.Test.YtanegggacfmkcaaPFnExactSettleOnex2
import Derived.Test.YtanegggacfmkcaaPFnExactSettleOnex6
namespace Go.Proofs.Ytanegggacfmkcaa.PFnExactSettleOne
open Go.RowKit Go.Proofs.YtanegggacfmkcaaW.PrintWords Go.Proofs.YtanegggacfmkcaaW.PrintLast Go.Proofs.YtanegggacfmkcaaW.PrintMore
attribute [local go_sem] max2_int min2_int max_two min_two max_three min_three max_four min_four   -- for this text's walks alone
set_option linter.unusedVariables false
set_option linter.unusedSimpArgs false

/-! ### impl_firstOf: function 91 -/
def impl_firstOf.l0 : Nat → List Int → Int → Int → Option (Int)
  | 0, _, _, _ => none
  | k + 1, x5, x6, x7 => if x7 < x6 then (if 0 ≤ x7 then (if x7 < (x5.length : Int) then (if (rd x5 x7) = 0 then (impl_firstOf.l0 k x5 x6 (wrap64 (x7 + 1))) else (some (rd x5 x7))) else (none)) else (none)) else (some 0)
def impl_firstOf.f (k : Nat) (l0 : List Int) : Option (Int) := impl_firstOf.l0 k l0 (l0.length : Int) 0
set_option maxHeartbeats 8000000 in
set_option maxRecDepth 100000 in
theorem impl_firstOf.calls (k : Nat) (A0 : Option Addr) (c0 : Nat) (l0 : List Int) (r : Int) (w : World) (hr0 : Kd.C (Kd.int .i64) w A0 l0.length l0) (hc0 : l0.length ≤ c0) (h : impl_firstOf.f k l0 = some r) :
  Calls Try.prog 91 #[.slice A0 l0.length c0] w fun e w' => e = .returned (.int .i64 r) ∧ Drawn0 w w' := by
 have HR0 := Aside0.mk hr0
 have HC0 := Aside0.mk hc0
 clear hr0 hc0
 have H : (impl_firstOf.l0 k l0 (l0.length : Int) 0) = some r := h
 clear h
 have H' := Aside0.mk H
 clear H
 go_enter Try.func91, Try.ntmps91
 go_wp2
 go_loopg [7] k (fun kq v7 w' => ∃ (x7_1 : Int), v7 = .int .i64 x7_1 ∧ Aside0 (impl_firstOf.l0 kq l0 (l0.length : Int) x7_1 = some r) ∧ Aside0 (kq ≤ k) ∧ Drawn0 w w')
 case atStart => exact ⟨(0), q_i, H', ⟨Nat.le_refl _⟩, q_0⟩
 case round =>
  clear H'
  obtain ⟨x7_1, rfl, HA, HK1, ⟨m1, rfl⟩⟩ := hrel
  cases gk with
  | zero => exact absurd HA.out (by simp [impl_firstOf.l0])
  | succ k1 =>
   have H := HA.out
   clear HA
   simp only [impl_firstOf.l0] at H
   by_cases c2 : x7_1 < (l0.length : Int)
   ·rw [if_pos c2] at H
    have c2b0 := decide_eq_true c2
    clear c2
    by_cases c3 : 0 ≤ x7_1
    ·rw [if_pos c3] at H
     have c3b0 := decide_eq_true c3
     clear c3
     by_cases c4 : x7_1 < (l0.length : Int)
     ·rw [if_pos c4] at H
      have c4b0 := decide_eq_true c4
      clear c4
      by_cases c5 : (rd l0 x7_1) = 0
      ·rw [if_pos c5] at H
       have c5b0 : ((rd l0 x7_1) == 0) = true := beq_iff_eq.mpr c5
       have c5b1 : ((rd l0 x7_1) != 0) = false := bne_eq_false_iff_eq.mpr c5
       clear c5
       have H' := Aside0.mk H
       clear H
       have p167 : 0 ≤ (x7_1 : Int) := q_d
       have q167 : x7_1 < (l0.length : Int) := q_d
       obtain ⟨ad167, e167, hx167_0⟩ := Kd.at_int HR0.out x7_1 p167 q167
       cases e167
       replace p167 := eq_true p167
       replace q167 := eq_true q167
       go_wp2
       go_roundg k1
       case measure => have := HK1.out; omega
       case rel => exact ⟨(wrap64 (x7_1 + 1)), q_i, H', ⟨by have := HK1.out; omega⟩, q_0⟩
      ·rw [if_neg c5] at H
       have c5b0 : ((rd l0 x7_1) == 0) = false := beq_eq_false_iff_ne.mpr c5
       have c5b1 : ((rd l0 x7_1) != 0) = true := bne_iff_ne.mpr c5
       obtain rfl := Option.some.inj H
       have p167 : 0 ≤ (x7_1 : Int) := q_d
       have q167 : x7_1 < (l0.length : Int) := q_d
       obtain ⟨ad167, e167, hx167_0⟩ := Kd.at_int HR0.out x7_1 p167 q167
       cases e167
       replace p167 := eq_true p167
       replace q167 := eq_true q167
       go_wp2
       go_ret
       exact ⟨by first | rfl | (simp; done) | (simp [*]; done), q_0⟩
     ·rw [if_neg c4] at H
      exact absurd H (by simp)
    ·rw [if_neg c3] at H
     exact absurd H (by simp)
   ·rw [if_neg c2] at H
    have c2b0 := decide_eq_false c2
    clear c2
    obtain rfl := Option.some.inj H
    go_wp2
    go_ret
    exact ⟨by first | rfl | (simp; done) | (simp [*]; done), q_0⟩

/-! ### impl_CanSettle: function 52 -/
def impl_CanSettle.f (k : Nat) (l0_0 : List (List (S104))) (a1_0 : Int) (l1_1 : List (S86)) : Option (Int) := (impl_LedgerFault.f k l0_0).bind fun t170 => ((impl_canSettle.f k l0_0 a1_0 l1_1).bind fun t171 => ((impl_firstOf.f k (([t170, t171] : List Int))).bind fun t175 => (some t175)))
def impl_CanSettle.T1 : Bool × List (List Nat × List Nat) := (true, [([], []), ([0], [0]), ([], []), ([], []), ([2, 3, 1], [2, 3]), ([1, 4], [1, 4]), ([5, 4], [5]), ([6, 6, 0, 1, 2, 3, 4, 5, 6], [6])])
def impl_CanSettle.B1 : List Nat := [0, 1, 0, 0, 15, 31, 63, 127]
theorem impl_CanSettle.tab1 : rtab .any (opsOf Try.f52 1) = impl_CanSettle.T1 := by kernel_rfl
theorem impl_CanSettle.bits1 : waitsOk impl_CanSettle.T1.2 impl_CanSettle.B1 = true := by kernel_rfl
set_option maxHeartbeats 8000000 in
set_option maxRecDepth 100000 in
theorem impl_CanSettle.calls (k : Nat) (A0_0 : Option Addr) (c0_0 : Nat) (l0_0 : List (List (S104))) (a1_0 : Int) (A1_1 : Option Addr) (c1_1 : Nat) (l1_1 : List (S86)) (r : Int) (w : World) (hr0_0 : Kd.C (Kd.slice 104 k104) w A0_0 l0_0.length l0_0) (hc0_0 : l0_0.length ≤ c0_0) (hr1_1 : Kd.C k86 w A1_1 l1_1.length l1_1) (hc1_1 : l1_1.length ≤ c1_1) (h : impl_CanSettle.f k l0_0 a1_0 l1_1 = some r) :
  Calls Try.prog 52 #[.agg #[.slice A0_0 l0_0.length c0_0], .agg #[.int .i64 a1_0, .slice A1_1 l1_1.length c1_1]] w fun e w' => e = .returned (.int .i64 r) ∧ Below w.heap.size w w' := by
 have hu26 := Try.underlying26
 have hu40 := Try.underlying40
 have HR0_0 := Aside0.mk hr0_0
 have HC0_0 := Aside0.mk hc0_0
 clear hr0_0 hc0_0
 have HR1_1 := Aside0.mk hr1_1
 have HC1_1 := Aside0.mk hc1_1
 clear hr1_1 hc1_1
 have HB := Aside0.mk (Below.refl w.heap.size w)
 have H : ((impl_LedgerFault.f k l0_0).bind fun t170 => ((impl_canSettle.f k l0_0 a1_0 l1_1).bind fun t171 => ((impl_firstOf.f k (([t170, t171] : List Int))).bind fun t175 => (some t175)))) = some r := h
 clear h
 replace H := Option.bind_eq_some_iff.mp H
 obtain ⟨t170, A30, H⟩ := H
 replace H : ((impl_canSettle.f k l0_0 a1_0 l1_1).bind fun t171 => ((impl_firstOf.f k (([t170, t171] : List Int))).bind fun t175 => (some t175))) = some r := H
 have A3 := Aside0.mk A30
 clear A30
 replace H := Option.bind_eq_some_iff.mp H
 obtain ⟨t171, A40, H⟩ := H
 replace H : ((impl_firstOf.f k (([t170, t171] : List Int))).bind fun t175 => (some t175)) = some r := H
 have A4 := Aside0.mk A40
 clear A40
 obtain ⟨y172, hy172⟩ : ∃ y_ : List Int, y_ = (([t170, t171] : List Int)) := ⟨_, rfl⟩
 replace H : ((impl_firstOf.f k y172).bind fun t175 => (some t175)) = some r := q_h hy172 H
 have Ny172 := Aside0.mk hy172
 clear hy172
 replace H := Option.bind_eq_some_iff.mp H
 obtain ⟨t175, A50, H⟩ := H
 replace H : (some t175) = some r := H
 have A5 := Aside0.mk A50
 clear A50
 obtain rfl := Option.some.inj H
 go_enter Try.func52, Try.ntmps52
 try go_wp2_with (first | ((with_reducible refine gate_dst (N := 2) rfl ?_); refine q_box (N := 2) (cs := #[.slice A0_0 l0_0.length c0_0]) (t := 26) ?_; intro gb168 hg w6 hbox hb; have n0_ := Aside0.mk (below_step bq hb); have n1_ := Aside0.mk (hbox); have n2_ := Aside0.mk ((q_g hg bq : w.heap.size ≤ gb168)); have n3_ := Aside0.mk ((q_g hg bq : w.heap.size ≤ gb168)); revert n0_ n1_ n2_ n3_; clear HB; intro HB BK168 GW168 GE168; clear hb hbox hg) | ((with_reducible refine gate_dst (N := 3) rfl ?_); refine q_box (N := 3) (cs := #[.int .i64 a1_0, .slice A1_1 l1_1.length c1_1]) (t := 40) ?_; intro gb169 hg w7 hbox hb; have n0_ := Aside0.mk (blk_below (q_b BK168.out) hb); have n1_ := Aside0.mk (below_step bq hb); have n2_ := Aside0.mk (hbox); have n3_ := Aside0.mk ((q_g hg bq : w.heap.size ≤ gb169)); have n4_ := Aside0.mk ((q_g hg bq : w.heap.size ≤ gb169)); have n5_ := Aside0.mk ((q_n hg (q_b BK168.out) : gb168 ≠ gb169)); have n6_ := Aside0.mk ((q_m hg (q_b BK168.out) : gb169 ≠ gb168)); revert n0_ n1_ n2_ n3_ n4_ n5_ n6_; clear BK168 HB; intro BK168 HB BK169 GW169 GE169 NB168_169 NB169_168; clear hb hbox hg))
 have n0_ := Aside0.mk (blk_drew BK168.out)
 have n1_ := Aside0.mk (blk_drew BK169.out)
 have n2_ := Aside0.mk (below_drew1 HB.out)
 clear BK168
 clear BK169
 clear HB
 have BK168 := n0_
 have BK169 := n1_
 have HB := n2_
 clear n0_ n1_ n2_
 refine start_ (n := 8) (S := fun w' => w'.cell? ⟨gb168, 0, none⟩ = some (.slice A0_0 l0_0.length c0_0) ∧ w'.cell? ⟨gb169, 0, none⟩ = some (.int .i64 a1_0) ∧ w'.cell? ⟨gb169, 1, none⟩ = some (.slice A1_1 l1_1.length c1_1)) (ds := []) #[false, false, false, false, false, false, false, false] (by kernel_rfl) rfl rfl ⟨q_z BK168.out 0, q_z BK169.out 0, q_z BK169.out 1⟩ (fun hHeld => ?_); refine with_tabW impl_CanSettle.tab1 impl_CanSettle.bits1 (fun HT_ HW_ => ?_)
 generalize w7.drew = w8 at BK168 BK169 HB hHeld ⊢
 refine q_t 0 (some 5) #[true, false, false, false, false, false, false, false] HT_.out HW_.out hHeld ?_
 refine q_t 2 (some 7) #[true, false, true, false, false, false, false, false] HT_.out HW_.out hHeld ?_
 refine q_t 3 (some 8) #[true, false, true, true, false, false, false, false] HT_.out HW_.out hHeld ?_
 refine one_ (i := 1) (N := some 6) #[true, true, true, true, false, false, false, false] rfl rfl (one_of HT_.out (by kernel_rfl)) (by decide) (fun K hK => ?_)
 refine goes_ Try.func17 (by kernel_rfl) rfl #[.agg #[.slice A0_0 l0_0.length c0_0]] (by rfl) rfl rfl (by (try simp only [List.map_toArray, List.map_cons, List.map_nil]); first | done | rfl | (simp only [List.length_drop, List.length_take]; rfl)) ?_
 with_reducible refine (impl_LedgerFault.calls k _ _ l0_0 t170 _ ?side1 ?side2 A3.out).mono ?_
 (case side1 => exact q_c ((Kd.C_below HR0_0.out HB.out)))
 (case side2 => exact HC0_0.out)
 rintro e w9 ⟨rfl, hb⟩
 refine ⟨_, rfl, ?_⟩
 have n0_ := Aside0.mk (blk_below (q_b BK168.out) hb)
 have n1_ := Aside0.mk (blk_below (q_b BK169.out) hb)
 have n2_ := Aside0.mk (below_step bq hb)
 clear BK168
 clear BK169
 clear HB
 have BK168 := n0_
 have BK169 := n1_
 have HB := n2_
 clear n0_ n1_ n2_
 (try clear hb)
 (try clear hb2)
 (try clear hk)
 (try clear hi)
 refine hK.out _ _ ⟨q_z BK168.out 0, q_z BK169.out 0, q_z BK169.out 1⟩ (fun hHeld => ?_)
 clear hK K
 refine norm_ (a' := ?_) ?_ ?_
 rotate_left
 ·show Act.put _ (some 6) _ = _
  simp only [Act.put, List.setIfInBounds_toArray, List.set_cons_zero, List.set_cons_succ, i64_w, i32_w]
  rfl
 refine one_ (i := 4) (N := some 9) #[true, true, true, true, true, false, false, false] rfl rfl (one_of HT_.out (by kernel_rfl)) (by decide) (fun K hK => ?_)
 refine goes_ Try.func61 (by kernel_rfl) rfl #[.agg #[.slice A0_0 l0_0.length c0_0], .agg #[.int .i64 a1_0, .slice A1_1 l1_1.length c1_1]] (by rfl) rfl rfl (by (try simp only [List.map_toArray, List.map_cons, List.map_nil]); first | done | rfl | (simp only [List.length_drop, List.length_take]; rfl)) ?_
 with_reducible refine (impl_canSettle.calls k _ _ l0_0 a1_0 _ _ l1_1 t171 _ ?side1 ?side2 ?side3 ?side4 A4.out).mono ?_
 (case side1 => exact q_c ((Kd.C_below HR0_0.out HB.out)))
 (case side2 => exact HC0_0.out)
 (case side3 => exact q_c ((Kd.C_below HR1_1.out HB.out)))
 (case side4 => exact HC1_1.out)
 rintro e w10 ⟨rfl, hb⟩
 refine ⟨_, rfl, ?_⟩
 have n0_ := Aside0.mk (blk_below (q_b BK168.out) hb)
 have n1_ := Aside0.mk (blk_below (q_b BK169.out) hb)
 have n2_ := Aside0.mk (below_step bq hb)
 clear BK168
 clear BK169
 clear HB
 have BK168 := n0_
 have BK169 := n1_
 have HB := n2_
 clear n0_ n1_ n2_
 (try clear hb)
 (try clear hb2)
 (try clear hk)
 (try clear hi)
 refine hK.out _ _ ⟨q_z BK168.out 0, q_z BK169.out 0, q_z BK169.out 1⟩ (fun hHeld => ?_)
 clear hK K
 refine norm_ (a' := ?_) ?_ ?_
 rotate_left
 ·show Act.put _ (some 9) _ = _
  simp only [Act.put, List.setIfInBounds_toArray, List.set_cons_zero, List.set_cons_succ, i64_w, i32_w]
  rfl
 refine one_ (i := 5) (N := some 10) #[true, true, true, true, true, true, false, false] rfl rfl (one_of HT_.out (by kernel_rfl)) (by decide) (fun K hK => ?_)
 refine Kd.R_lit_step (Kd.int .i64) _ 2 ?hg (N := 10) ?hd (xs := ([t170, t171] : List Int)) (inner := [.int .i64 t170, .int .i64 t171]) (ok := fun _ => True) (okp := fun _ => True) ?hr ?hp (fun _ hk => hk) trivial (Below.refl _ _) (Nat.le_refl _) (by simp) ?_; (case hd => rfl); (case hg => rfl); (case hr => first | (go_simp; done) | (go_simp; rfl)); (case hp => exact (Reps.one (show Kd.M (Kd.int .i64) _ _ _ t170 [.int .i64 t170] from rfl) (Reps.one (show Kd.M (Kd.int .i64) _ _ _ t171 [.int .i64 t171] from rfl) (Reps.none _ _))))
 intro v173 w11 ho12 hb hg_ hnew_
 clear hg_ hnew_
 (first | rw [← Ny172.out] at ho12 | (simp only [Int.reduceToNat] at ho12; rw [← Ny172.out] at ho12))
 have n0_ := Aside0.mk (Kd.R_lower ho12 (below_size bq))
 have n1_ := Aside0.mk (blk_below (q_b BK168.out) hb)
 have n2_ := Aside0.mk (blk_below (q_b BK169.out) hb)
 have n3_ := Aside0.mk (below_step bq hb)
 clear BK168
 clear BK169
 clear HB
 have HO174 := n0_
 have BK168 := n1_
 have BK169 := n2_
 have HB := n3_
 clear n0_ n1_ n2_ n3_
 clear hb ho12
 obtain ⟨Ao13, co13, eo13⟩ := Kd.R_slice HO174.out
 (first | subst eo13 | (injection eo13 with f1_ f2_ f3_; have f4_ := f1_.symm; have f5_ := f3_.symm; clear f1_ f2_ f3_; subst f4_; subst f5_))
 refine hK.out _ _ ⟨q_z BK168.out 0, q_z BK169.out 0, q_z BK169.out 1⟩ (fun hHeld => ?_)
 clear hK K
 refine norm_ (a' := ?_) ?_ ?_
 rotate_left
 ·show Act.put _ (some 10) _ = _
  simp only [Act.put, List.setIfInBounds_toArray, List.set_cons_zero, List.set_cons_succ, i64_w, i32_w]
  rfl
 refine one_ (i := 6) (N := some 11) #[true, true, true, true, true, true, true, false] rfl rfl (one_of HT_.out (by kernel_rfl)) (by decide) (fun K hK => ?_)
 refine goes_ Try.func91 (by kernel_rfl) rfl #[.slice Ao13 y172.length co13] (by rfl) rfl rfl (by (try simp only [List.map_toArray, List.map_cons, List.map_nil]); first | done | rfl | (simp only [List.length_drop, List.length_take]; rfl)) ?_
 with_reducible refine (impl_firstOf.calls k _ _ y172 t175 _ ?side1 ?side2 A5.out).mono ?_
 (case side1 => exact q_c ((Kd.R_reads' HO174.out).2.2))
 (case side2 => exact (Kd.R_reads' HO174.out).2.1)
 rintro e w' ⟨rfl, ⟨nd, rfl⟩⟩
 refine ⟨_, rfl, ?_⟩
 refine hK.out _ _ ⟨q_z BK168.out 0, q_z BK169.out 0, q_z BK169.out 1⟩ (fun hHeld => ?_)
 clear hK K
 refine norm_ (a' := ?_) ?_ ?_
 rotate_left
 ·show Act.put _ (some 11) _ = _
  simp only [Act.put, List.setIfInBounds_toArray, List.set_cons_zero, List.set_cons_succ, i64_w, i32_w]
  rfl
 refine q_p 7 (some 4) #[true, true, true, true, true, true, true, true] HT_.out ?_
 refine done_ (done_of HT_.out (by kernel_rfl)) ?_
 try go_wp2
 go_ret
 exact ⟨q_e, bq⟩

/-! ### slices_Clone_impl_Balance: function 98 -/
def slices_Clone_impl_Balance.f (l0 : List (S104)) : Option ((List (S104))) := (some (([] : List (S104)) : List (S104))).bind fun y176 => (if y176.length + l0.length < 5864062014805 then (some (y176 ++ l0)) else (none))
set_option maxHeartbeats 8000000 in
set_option maxRecDepth 100000 in
theorem slices_Clone_impl_Balance.calls (A0 : Option Addr) (c0 : Nat) (l0 : List (S104)) (r : List (S104)) (w : World) (hr0 : Kd.C k104 w A0 l0.length l0) (hc0 : l0.length ≤ c0) (h : slices_Clone_impl_Balance.f l0 = some r) :
  Calls Try.prog 98 #[.slice A0 l0.length c0] w fun e w' => ∃ v0_ : Value, e = .returned (v0_) ∧ Kd.R k104 104 w' w.heap.size (fun _ => True) v0_ r ∧ Below w.heap.size w w' := by
 cases A0 with
 | none =>
  have hz : l0 = [] := by
   by_cases h0 : 0 < l0.length
   ·obtain ⟨ad, e_, _⟩ := hr0.2.2 h0
    cases e_
   ·exact List.length_eq_zero_iff.1 (by omega)
  subst hz
  have hr : r = [] := by
   have h2 : slices_Clone_impl_Balance.f [] = some [] := by first | rfl | decide | (simp only [Option.bind_some, List.append_nil]; rfl)
   rw [h2] at h
   exact (Option.some.inj h).symm
  subst hr
  have hnil : ∀ W, (binOp .eql 64 (.slice none 0 c0) (.slice none 0 0)).run Try.prog W = .ok (.bool true) W := fun W => Lib.run_eql_slice_nil_nil W _ _ Try.underlying64
  show Calls Try.prog 98 #[.slice none 0 c0] w _
  go_enter Try.func98, Try.ntmps98
  go_wp2
  go_ret
  exact ⟨_, rfl, Kd.R_nil _ _ _ _ _, by repeat (first | exact Below.refl _ _ | apply below_drew1)⟩
 | some ad0 =>
  have hnil : ∀ W, (binOp .eql 64 (.slice (some ad0) l0.length c0) (.slice none 0 0)).run Try.prog W = .ok (.bool false) W := fun W => Lib.run_eql_slice_some_nil W _ _ _ Try.underlying64
  have HR0 := Aside0.mk hr0
  have HC0 := Aside0.mk hc0
  clear hr0 hc0
  have HB := Aside0.mk (Below.refl w.heap.size w)
  have H : ((some (([] : List (S104)) : List (S104))).bind fun y176 => (if y176.length + l0.length < 5864062014805 then (some (y176 ++ l0)) else (none))) = some r := h
  clear h
  obtain ⟨y176, hy176⟩ : ∃ y_ : List (S104), y_ = (([] : List (S104))) := ⟨_, rfl⟩
  replace H : (if y176.length + l0.length < 5864062014805 then (some (y176 ++ l0)) else (none)) = some r := q_h hy176 H
  have Ny176 := Aside0.mk hy176
  clear hy176
  by_cases c2 : y176.length + l0.length < 5864062014805
  ·rw [if_pos c2] at H
   have LMc2 := Aside0.mk c2
   clear c2
   obtain ⟨y179, hy179⟩ : ∃ y_ : List (S104), y_ = (y176 ++ l0) := ⟨_, rfl⟩
   replace H : (some y179) = some r := q_h hy179 H
   have Ny179 := Aside0.mk hy179
   clear hy179
   obtain rfl := Option.some.inj H
   go_enter Try.func98, Try.ntmps98
   go_wp2_with (first | ((with_reducible refine gate_dst (N := 5) rfl ?_); refine Kd.R_lit k104 _ 104 ?hg (N := 5) ?hd (xs := ([] : List (S104))) (inner := []) (ok := fun _ => True) (okp := fun _ => True) ?hr ?hp (fun _ hk => hk) trivial (Below.refl _ _) (Nat.le_refl _) (by simp) ?_; (case hd => rfl); (case hg => rfl); (case hr => first | (go_simp; done) | (go_simp; rfl)); (case hp => exact (Reps.none _ _)); intro v177 w3 ho4 hb hg_ hnew_; clear hg_ hnew_; (first | rw [← Ny176.out] at ho4 | (simp only [Int.reduceToNat] at ho4; rw [← Ny176.out] at ho4)); have n0_ := Aside0.mk (Kd.R_lower ho4 (below_size bq)); have n1_ := Aside0.mk (below_step bq hb); revert n0_ n1_; clear HB; intro HO178 HB; clear hb ho4) | ((with_reducible refine gate_builtin (b := .append) (xs := #[.tmp 5, .tmp 6]) rfl ?_); at_builtin; refine Kd.R_append_rows k104 (w0 := w) w.heap.size rfl (.tmp 5) (.tmp 6) 64 104 (.agg #[(.int .i64 0), (.int .i64 0), (.int .i64 0)]) 24 rfl Try.underlying64 info104 rfl (by decide) (by omega) v177 y176 l0 _ _ _ (fun _ => True) (fun _ => False) rfl rfl ?aO ?aR (fun _ _ h => h) (fun _ h => h.elim) ?aF ?aB ?aS ?aL ?_; (case aR => repeat (first | exact (Kd.C_below HR0.out HB.out) | (with_reducible refine Kd.C_alloc ?_ _) | (with_reducible refine Kd.C_drewN ?_ _) | (with_reducible refine Kd.C_drew ?_))); (case aB => exact bq); (case aF => exact (fun _ _ => trivial)); (case aO => exact (q_r (HO178.out))); (case aS => exact (below_size bq)); (case aL => have := LMc2.out; omega); intro v180 w5 ho hb hg hat; rw [← Ny179.out] at ho; have n0_ := Aside0.mk (hb); have n1_ := Aside0.mk (ho); revert n0_ n1_; clear HB HO178; intro HB HO181; clear ho hb hg hat))
   go_ret
   exact ⟨_, q_e, q_r (HO181.out), bq⟩
  ·rw [if_neg c2] at H
   exact absurd H (by simp)


/-! ### impl_copyLedger: function 60 -/
def impl_copyLedger.l0 : Nat → List (List (S104)) → Int → Int → List (List (S104)) → Option ((List (List (S104))))
  | 0, _, _, _, _ => none
  | k + 1, x8, x9, x10, x185000 => if x10 < x9 then (if 0 ≤ x10 then (if x10 < (x8.length : Int) then ((slices_Clone_impl_Balance.f (rd_L2 x8 x10)).bind fun t186 => (if x185000.length < 5864062014805 then (impl_copyLedger.l0 k x8 x9 (wrap64 (x10 + 1)) (x185000 ++ [t186])) else (none))) else (none)) else (none)) else (some x185000)
def impl_copyLedger.f (k : Nat) (l0_0 : List (List (S104))) : Option ((List (List (S104)))) := impl_copyLedger.l0 k l0_0 (l0_0.length : Int) 0 ([] : List (List (S104)))
def impl_copyLedger.T5 : Bool × List (List Nat × List Nat) := (true, [([], []), ([0], [0]), ([], []), ([2], [2]), ([3], [3]), ([1, 4, 3], [1, 4]), ([0, 1, 2, 3, 4, 5], []), ([6, 5, 5, 0, 1, 2, 3, 4, 5], [5, 6])])
def impl_copyLedger.B5 : List Nat := [0, 1, 0, 4, 12, 31, 63, 127]
theorem impl_copyLedger.tab5 : rtab .any (opsOf Try.f60 5) = impl_copyLedger.T5 := by kernel_rfl
theorem impl_copyLedger.bits5 : waitsOk impl_copyLedger.T5.2 impl_copyLedger.B5 = true := by kernel_rfl
set_option maxHeartbeats 8000000 in
set_option maxRecDepth 100000 in
theorem impl_copyLedger.calls (k : Nat) (A0_0 : Option Addr) (c0_0 : Nat) (l0_0 : List (List (S104))) (r : List (List (S104))) (w : World) (hr0_0 : Kd.C (Kd.slice 104 k104) w A0_0 l0_0.length l0_0) (hc0_0 : l0_0.length ≤ c0_0) (h : impl_copyLedger.f k l0_0 = some r) :
  Calls Try.prog 60 #[.agg #[.slice A0_0 l0_0.length c0_0]] w fun e w' => ∃ v0_ : Value, e = .returned (.agg #[v0_]) ∧ Kd.S (Kd.slice 104 k104) 64 w' w.heap.size (fun _ => True) v0_ r ∧ Below w.heap.size w w' := by
 have hu26 := Try.underlying26
 have HR0_0 := Aside0.mk hr0_0
 have HC0_0 := Aside0.mk hc0_0
 clear hr0_0 hc0_0
 have HB := Aside0.mk (Below.refl w.heap.size w)
 have H : (impl_copyLedger.l0 k l0_0 (l0_0.length : Int) 0 ([] : List (List (S104)))) = some r := h
 clear h
 have H' := Aside0.mk H
 clear H
 go_enter Try.func60, Try.ntmps60
 go_wp2_with (first | ((with_reducible refine gate_dst (N := 1) rfl ?_); refine q_box (N := 1) (cs := #[.slice A0_0 l0_0.length c0_0]) (t := 26) ?_; intro gb182 hg w2 hbox hb; have n0_ := Aside0.mk (below_step bq hb); have n1_ := Aside0.mk (hbox); have n2_ := Aside0.mk ((q_g hg bq : w.heap.size ≤ gb182)); have n3_ := Aside0.mk ((q_g hg bq : w.heap.size ≤ gb182)); revert n0_ n1_ n2_ n3_; clear HB; intro HB BK182 GW182 GE182; clear hb hbox hg) | ((with_reducible refine gate_dst (N := 2) rfl ?_); refine q_box (N := 2) (cs := #[.slice none 0 0]) (t := 26) ?_; intro gb183 hg w3 hbox hb; have n0_ := Aside0.mk (blk_below (q_b BK182.out) hb); have n1_ := Aside0.mk (below_step bq hb); have n2_ := Aside0.mk (hbox); have n3_ := Aside0.mk ((q_g hg bq : w.heap.size ≤ gb183)); have n4_ := Aside0.mk ((q_g hg bq : w.heap.size ≤ gb183)); have n5_ := Aside0.mk ((q_n hg (q_b BK182.out) : gb182 ≠ gb183)); have n6_ := Aside0.mk ((q_m hg (q_b BK182.out) : gb183 ≠ gb182)); revert n0_ n1_ n2_ n3_ n4_ n5_ n6_; clear BK182 HB; intro BK182 HB BK183 GW183 GE183 NB182_183 NB183_182; clear hb hbox hg) | ((with_reducible refine gate_dst (N := 3) rfl ?_); refine q_box (N := 3) (cs := #[.slice none 0 0]) (t := 26) ?_; intro gb184 hg w4 hbox hb; have n0_ := Aside0.mk (blk_below (q_b BK182.out) hb); have n1_ := Aside0.mk (blk_below (q_b BK183.out) hb); have n2_ := Aside0.mk (below_step bq hb); have n3_ := Aside0.mk (hbox); have n4_ := Aside0.mk ((q_g hg bq : w.heap.size ≤ gb184)); have n5_ := Aside0.mk ((q_g hg bq : w.heap.size ≤ gb184)); have n6_ := Aside0.mk ((q_n hg (q_b BK182.out) : gb182 ≠ gb184)); have n7_ := Aside0.mk ((q_m hg (q_b BK182.out) : gb184 ≠ gb182)); have n8_ := Aside0.mk ((q_n hg (q_b BK183.out) : gb183 ≠ gb184)); have n9_ := Aside0.mk ((q_m hg (q_b BK183.out) : gb184 ≠ gb183)); revert n0_ n1_ n2_ n3_ n4_ n5_ n6_ n7_ n8_ n9_; clear BK182 BK183 HB; intro BK182 BK183 HB BK184 GW184 GE184 NB182_184 NB184_182 NB183_184 NB184_183; clear hb hbox hg; have hnb5 := NB184_182.out; have hnc5 := NB182_184.out; have hnb6 := NB184_183.out; have hnc6 := NB183_184.out; obtain ⟨hcz7_0, hfz7_0⟩ := q_1 BK184.out; have hnb8 := NB182_183.out; have hnc8 := NB183_182.out; obtain ⟨hcz9_0, hfz9_0⟩ := q_1 BK182.out))
 go_loopg [10] k (fun kq v10 w' => ∃ (x10_1 : Int) (x185000_1 : List (List (S104))) (u185000 : Value), v10 = .int .i64 x10_1 ∧ Aside0 (impl_copyLedger.l0 kq l0_0 (l0_0.length : Int) x10_1 x185000_1 = some r) ∧ Aside0 (kq ≤ k) ∧ Aside0 (Kd.S (Kd.slice 104 k104) 64 w' w.heap.size (fun _ => True) u185000 x185000_1) ∧ Aside0 (w'.heap[gb182]? = some (.cells #[(.slice A0_0 l0_0.length c0_0)] 26 (0, 0))) ∧ Aside0 (w'.heap[gb183]? = some (.cells #[(.slice none 0 0)] 26 (0, 0))) ∧ Aside0 (w'.heap[gb184]? = some (.cells #[u185000] 26 (0, 0))) ∧ Aside0 (Below w.heap.size w w'))
 case atStart => exact ⟨(0), (([] : List (List (S104)))), (.slice none 0 0), q_i, H', ⟨Nat.le_refl _⟩, ⟨by first | exact Kd.S_nil _ _ _ _ _ | exact Kd.N_nil _ _ _ _ _ | exact Kd.V_nil _ _ _ _ _ | exact Kd.Q_nil _ _ _ _ _ | exact Kd.R_nil _ _ _ _ _⟩, ⟨by (with_reducible repeat (first | refine blk_drewN ?_ _ | refine blk_drew ?_ | refine blk_alloc ?_ _)); refine blk_far ?_ NB182_184.out _; (with_reducible repeat (first | refine blk_drewN ?_ _ | refine blk_drew ?_ | refine blk_alloc ?_ _)); exact BK182.out⟩, ⟨by (with_reducible repeat (first | refine blk_drewN ?_ _ | refine blk_drew ?_ | refine blk_alloc ?_ _)); refine blk_far ?_ NB183_184.out _; (with_reducible repeat (first | refine blk_drewN ?_ _ | refine blk_drew ?_ | refine blk_alloc ?_ _)); exact BK183.out⟩, ⟨by (with_reducible repeat (first | refine blk_drewN ?_ _ | refine blk_drew ?_ | refine blk_alloc ?_ _)); refine blk_put (cs := #[.slice none 0 0]) ?_ 0 _ rfl; (with_reducible repeat (first | refine blk_drewN ?_ _ | refine blk_drew ?_ | refine blk_alloc ?_ _)); exact BK184.out⟩, ⟨bq⟩⟩
 case round =>
  clear H'
  (try clear p2); (try clear c5); (try clear c6); (try clear c8); (try clear hcz7_0); (try clear hcz9_0); (try clear hfz7_0); (try clear hfz9_0)
  obtain ⟨x10_1, x185000_1, u185000, rfl, HA, HK1, HO_185000, BK182, BK183, BK184, HB⟩ := hrel
  cases gk with
  | zero => exact absurd HA.out (by simp [impl_copyLedger.l0])
  | succ k1 =>
   have H := HA.out
   clear HA
   simp only [impl_copyLedger.l0] at H
   by_cases c10 : x10_1 < (l0_0.length : Int)
   ·rw [if_pos c10] at H
    have c10b0 := decide_eq_true c10
    clear c10
    by_cases c11 : 0 ≤ x10_1
    ·rw [if_pos c11] at H
     have c11b0 := decide_eq_true c11
     clear c11
     by_cases c12 : x10_1 < (l0_0.length : Int)
     ·rw [if_pos c12] at H
      have c12b0 := decide_eq_true c12
      clear c12
      replace H := Option.bind_eq_some_iff.mp H
      obtain ⟨t186, A130, H⟩ := H
      replace H : (if x185000_1.length < 5864062014805 then (impl_copyLedger.l0 k1 l0_0 (l0_0.length : Int) (wrap64 (x10_1 + 1)) (x185000_1 ++ [t186])) else (none)) = some r := H
      have A13 := Aside0.mk A130
      clear A130
      by_cases c14 : x185000_1.length < 5864062014805
      ·rw [if_pos c14] at H
       have LMc14 := Aside0.mk c14
       clear c14
       obtain ⟨y189, hy189⟩ : ∃ y_ : List (List (S104)), y_ = (x185000_1 ++ [t186]) := ⟨_, rfl⟩
       replace H : (impl_copyLedger.l0 k1 l0_0 (l0_0.length : Int) (wrap64 (x10_1 + 1)) y189) = some r := q_h hy189 H
       have Ny189 := Aside0.mk hy189
       clear hy189
       have H' := Aside0.mk H
       clear H
       have p185 : 0 ≤ (x10_1 : Int) := q_d
       have q185 : x10_1 < (l0_0.length : Int) := q_d
       obtain ⟨ad185, A185_0, c185_0, e185, hx185_0, hl185_0, hi185_0⟩ := at_L2 HR0_0.out x10_1 p185 q185
       cases e185
       replace hx185_0 := q_x HB.out hx185_0
       have HR185_0 := Aside0.mk hi185_0
       have HC185_0 := Aside0.mk hl185_0
       clear hi185_0 hl185_0
       replace p185 := eq_true p185
       replace q185 := eq_true q185
       try go_wp2
       have n0_ := Aside0.mk (Kd.S_drew HO_185000.out)
       have n1_ := Aside0.mk (blk_drew BK182.out)
       have n2_ := Aside0.mk (blk_drew BK183.out)
       have n3_ := Aside0.mk (blk_drew BK184.out)
       have n4_ := Aside0.mk (below_drew1 HB.out)
       clear HO_185000
       clear BK182
       clear BK183
       clear BK184
       clear HB
       have HO_185000 := n0_
       have BK182 := n1_
       have BK183 := n2_
       have BK184 := n3_
       have HB := n4_
       clear n0_ n1_ n2_ n3_ n4_
       refine start_ (n := 8) (S := fun w' => w'.cell? ⟨gb184, 0, none⟩ = some (u185000)) (ds := [7]) #[false, false, false, false, false, false, false, false] (by kernel_rfl) rfl rfl ((blk_cell BK184.out 0).trans rfl) (fun hHeld => ?_); refine with_tabW impl_copyLedger.tab5 impl_copyLedger.bits5 (fun HT_ HW_ => ?_)
       generalize wr.drew = w15 at HO_185000 BK182 BK183 BK184 HB hHeld ⊢
       refine q_p 0 (some 14) #[true, false, false, false, false, false, false, false] HT_.out ?_
       refine q_p 2 (some 16) #[true, false, true, false, false, false, false, false] HT_.out ?_
       refine q_t 1 (some 15) #[true, true, true, false, false, false, false, false] HT_.out HW_.out hHeld ?_
       refine one_ (i := 3) (N := some 17) #[true, true, true, true, false, false, false, false] rfl rfl (one_of HT_.out (by kernel_rfl)) (by decide) (fun K hK => ?_)
       refine goes_ Try.func98 (by kernel_rfl) rfl #[.slice A185_0 (rd_L2 l0_0 x10_1).length c185_0] (by rfl) rfl rfl (by (try simp only [List.map_toArray, List.map_cons, List.map_nil]); first | done | rfl | (simp only [List.length_drop, List.length_take]; rfl)) ?_
       with_reducible refine (slices_Clone_impl_Balance.calls _ _ (rd_L2 l0_0 x10_1) t186 _ ?side1 ?side2 A13.out).mono ?_
       (case side1 => exact q_c ((Kd.C_below HR185_0.out HB.out)))
       (case side2 => exact HC185_0.out)
       rintro e w16 ⟨v187, rfl, ho0, hb⟩
       refine ⟨_, rfl, ?_⟩
       have n0_ := Aside0.mk (Kd.S_elder' (q_s (HO_185000.out)) (Kd.R_base ho0) hb)
       have n1_ := Aside0.mk (Kd.R_lower ho0 (below_size bq))
       have n2_ := Aside0.mk (blk_below (q_b BK182.out) hb)
       have n3_ := Aside0.mk (blk_below (q_b BK183.out) hb)
       have n4_ := Aside0.mk (blk_below (q_b BK184.out) hb)
       have n5_ := Aside0.mk (below_step bq hb)
       clear HO_185000
       clear BK182
       clear BK183
       clear BK184
       clear HB
       have HO_185000 := n0_
       have HO188 := n1_
       have BK182 := n2_
       have BK183 := n3_
       have BK184 := n4_
       have HB := n5_
       clear n0_ n1_ n2_ n3_ n4_ n5_
       (try clear hb)
       (try clear hb2)
       (try clear hk)
       (try clear hi)
       (try clear ho0)
       obtain ⟨Ao18, co18, eo18⟩ := Kd.R_slice HO188.out
       (first | subst eo18 | (injection eo18 with f1_ f2_ f3_; have f4_ := f1_.symm; have f5_ := f3_.symm; clear f1_ f2_ f3_; subst f4_; subst f5_))
       refine hK.out _ _ ((blk_cell BK184.out 0).trans rfl) (fun hHeld => ?_)
       clear hK K
       refine norm_ (a' := ?_) ?_ ?_
       rotate_left
       ·show Act.put _ (some 17) _ = _
        simp only [Act.put, List.setIfInBounds_toArray, List.set_cons_zero, List.set_cons_succ, i64_w, i32_w]
        rfl
       refine one_ (i := 4) (N := some 18) #[true, true, true, true, true, false, false, false] rfl rfl (one_of HT_.out (by kernel_rfl)) (by decide) (fun K hK => ?_)
       refine value_ (w1 := ?_) (v := ?_) (by rfl) rfl ?_ ?_
       rotate_left 2
       ·go_simp
        constructor
        ·rfl
        ·rfl
       refine hK.out _ _ ((blk_cell (blk_alloc BK184.out _) 0).trans rfl) (fun hHeld => ?_)
       clear hK K
       refine norm_ (a' := ?_) ?_ ?_
       rotate_left
       ·show Act.put _ (some 18) _ = _
        simp only [Act.put, List.setIfInBounds_toArray, List.set_cons_zero, List.set_cons_succ, i64_w, i32_w]
        rfl
       refine one_ (i := 5) (N := some 19) #[true, true, true, true, true, true, false, false] rfl rfl (one_of HT_.out (by kernel_rfl)) (by decide) (fun K hK => ?_)
       refine Kd.S_append_step (Kd.slice 104 k104) (w0 := w) w.heap.size (by rfl) (.tmp 15) (.tmp 18) 24 64 (.slice none 0 0) 24 rfl Try.underlying24 info64 rfl (by decide) (by omega) u185000 x185000_1 t186 [.slice Ao18 t186.length co18] (fun _ => True) (fun k_ => some k_ = (.slice Ao18 t186.length co18 : Value).ownBlock) rfl rfl ?aP (fun k_ hk_ => ((Kd.R_mono (ok' := fun k_ => ((fun _ => True)) k_ ∧ some k_ ≠ (u185000 : Value).ownBlock) (Kd.R_apart' (HO188.out) (Kd.S_typed HO_185000.out) (by decide)) (fun k_ hk => ⟨trivial, hk.2⟩))).1 k_ hk_.symm) ?aF ?aO ?aB ?aS ?aL ?_
       (case aP => exact Kd.M_row (Kd.R_mono (Kd.R_tight rfl (Kd.R_mono (ok' := fun k_ => ((fun _ => True)) k_ ∧ some k_ ≠ (u185000 : Value).ownBlock) (Kd.R_apart' (HO188.out) (Kd.S_typed HO_185000.out) (by decide)) (fun k_ hk => ⟨trivial, hk.2⟩))) (fun _ h_ => h_)))
       (case aB => exact bq)
       (case aF => exact (fun _ _ => trivial))
       (case aO => exact (by (with_reducible repeat (first | apply Kd.S_alloc | apply Kd.S_drewN | apply Kd.S_drew)); exact Kd.S_mono HO_185000.out (fun k_ hk => ⟨trivial, fun e_ => hk.2 e_⟩)))
       (case aS => exact (below_size bq))
       (case aL => have := LMc14.out; omega)
       intro v190 w17 ho hb hg hat
       rw [← Ny189.out] at ho
       have n0_ := Aside0.mk (blk_grown (q_b BK182.out) hg (Kd.S_ne HO_185000.out BK182.out (by decide)))
       have n1_ := Aside0.mk (blk_grown (q_b BK183.out) hg (Kd.S_ne HO_185000.out BK183.out (by decide)))
       have n2_ := Aside0.mk (blk_grown (q_b BK184.out) hg (Kd.S_ne HO_185000.out BK184.out (by decide)))
       have n3_ := Aside0.mk (hb)
       have n4_ := Aside0.mk (ho)
       clear BK182
       clear BK183
       clear BK184
       clear HB
       clear HO_185000
       clear HO188
       have BK182 := n0_
       have BK183 := n1_
       have BK184 := n2_
       have HB := n3_
       have HO191 := n4_
       clear n0_ n1_ n2_ n3_ n4_
       clear ho hb hg hat
       obtain ⟨Ao19, co19, eo19⟩ := Kd.S_slice HO191.out
       (first | subst eo19 | (injection eo19 with f1_ f2_ f3_; have f4_ := f1_.symm; have f5_ := f3_.symm; clear f1_ f2_ f3_; subst f4_; subst f5_))
       refine hK.out _ _ ((blk_cell BK184.out 0).trans rfl) (fun hHeld => ?_)
       clear hK K
       refine norm_ (a' := ?_) ?_ ?_
       rotate_left
       ·show Act.put _ (some 19) _ = _
        simp only [Act.put, List.setIfInBounds_toArray, List.set_cons_zero, List.set_cons_succ, i64_w, i32_w]
        rfl
       refine q_p 6 (some 20) #[true, true, true, true, true, true, true, false] HT_.out ?_
       refine last_ (i := 7) (N := none) #[true, true, true, true, true, true, true, true] rfl rfl (one_of HT_.out (by kernel_rfl)) (by decide) (fun K hK => ?_)
       have hs20 : w17.cell? ⟨gb184, 0, none⟩ = some (u185000) := (blk_cell BK184.out 0).trans rfl
       have hfs20 := blk_frozen BK184.out 0
       have hns20_0 := NB182_184.out
       have hns20_1 := NB183_184.out
       have hms20_0 := NB184_182.out
       have hms20_1 := NB184_183.out
       refine skip_ (w1 := ?_) (by rfl) rfl ?_ ?_
       rotate_left
       ·go_simp
        rfl
       refine hK.out _ _ ?_
       clear hK K
       refine done_ (done_of HT_.out (by kernel_rfl)) ?_
       try go_wp2
       go_roundg k1
       case measure => have := HK1.out; omega
       case rel => exact ⟨(wrap64 (x10_1 + 1)), (y189), (.slice Ao19 y189.length co19), q_i, H', ⟨by have := HK1.out; omega⟩, ⟨by (with_reducible repeat (first | apply Kd.S_alloc | apply Kd.S_drewN | apply Kd.S_drew)); exact Kd.S_mono (Kd.S_far (p := ⟨gb184, 0, none⟩) (Kd.S_types HO191.out BK184.out (by decide)) (fun _ hk => hk.2) (.slice Ao19 y189.length co19)) (fun _ hk => trivial)⟩, ⟨by (with_reducible repeat (first | refine blk_drewN ?_ _ | refine blk_drew ?_ | refine blk_alloc ?_ _)); refine blk_far ?_ NB182_184.out _; (with_reducible repeat (first | refine blk_drewN ?_ _ | refine blk_drew ?_ | refine blk_alloc ?_ _)); exact BK182.out⟩, ⟨by (with_reducible repeat (first | refine blk_drewN ?_ _ | refine blk_drew ?_ | refine blk_alloc ?_ _)); refine blk_far ?_ NB183_184.out _; (with_reducible repeat (first | refine blk_drewN ?_ _ | refine blk_drew ?_ | refine blk_alloc ?_ _)); exact BK183.out⟩, ⟨by (with_reducible repeat (first | refine blk_drewN ?_ _ | refine blk_drew ?_ | refine blk_alloc ?_ _)); refine blk_put (cs := #[u185000]) ?_ 0 _ rfl; (with_reducible repeat (first | refine blk_drewN ?_ _ | refine blk_drew ?_ | refine blk_alloc ?_ _)); exact BK184.out⟩, ⟨bq⟩⟩
      ·rw [if_neg c14] at H
       exact absurd H (by simp)
     ·rw [if_neg c12] at H
      exact absurd H (by simp)
    ·rw [if_neg c11] at H
     exact absurd H (by simp)
   ·rw [if_neg c10] at H
    have c10b0 := decide_eq_false c10
    clear c10
    obtain rfl := Option.some.inj H
    have hnb21 := NB184_182.out
    have hnc21 := NB182_184.out
    have hnb22 := NB184_183.out
    have hnc22 := NB183_184.out
    obtain ⟨hcz23_0, hfz23_0⟩ := q_1 BK184.out
    obtain ⟨Ao24, co24, eo24⟩ := Kd.S_slice HO_185000.out
    subst eo24
    have hnb25 := NB183_182.out
    have hnc25 := NB182_183.out
    obtain ⟨hcz26_0, hfz26_0⟩ := q_1 BK183.out
    go_wp2
    refine bodyPost_ret (results_cell_row rfl _ _ gb183 26 #[.slice Ao24 x185000_1.length co24] (0, 0) _ rfl (by (with_reducible repeat (first | refine blk_drewN ?_ _ | refine blk_drew ?_ | refine blk_alloc ?_ _)); refine blk_put (cs := #[.slice none 0 0]) ?_ 0 _ rfl; (with_reducible repeat (first | refine blk_drewN ?_ _ | refine blk_drew ?_ | refine blk_alloc ?_ _)); exact BK183.out) Try.underlying26 rfl (by kernel_rfl)) rfl ?_
    exact ⟨_, q_e, by (with_reducible repeat (first | apply Kd.S_alloc | apply Kd.S_drewN | apply Kd.S_drew)); exact Kd.S_mono (Kd.S_far (p := ⟨gb183, 0, none⟩) (Kd.S_types HO_185000.out BK183.out (by decide)) (fun _ hk => hk.2) (.slice Ao24 x185000_1.length co24)) (fun _ hk => trivial), bq⟩

end Go.Proofs.Ytanegggacfmkcaa.PFnExactSettleOne
