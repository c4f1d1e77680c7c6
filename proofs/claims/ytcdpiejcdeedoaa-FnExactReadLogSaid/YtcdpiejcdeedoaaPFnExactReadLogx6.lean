/- The functions that a law reaches, each as a plain Lean function with the proof that the machine comes to its answer: written by program (the kit's print, turned by wip/gen). No conditions. -/
import Derived.Test.YtcdpiejcdeedoaaPFnExactReadLogx0
import Derived.Test.YtcdpiejcdeedoaaPFnExactReadLogx1
import Derived.Test.YtcdpiejcdeedoaaPFnExactReadLogx2
import Derived.Test.YtcdpiejcdeedoaaPFnExactReadLogx4
import Derived.Test.YtcdpiejcdeedoaaPFnExactReadLogx5
namespace Go.Proofs.Ytcdpiejcdeedoaa.PFnExactReadLog
open Go.RowKit Go.Proofs.YtcdpiejcdeedoaaW.PrintWords Go.Proofs.YtcdpiejcdeedoaaW.PrintLast Go.Proofs.YtcdpiejcdeedoaaW.PrintMore
attribute [local go_sem] max2_int min2_int max_two min_two max_three min_three max_four min_four   -- for this text's walks alone
set_option linter.unusedVariables false
set_option linter.unusedSimpArgs false

/-! ### laws_FnExactReadLog: function 12 -/
theorem q_nR {α : Type} {d : Kd α} {e : Nat} {w wp wj : World} {ok : Nat → Prop} {v : Value} {r : List α} (hb : Below w.heap.size w wp) (ho : Kd.R d e wj wp.heap.size ok v r) : Kd.R d e wj w.heap.size (fun k_ => wp.heap.size ≤ k_ ∧ k_ < wj.heap.size) v r := Kd.R_lower (Kd.R_mono (Kd.R_bound ho) (fun _ h => ⟨h.2.1, h.2.2.1⟩)) (below_size hb)
theorem q_nS {α : Type} {d : Kd α} {e : Nat} {w wp wj : World} {ok : Nat → Prop} {v : Value} {r : List α} (hb : Below w.heap.size w wp) (ho : Kd.S d e wj wp.heap.size ok v r) : Kd.S d e wj w.heap.size (fun k_ => wp.heap.size ≤ k_ ∧ k_ < wj.heap.size) v r := Kd.S_lower (Kd.S_mono (Kd.S_bound ho) (fun _ h => ⟨h.2.1, h.2.2.1⟩)) (below_size hb)
theorem q_iv {a b c d : Nat} (h : b ≤ c) (k : Nat) (h1 : a ≤ k ∧ k < b) (h2 : c ≤ k ∧ k < d) : False := by omega
theorem q_vi {a b c d : Nat} (h : d ≤ a) (k : Nat) (h1 : a ≤ k ∧ k < b) (h2 : c ≤ k ∧ k < d) : False := by omega
theorem q_ig {a b g : Nat} (h : b ≤ g) (k : Nat) (h1 : a ≤ k ∧ k < b) (h2 : k = g) : False := by omega
theorem q_if {c : Prop} [Decidable c] {α : Type} {a : Option α} {r : α} (h : (if c then a else none) = some r) : c ∧ a = some r := by
  by_cases hc : c
  · rw [if_pos hc] at h; exact ⟨hc, h⟩
  · rw [if_neg hc] at h; cases h
theorem q_fi {c : Prop} [Decidable c] {α : Type} {a : Option α} {r : α} (h : (if c then none else a) = some r) : ¬ c ∧ a = some r := by
  by_cases hc : c
  · rw [if_pos hc] at h; cases h
  · rw [if_neg hc] at h; exact ⟨hc, h⟩
theorem q_lenR {α : Type} {d : Kd α} {e : Nat} {w : World} {b : Nat} {ok : Nat → Prop} {A : Option Addr} {n c : Nat} {xs : List α} (h : Kd.R d e w b ok (.slice A n c) xs) : d.C w A xs.length xs ∧ xs.length ≤ c ∧ n = xs.length := by have h_ := Kd.R_reads' h; exact ⟨h_.2.2, by rw [← h_.1]; exact h_.2.1, h_.1⟩
theorem q_lenS {α : Type} {d : Kd α} {e : Nat} {w : World} {b : Nat} {ok : Nat → Prop} {A : Option Addr} {n c : Nat} {xs : List α} (h : Kd.S d e w b ok (.slice A n c) xs) : d.C w A xs.length xs ∧ xs.length ≤ c ∧ n = xs.length := q_lenR (Kd.S_R h)
def laws_FnExactReadLog.f (k : Nat) (l0_0 : List Int) (l0_1 : List Int) : Option (Bool) := (laws_szLog.f l0_0 l0_1 1048576).bind fun b2 => (if b2 < 0 then (some true) else (laws_toLog.f k l0_0 l0_1).bind fun b3 => (spec_ReadLog.f k b3.1 b3.2).bind fun b4 => (laws_toLog.f k l0_0 l0_1).bind fun b7 => (impl_ReadLog.f k b7.1 b7.2).bind fun b10 => (laws_eqRecordsResult.f k b10.1 b10.2.1 b10.2.2 b4.1 b4.2.1 b4.2.2).bind fun b13 => (if b13 = true then (laws_toLog.f k l0_0 l0_1).bind fun b14 => (laws_eqLog.f k b7.1 b7.2 b14.1 b14.2).bind fun b15 => (if b15 = true then (laws_markLog.f k b7.1 b7.2 1).bind fun b16 => (if b16.1 < 0 then none else (laws_eqRecordsResult.f k b10.1 b10.2.1 b10.2.2 b4.1 b4.2.1 b4.2.2).bind fun b17 => (if b17 = true then (laws_markRecordsResult.f k b10.1 b10.2.1 b10.2.2 1).bind fun b18 => (laws_heldRecordsResult.f k b10.1 b10.2.1 b18.2 1).bind fun b19 => (if b19 < 0 then none else (if b19 = b18.1 then (laws_toLog.f k l0_0 l0_1).bind fun b20 => (impl_ReadLog.f k b20.1 b20.2).bind fun b21 => (laws_eqRecordsResult.f k b21.1 b21.2.1 b21.2.2 b4.1 b4.2.1 b4.2.2).bind fun b24 => (if b24 = true then (laws_heldRecordsResult.f k b10.1 b10.2.1 b18.2 1).bind fun b25 => (if b25 < 0 then none else (if b25 = b18.1 then (some true) else none)) else none) else none)) else none)) else none) else none))
set_option maxHeartbeats 40000000 in
set_option maxRecDepth 100000 in
theorem laws_FnExactReadLog.calls (k : Nat) (A0_0 : Option Addr) (c0_0 : Nat) (l0_0 : List Int) (A0_1 : Option Addr) (c0_1 : Nat) (l0_1 : List Int) (r : Bool) (w : World) (hr0_0 : Kd.C (Kd.int .u8) w A0_0 l0_0.length l0_0) (hc0_0 : l0_0.length ≤ c0_0) (hr0_1 : Kd.C (Kd.int .u8) w A0_1 l0_1.length l0_1) (hc0_1 : l0_1.length ≤ c0_1) (h : laws_FnExactReadLog.f k l0_0 l0_1 = some r) :
    Calls Try.prog 12 #[.agg #[.slice A0_0 l0_0.length c0_0, .slice A0_1 l0_1.length c0_1]] w fun e w' => e = .returned (.bool r) ∧ Below w.heap.size w w' := by
  have HB := Aside0.mk (Below.refl w.heap.size w)
  have HR0_0 := Aside0.mk hr0_0
  have HR0_1 := Aside0.mk hr0_1
  have HC0_0 := Aside0.mk hc0_0
  have HC0_1 := Aside0.mk hc0_1
  clear hr0_0 hc0_0 hr0_1 hc0_1
  have hu24 := Try.underlying24
  have hu27 := Try.underlying27
  have hu43 := Try.underlying43
  unfold laws_FnExactReadLog.f at h
  obtain ⟨t2, A20, h⟩ := Option.bind_eq_some_iff.mp h
  have A2 := Aside0.mk (show laws_szLog.f l0_0 l0_1 1048576 = some t2 from A20)
  clear A20
  by_cases c35 : t2 < 0
  · rw [if_pos c35] at h
    obtain rfl := Option.some.inj h
    have c35b := decide_eq_true (show t2 < 0 from c35)
    clear c35 h
    go_enter Try.func12, Try.ntmps12
    go_wp2_with (first | ((with_reducible refine gate_dst (N := 1) rfl ?_); refine q_box (N := 1) (cs := #[.slice A0_0 l0_0.length c0_0, .slice A0_1 l0_1.length c0_1]) (t := 24) ?_; intro g1 hg_ w1_ hbox hb; have GB1 := Aside0.mk (q_g hg_ HB.out); replace HB := Aside0.mk (below_step HB.out hb); have B1 := Aside0.mk hbox; clear hb hbox hg_; obtain ⟨hcw1_B1_0, hcw1_B1_1, hfw1_B1_0, hfw1_B1_1⟩ := q_2 B1.out) | ((with_reducible refine gate_dst (N := 13) rfl ?_); refine goesL_ (some 13) rfl rfl Try.func14 (by kernel_rfl) rfl #[.agg #[.slice A0_0 l0_0.length c0_0, .slice A0_1 l0_1.length c0_1], .int .i64 1048576] rfl (by (try simp only [List.map_toArray, List.map_cons, List.map_nil]); first | done | rfl) ?_; (with_reducible refine (laws_szLog.calls _ _ l0_0 _ _ l0_1 1048576 t2 _ ?side1 ?side2 ?side3 ?side4 A2.out).mono ?_); (case side1 => exact Kd.C_below HR0_0.out HB.out); (case side2 => exact HC0_0.out); (case side3 => exact Kd.C_below HR0_1.out HB.out); (case side4 => exact HC0_1.out); rintro e w2_ ⟨rfl, hb⟩; refine ⟨_, rfl, ?_⟩; replace B1 := Aside0.mk (blk_below B1.out hb); replace HB := Aside0.mk (below_step HB.out hb); clear hb; obtain ⟨hcw2_B1_0, hcw2_B1_1, hfw2_B1_0, hfw2_B1_1⟩ := q_2 B1.out))
    go_ret
    exact ⟨by first | rfl | (simp; done), HB.out⟩
  · rw [if_neg c35] at h
    have c35b := decide_eq_false (show ¬ (t2 < 0) from c35)
    clear c35
    obtain ⟨⟨t3, t4⟩, A30, h⟩ := Option.bind_eq_some_iff.mp h
    have A3 := Aside0.mk (show laws_toLog.f k l0_0 l0_1 = some (t3, t4) from A30)
    clear A30
    obtain ⟨⟨t5, t6, t7⟩, A40, h⟩ := Option.bind_eq_some_iff.mp h
    have A4 := Aside0.mk (show spec_ReadLog.f k t3 t4 = some (t5, t6, t7) from A40)
    clear A40
    obtain ⟨⟨t9, t10⟩, A70, h⟩ := Option.bind_eq_some_iff.mp h
    have A7 := Aside0.mk (show laws_toLog.f k l0_0 l0_1 = some (t9, t10) from A70)
    clear A70
    obtain ⟨⟨t12, t13, t14⟩, A100, h⟩ := Option.bind_eq_some_iff.mp h
    have A10 := Aside0.mk (show impl_ReadLog.f k t9 t10 = some (t12, t13, t14) from A100)
    clear A100
    obtain ⟨t16, A130, h⟩ := Option.bind_eq_some_iff.mp h
    have A13 := Aside0.mk (show laws_eqRecordsResult.f k t12 t13 t14 t5 t6 t7 = some t16 from A130)
    clear A130
    obtain ⟨c36, h⟩ := q_if h
    subst c36
    obtain ⟨⟨t17, t18⟩, A140, h⟩ := Option.bind_eq_some_iff.mp h
    have A14 := Aside0.mk (show laws_toLog.f k l0_0 l0_1 = some (t17, t18) from A140)
    clear A140
    obtain ⟨t19, A150, h⟩ := Option.bind_eq_some_iff.mp h
    have A15 := Aside0.mk (show laws_eqLog.f k t9 t10 t17 t18 = some t19 from A150)
    clear A150
    obtain ⟨c37, h⟩ := q_if h
    subst c37
    obtain ⟨⟨t20, t21, t22⟩, A160, h⟩ := Option.bind_eq_some_iff.mp h
    have A16 := Aside0.mk (show laws_markLog.f k t9 t10 1 = some (t20, t21, t22) from A160)
    clear A160
    obtain ⟨c38, h⟩ := q_fi h
    have c38b := decide_eq_false c38
    clear c38
    obtain ⟨t23, A170, h⟩ := Option.bind_eq_some_iff.mp h
    have A17 := Aside0.mk (show laws_eqRecordsResult.f k t12 t13 t14 t5 t6 t7 = some t23 from A170)
    clear A170
    obtain ⟨c39, h⟩ := q_if h
    subst c39
    obtain ⟨⟨t24, t25⟩, A180, h⟩ := Option.bind_eq_some_iff.mp h
    have A18 := Aside0.mk (show laws_markRecordsResult.f k t12 t13 t14 1 = some (t24, t25) from A180)
    clear A180
    obtain ⟨t26, A190, h⟩ := Option.bind_eq_some_iff.mp h
    have A19 := Aside0.mk (show laws_heldRecordsResult.f k t12 t13 t25 1 = some t26 from A190)
    clear A190
    obtain ⟨c40, h⟩ := q_fi h
    have c40b := decide_eq_false c40
    clear c40
    obtain ⟨c41, h⟩ := q_if h
    have c41b : (t26 == t24) = true := beq_iff_eq.mpr c41
    have c41n : (t26 != t24) = false := bne_eq_false_iff_eq.mpr c41
    clear c41
    obtain ⟨⟨t27, t28⟩, A200, h⟩ := Option.bind_eq_some_iff.mp h
    have A20 := Aside0.mk (show laws_toLog.f k l0_0 l0_1 = some (t27, t28) from A200)
    clear A200
    obtain ⟨⟨t29, t30, t31⟩, A210, h⟩ := Option.bind_eq_some_iff.mp h
    have A21 := Aside0.mk (show impl_ReadLog.f k t27 t28 = some (t29, t30, t31) from A210)
    clear A210
    obtain ⟨t33, A240, h⟩ := Option.bind_eq_some_iff.mp h
    have A24 := Aside0.mk (show laws_eqRecordsResult.f k t29 t30 t31 t5 t6 t7 = some t33 from A240)
    clear A240
    obtain ⟨c42, h⟩ := q_if h
    subst c42
    obtain ⟨t34, A250, h⟩ := Option.bind_eq_some_iff.mp h
    have A25 := Aside0.mk (show laws_heldRecordsResult.f k t12 t13 t25 1 = some t34 from A250)
    clear A250
    obtain ⟨c43, h⟩ := q_fi h
    have c43b := decide_eq_false c43
    clear c43
    obtain ⟨c44, h⟩ := q_if h
    have c44b : (t34 == t24) = true := beq_iff_eq.mpr c44
    have c44n : (t34 != t24) = false := bne_eq_false_iff_eq.mpr c44
    clear c44
    obtain rfl : true = r := Option.some.inj h
    clear h
    go_enter Try.func12, Try.ntmps12
    go_wp2_with (first | ((with_reducible refine gate_dst (N := 1) rfl ?_); refine q_box (N := 1) (cs := #[.slice A0_0 l0_0.length c0_0, .slice A0_1 l0_1.length c0_1]) (t := 24) ?_; intro g1 hg_ w1_ hbox hb; have GB1 := Aside0.mk (q_g hg_ HB.out); replace HB := Aside0.mk (below_step HB.out hb); have B1 := Aside0.mk hbox; clear hb hbox hg_; obtain ⟨hcw1_B1_0, hcw1_B1_1, hfw1_B1_0, hfw1_B1_1⟩ := q_2 B1.out) | ((with_reducible refine gate_dst (N := 13) rfl ?_); refine goesL_ (some 13) rfl rfl Try.func14 (by kernel_rfl) rfl #[.agg #[.slice A0_0 l0_0.length c0_0, .slice A0_1 l0_1.length c0_1], .int .i64 1048576] rfl (by (try simp only [List.map_toArray, List.map_cons, List.map_nil]); first | done | rfl) ?_; (with_reducible refine (laws_szLog.calls _ _ l0_0 _ _ l0_1 1048576 t2 _ ?side1 ?side2 ?side3 ?side4 A2.out).mono ?_); (case side1 => exact Kd.C_below HR0_0.out HB.out); (case side2 => exact HC0_0.out); (case side3 => exact Kd.C_below HR0_1.out HB.out); (case side4 => exact HC0_1.out); rintro e w2_ ⟨rfl, hb⟩; refine ⟨_, rfl, ?_⟩; replace B1 := Aside0.mk (blk_below B1.out hb); replace HB := Aside0.mk (below_step HB.out hb); clear hb; obtain ⟨hcw2_B1_0, hcw2_B1_1, hfw2_B1_0, hfw2_B1_1⟩ := q_2 B1.out) | ((with_reducible refine gate_dst (N := 17) rfl ?_); refine goesL_ (some 17) rfl rfl Try.func16 (by kernel_rfl) rfl #[.agg #[.slice A0_0 l0_0.length c0_0, .slice A0_1 l0_1.length c0_1]] rfl (by (try simp only [List.map_toArray, List.map_cons, List.map_nil]); first | done | rfl) ?_; (with_reducible refine (laws_toLog.calls k _ _ l0_0 _ _ l0_1 t3 t4 _ ?side1 ?side2 ?side3 ?side4 A3.out).mono ?_); (case side1 => exact Kd.C_below HR0_0.out HB.out); (case side2 => exact HC0_0.out); (case side3 => exact Kd.C_below HR0_1.out HB.out); (case side4 => exact HC0_1.out); rintro e w3_ ⟨vO3, vO4, rfl, ho0, ho1, hb⟩; refine ⟨_, rfl, ?_⟩; have O3 := Aside0.mk (q_nR HB.out ho0); have UO3 := Aside0.mk (Nat.le_refl w3_.heap.size); have O4 := Aside0.mk (q_nR HB.out ho1); have UO4 := Aside0.mk (Nat.le_refl w3_.heap.size); replace B1 := Aside0.mk (blk_below B1.out hb); replace HB := Aside0.mk (below_step HB.out hb); obtain ⟨A3_, c3_, eo_⟩ := Kd.R_slice O3.out; subst eo_; obtain ⟨A4_, c4_, eo_⟩ := Kd.R_slice O4.out; subst eo_; clear hb ho0 ho1) | ((with_reducible refine gate_dst (N := 18) rfl ?_); refine goesL_ (some 18) rfl rfl Try.func49 (by kernel_rfl) rfl #[.agg #[.slice A3_ t3.length c3_, .slice A4_ t4.length c4_]] rfl (by (try simp only [List.map_toArray, List.map_cons, List.map_nil]); first | done | rfl) ?_; (with_reducible refine (spec_ReadLog.calls k _ _ t3 _ _ t4 t5 t6 t7 _ ?side1 ?side2 ?side3 ?side4 A4.out).mono ?_); (case side1 => exact (q_lenR O3.out).1); (case side2 => exact (q_lenR O3.out).2.1); (case side3 => exact (q_lenR O4.out).1); (case side4 => exact (q_lenR O4.out).2.1); rintro e w4_ ⟨vO7, rfl, ho0, hb⟩; refine ⟨_, rfl, ?_⟩; have O7 := Aside0.mk (q_nS HB.out ho0); have UO7 := Aside0.mk (Nat.le_refl w4_.heap.size); clear O3; clear O4; replace B1 := Aside0.mk (blk_below B1.out hb); replace HB := Aside0.mk (below_step HB.out hb); obtain ⟨A7_, c7_, eo_⟩ := Kd.S_slice O7.out; subst eo_; clear hb ho0) | ((with_reducible refine gate_dst (N := 4) rfl ?_); refine q_box (N := 4) (cs := #[.int .i64 0, .int .i64 0, .slice none 0 0]) (t := 43) ?_; intro g8 hg_ w5_ hbox hb; have NEB1_B8 := Aside0.mk (show g1 ≠ g8 from by rw [hg_]; exact Nat.ne_of_lt (blk_lt B1.out)); have GB8 := Aside0.mk (q_g hg_ HB.out); have DHB8_O7 := Aside0.mk (show _ ≤ g8 from by rw [hg_]; exact UO7.out); replace O7 := Aside0.mk (Kd.S_below O7.out hb); replace UO7 := Aside0.mk (Nat.le_trans UO7.out hb.size); replace B1 := Aside0.mk (blk_below B1.out hb); replace HB := Aside0.mk (below_step HB.out hb); have B8 := Aside0.mk hbox; clear hb hbox hg_; obtain ⟨hcw5__0, hcw5__1, hcw5__2, hfw5__0, hfw5__1, hfw5__2⟩ := q_3 B8.out) | ((with_reducible refine gate_store (t := 43) (p := 4) rfl ?_); refine store_event (t := 43) (p := 4) (v := ?vo6) (w1 := (((w5_.setCell ⟨g8, 0, none⟩ (.int .i64 t5)).setCell ⟨g8, 1, none⟩ (.int .i64 t6)).setCell ⟨g8, 2, none⟩ (.slice A7_ t7.length c7_))) ?hg ?ho ?hn ?hr ?_; (case ho => rfl); (case hg => rfl); (case hn => rfl); (case hr => first | (go_simp; done) | (go_simp; rfl)); intro w6_ hw_; have hk_ : Kept w5_ w6_ (fun k_ => k_ = g8) := (by rw [hw_]; exact (Kept.setCell (Kept.setCell (Kept.setCell (Kept.refl w5_ (fun k_ => k_ = g8)) (.inl rfl) _) (.inl rfl) _) (.inl rfl) _)); replace B8 := Aside0.mk (show w6_.heap[g8]? = some (.cells #[.int .i64 t5, .int .i64 t6, .slice A7_ t7.length c7_] 43 (0, 0)) from by rw [hw_]; exact (blk_put (blk_put (blk_put B8.out 0 _ rfl) 1 _ rfl) 2 _ rfl)); replace O7 := Aside0.mk (Kd.S_kept O7.out hk_ (fun k_ h1_ h2_ => q_ig DHB8_O7.out k_ h1_ h2_)); replace UO7 := Aside0.mk (Nat.le_trans UO7.out hk_.1); replace B1 := Aside0.mk (blk_kept B1.out hk_ (by intro h_; exact absurd h_ NEB1_B8.out)); replace HB := Aside0.mk (show Below w.heap.size w w6_ from by rw [hw_]; exact (below_set (below_set (below_set HB.out GB8.out) GB8.out) GB8.out)); clear hk_ hw_; obtain ⟨hcw6_B1_0, hcw6_B1_1, hfw6_B1_0, hfw6_B1_1⟩ := q_2 B1.out) | ((with_reducible refine gate_dst (N := 20) rfl ?_); refine goesL_ (some 20) rfl rfl Try.func16 (by kernel_rfl) rfl #[.agg #[.slice A0_0 l0_0.length c0_0, .slice A0_1 l0_1.length c0_1]] rfl (by (try simp only [List.map_toArray, List.map_cons, List.map_nil]); first | done | rfl) ?_; (with_reducible refine (laws_toLog.calls k _ _ l0_0 _ _ l0_1 t9 t10 _ ?side1 ?side2 ?side3 ?side4 A7.out).mono ?_); (case side1 => exact Kd.C_below HR0_0.out HB.out); (case side2 => exact HC0_0.out); (case side3 => exact Kd.C_below HR0_1.out HB.out); (case side4 => exact HC0_1.out); rintro e w7_ ⟨vO9, vO10, rfl, ho0, ho1, hb⟩; refine ⟨_, rfl, ?_⟩; have O9 := Aside0.mk (q_nR HB.out ho0); have UO9 := Aside0.mk (Nat.le_refl w7_.heap.size); have O10 := Aside0.mk (q_nR HB.out ho1); have UO10 := Aside0.mk (Nat.le_refl w7_.heap.size); have XO9 := Aside0.mk (fun (k_ : Nat) (e1_ : some k_ = (vO9 : Value).ownBlock) (e2_ : some k_ = (vO10 : Value).ownBlock) => ho0.1 k_ e1_.symm e2_); have DO7_O9 := Aside0.mk UO7.out; have DO7_O10 := Aside0.mk UO7.out; have DGB1_O9 := Aside0.mk (blk_lt B1.out); have DGB1_O10 := Aside0.mk (blk_lt B1.out); have DGB8_O9 := Aside0.mk (blk_lt B8.out); have DGB8_O10 := Aside0.mk (blk_lt B8.out); replace O7 := Aside0.mk (Kd.S_below O7.out hb); replace UO7 := Aside0.mk (Nat.le_trans UO7.out hb.size); replace B1 := Aside0.mk (blk_below B1.out hb); replace B8 := Aside0.mk (blk_below B8.out hb); replace HB := Aside0.mk (below_step HB.out hb); obtain ⟨A9_, c9_, eo_⟩ := Kd.R_slice O9.out; subst eo_; obtain ⟨A10_, c10_, eo_⟩ := Kd.R_slice O10.out; subst eo_; clear hb ho0 ho1) | ((with_reducible refine gate_dst (N := 5) rfl ?_); refine q_box (N := 5) (cs := #[.slice none 0 0, .slice none 0 0]) (t := 27) ?_; intro g11 hg_ w8_ hbox hb; have NEB1_B11 := Aside0.mk (show g1 ≠ g11 from by rw [hg_]; exact Nat.ne_of_lt (blk_lt B1.out)); have NEB8_B11 := Aside0.mk (show g8 ≠ g11 from by rw [hg_]; exact Nat.ne_of_lt (blk_lt B8.out)); have GB11 := Aside0.mk (q_g hg_ HB.out); have DHB11_O7 := Aside0.mk (show _ ≤ g11 from by rw [hg_]; exact UO7.out); have DHB11_O9 := Aside0.mk (show _ ≤ g11 from by rw [hg_]; exact UO9.out); have DHB11_O10 := Aside0.mk (show _ ≤ g11 from by rw [hg_]; exact UO10.out); replace O7 := Aside0.mk (Kd.S_below O7.out hb); replace UO7 := Aside0.mk (Nat.le_trans UO7.out hb.size); replace O9 := Aside0.mk (Kd.R_below O9.out hb); replace UO9 := Aside0.mk (Nat.le_trans UO9.out hb.size); replace O10 := Aside0.mk (Kd.R_below O10.out hb); replace UO10 := Aside0.mk (Nat.le_trans UO10.out hb.size); replace B1 := Aside0.mk (blk_below B1.out hb); replace B8 := Aside0.mk (blk_below B8.out hb); replace HB := Aside0.mk (below_step HB.out hb); have B11 := Aside0.mk hbox; clear hb hbox hg_; obtain ⟨hcw8__0, hcw8__1, hfw8__0, hfw8__1⟩ := q_2 B11.out) | ((with_reducible refine gate_store (t := 27) (p := 5) rfl ?_); refine store_event (t := 27) (p := 5) (v := ?vo9) (w1 := ((w8_.setCell ⟨g11, 0, none⟩ (.slice A9_ t9.length c9_)).setCell ⟨g11, 1, none⟩ (.slice A10_ t10.length c10_))) ?hg ?ho ?hn ?hr ?_; (case ho => rfl); (case hg => rfl); (case hn => rfl); (case hr => first | (go_simp; done) | (go_simp; rfl)); intro w9_ hw_; have hk_ : Kept w8_ w9_ (fun k_ => k_ = g11) := (by rw [hw_]; exact (Kept.setCell (Kept.setCell (Kept.refl w8_ (fun k_ => k_ = g11)) (.inl rfl) _) (.inl rfl) _)); replace B11 := Aside0.mk (show w9_.heap[g11]? = some (.cells #[.slice A9_ t9.length c9_, .slice A10_ t10.length c10_] 27 (0, 0)) from by rw [hw_]; exact (blk_put (blk_put B11.out 0 _ rfl) 1 _ rfl)); replace O7 := Aside0.mk (Kd.S_kept O7.out hk_ (fun k_ h1_ h2_ => q_ig DHB11_O7.out k_ h1_ h2_)); replace UO7 := Aside0.mk (Nat.le_trans UO7.out hk_.1); replace O9 := Aside0.mk (Kd.R_kept O9.out hk_ (fun k_ h1_ h2_ => q_ig DHB11_O9.out k_ h1_ h2_)); replace UO9 := Aside0.mk (Nat.le_trans UO9.out hk_.1); replace O10 := Aside0.mk (Kd.R_kept O10.out hk_ (fun k_ h1_ h2_ => q_ig DHB11_O10.out k_ h1_ h2_)); replace UO10 := Aside0.mk (Nat.le_trans UO10.out hk_.1); replace B1 := Aside0.mk (blk_kept B1.out hk_ (by intro h_; exact absurd h_ NEB1_B11.out)); replace B8 := Aside0.mk (blk_kept B8.out hk_ (by intro h_; exact absurd h_ NEB8_B11.out)); replace HB := Aside0.mk (show Below w.heap.size w w9_ from by rw [hw_]; exact (below_set (below_set HB.out GB11.out) GB11.out)); clear hk_ hw_; obtain ⟨hcw9_B11_0, hcw9_B11_1, hfw9_B11_0, hfw9_B11_1⟩ := q_2 B11.out) | ((with_reducible refine gate_dst (N := 22) rfl ?_); refine goesL_ (some 22) rfl rfl Try.func48 (by kernel_rfl) rfl #[.agg #[.slice A9_ t9.length c9_, .slice A10_ t10.length c10_]] rfl (by (try simp only [List.map_toArray, List.map_cons, List.map_nil]); first | done | rfl) ?_; (with_reducible refine (impl_ReadLog.calls k (fun k_ => w6_.heap.size ≤ k_ ∧ k_ < w7_.heap.size) _ _ t9 (fun k_ => w6_.heap.size ≤ k_ ∧ k_ < w7_.heap.size) _ _ t10 t12 t13 t14 _ ?side1 ?side2 A10.out).mono ?_); (case side1 => exact Kd.R_V O9.out); (case side2 => exact Kd.R_V O10.out); rintro e w10_ ⟨vO14, rfl, ho0, hb⟩; refine ⟨_, rfl, ?_⟩; have O14 := Aside0.mk (q_nS HB.out ho0); have UO14 := Aside0.mk (Nat.le_refl w10_.heap.size); have DO7_O14 := Aside0.mk UO7.out; have DO9_O14 := Aside0.mk UO9.out; have DO10_O14 := Aside0.mk UO10.out; have DGB1_O14 := Aside0.mk (blk_lt B1.out); have DGB8_O14 := Aside0.mk (blk_lt B8.out); have DGB11_O14 := Aside0.mk (blk_lt B11.out); replace O7 := Aside0.mk (Kd.S_below O7.out hb); replace UO7 := Aside0.mk (Nat.le_trans UO7.out hb.size); replace O9 := Aside0.mk (Kd.R_below O9.out hb); replace UO9 := Aside0.mk (Nat.le_trans UO9.out hb.size); replace O10 := Aside0.mk (Kd.R_below O10.out hb); replace UO10 := Aside0.mk (Nat.le_trans UO10.out hb.size); replace B1 := Aside0.mk (blk_below B1.out hb); replace B8 := Aside0.mk (blk_below B8.out hb); replace B11 := Aside0.mk (blk_below B11.out hb); replace HB := Aside0.mk (below_step HB.out hb); obtain ⟨A14_, c14_, eo_⟩ := Kd.S_slice O14.out; subst eo_; clear hb ho0) | ((with_reducible refine gate_dst (N := 6) rfl ?_); refine q_box (N := 6) (cs := #[.int .i64 0, .int .i64 0, .slice none 0 0]) (t := 43) ?_; intro g15 hg_ w11_ hbox hb; have NEB1_B15 := Aside0.mk (show g1 ≠ g15 from by rw [hg_]; exact Nat.ne_of_lt (blk_lt B1.out)); have NEB8_B15 := Aside0.mk (show g8 ≠ g15 from by rw [hg_]; exact Nat.ne_of_lt (blk_lt B8.out)); have NEB11_B15 := Aside0.mk (show g11 ≠ g15 from by rw [hg_]; exact Nat.ne_of_lt (blk_lt B11.out)); have GB15 := Aside0.mk (q_g hg_ HB.out); have DHB15_O7 := Aside0.mk (show _ ≤ g15 from by rw [hg_]; exact UO7.out); have DHB15_O9 := Aside0.mk (show _ ≤ g15 from by rw [hg_]; exact UO9.out); have DHB15_O10 := Aside0.mk (show _ ≤ g15 from by rw [hg_]; exact UO10.out); have DHB15_O14 := Aside0.mk (show _ ≤ g15 from by rw [hg_]; exact UO14.out); replace O7 := Aside0.mk (Kd.S_below O7.out hb); replace UO7 := Aside0.mk (Nat.le_trans UO7.out hb.size); replace O9 := Aside0.mk (Kd.R_below O9.out hb); replace UO9 := Aside0.mk (Nat.le_trans UO9.out hb.size); replace O10 := Aside0.mk (Kd.R_below O10.out hb); replace UO10 := Aside0.mk (Nat.le_trans UO10.out hb.size); replace O14 := Aside0.mk (Kd.S_below O14.out hb); replace UO14 := Aside0.mk (Nat.le_trans UO14.out hb.size); replace B1 := Aside0.mk (blk_below B1.out hb); replace B8 := Aside0.mk (blk_below B8.out hb); replace B11 := Aside0.mk (blk_below B11.out hb); replace HB := Aside0.mk (below_step HB.out hb); have B15 := Aside0.mk hbox; clear hb hbox hg_; obtain ⟨hcw11__0, hcw11__1, hcw11__2, hfw11__0, hfw11__1, hfw11__2⟩ := q_3 B15.out) | ((with_reducible refine gate_store (t := 43) (p := 6) rfl ?_); refine store_event (t := 43) (p := 6) (v := ?vo12) (w1 := (((w11_.setCell ⟨g15, 0, none⟩ (.int .i64 t12)).setCell ⟨g15, 1, none⟩ (.int .i64 t13)).setCell ⟨g15, 2, none⟩ (.slice A14_ t14.length c14_))) ?hg ?ho ?hn ?hr ?_; (case ho => rfl); (case hg => rfl); (case hn => rfl); (case hr => first | (go_simp; done) | (go_simp; rfl)); intro w12_ hw_; have hk_ : Kept w11_ w12_ (fun k_ => k_ = g15) := (by rw [hw_]; exact (Kept.setCell (Kept.setCell (Kept.setCell (Kept.refl w11_ (fun k_ => k_ = g15)) (.inl rfl) _) (.inl rfl) _) (.inl rfl) _)); replace B15 := Aside0.mk (show w12_.heap[g15]? = some (.cells #[.int .i64 t12, .int .i64 t13, .slice A14_ t14.length c14_] 43 (0, 0)) from by rw [hw_]; exact (blk_put (blk_put (blk_put B15.out 0 _ rfl) 1 _ rfl) 2 _ rfl)); replace O7 := Aside0.mk (Kd.S_kept O7.out hk_ (fun k_ h1_ h2_ => q_ig DHB15_O7.out k_ h1_ h2_)); replace UO7 := Aside0.mk (Nat.le_trans UO7.out hk_.1); replace O9 := Aside0.mk (Kd.R_kept O9.out hk_ (fun k_ h1_ h2_ => q_ig DHB15_O9.out k_ h1_ h2_)); replace UO9 := Aside0.mk (Nat.le_trans UO9.out hk_.1); replace O10 := Aside0.mk (Kd.R_kept O10.out hk_ (fun k_ h1_ h2_ => q_ig DHB15_O10.out k_ h1_ h2_)); replace UO10 := Aside0.mk (Nat.le_trans UO10.out hk_.1); replace O14 := Aside0.mk (Kd.S_kept O14.out hk_ (fun k_ h1_ h2_ => q_ig DHB15_O14.out k_ h1_ h2_)); replace UO14 := Aside0.mk (Nat.le_trans UO14.out hk_.1); replace B1 := Aside0.mk (blk_kept B1.out hk_ (by intro h_; exact absurd h_ NEB1_B15.out)); replace B8 := Aside0.mk (blk_kept B8.out hk_ (by intro h_; exact absurd h_ NEB8_B15.out)); replace B11 := Aside0.mk (blk_kept B11.out hk_ (by intro h_; exact absurd h_ NEB11_B15.out)); replace HB := Aside0.mk (show Below w.heap.size w w12_ from by rw [hw_]; exact (below_set (below_set (below_set HB.out GB15.out) GB15.out) GB15.out)); clear hk_ hw_; obtain ⟨hcw12_B8_0, hcw12_B8_1, hcw12_B8_2, hfw12_B8_0, hfw12_B8_1, hfw12_B8_2⟩ := q_3 B8.out; obtain ⟨hcw12_B15_0, hcw12_B15_1, hcw12_B15_2, hfw12_B15_0, hfw12_B15_1, hfw12_B15_2⟩ := q_3 B15.out) | ((with_reducible refine gate_dst (N := 25) rfl ?_); refine goesL_ (some 25) rfl rfl Try.func38 (by kernel_rfl) rfl #[.agg #[.int .i64 t12, .int .i64 t13, .slice A14_ t14.length c14_], .agg #[.int .i64 t5, .int .i64 t6, .slice A7_ t7.length c7_]] rfl (by (try simp only [List.map_toArray, List.map_cons, List.map_nil]); first | done | rfl) ?_; (with_reducible refine (laws_eqRecordsResult.calls k t12 t13 _ _ t14 t5 t6 _ _ t7 true _ ?side1 ?side2 ?side3 ?side4 A13.out).mono ?_); (case side1 => exact (q_lenS O14.out).1); (case side2 => exact (q_lenS O14.out).2.1); (case side3 => exact (q_lenS O7.out).1); (case side4 => exact (q_lenS O7.out).2.1); rintro e w13_ ⟨rfl, hb⟩; refine ⟨_, rfl, ?_⟩; replace O7 := Aside0.mk (Kd.S_below O7.out hb); replace UO7 := Aside0.mk (Nat.le_trans UO7.out hb.size); replace O9 := Aside0.mk (Kd.R_below O9.out hb); replace UO9 := Aside0.mk (Nat.le_trans UO9.out hb.size); replace O10 := Aside0.mk (Kd.R_below O10.out hb); replace UO10 := Aside0.mk (Nat.le_trans UO10.out hb.size); replace O14 := Aside0.mk (Kd.S_below O14.out hb); replace UO14 := Aside0.mk (Nat.le_trans UO14.out hb.size); replace B1 := Aside0.mk (blk_below B1.out hb); replace B8 := Aside0.mk (blk_below B8.out hb); replace B11 := Aside0.mk (blk_below B11.out hb); replace B15 := Aside0.mk (blk_below B15.out hb); replace HB := Aside0.mk (below_step HB.out hb); clear hb; obtain ⟨hcw13_B1_0, hcw13_B1_1, hfw13_B1_0, hfw13_B1_1⟩ := q_2 B1.out; obtain ⟨hcw13_B11_0, hcw13_B11_1, hfw13_B11_0, hfw13_B11_1⟩ := q_2 B11.out))
    replace O7 := Aside0.mk (Kd.S_drew O7.out); replace UO7 := Aside0.mk (show _ ≤ w13_.drew.heap.size from UO7.out)
    replace O9 := Aside0.mk (Kd.R_drew O9.out); replace UO9 := Aside0.mk (show _ ≤ w13_.drew.heap.size from UO9.out)
    replace O10 := Aside0.mk (Kd.R_drew O10.out); replace UO10 := Aside0.mk (show _ ≤ w13_.drew.heap.size from UO10.out)
    replace O14 := Aside0.mk (Kd.S_drew O14.out); replace UO14 := Aside0.mk (show _ ≤ w13_.drew.heap.size from UO14.out)
    replace B1 := Aside0.mk (blk_drew B1.out)
    replace B8 := Aside0.mk (blk_drew B8.out)
    replace B11 := Aside0.mk (blk_drew B11.out)
    replace B15 := Aside0.mk (blk_drew B15.out)
    replace HB := Aside0.mk (below_drew1 HB.out)
    refine start_ (n := 5) (S := fun w' => w'.cell? ⟨g11, 0, none⟩ = some (.slice A9_ t9.length c9_) ∧ w'.cell? ⟨g11, 1, none⟩ = some (.slice A10_ t10.length c10_) ∧ w'.cell? ⟨g1, 0, none⟩ = some (.slice A0_0 l0_0.length c0_0) ∧ w'.cell? ⟨g1, 1, none⟩ = some (.slice A0_1 l0_1.length c0_1)) (ds := []) #[false, false, false, false, false] (by kernel_rfl) rfl rfl ⟨(blk_cell B11.out 0).trans rfl, (blk_cell B11.out 1).trans rfl, (blk_cell B1.out 0).trans rfl, (blk_cell B1.out 1).trans rfl⟩ (fun hHeld => ?_)
    generalize w13_.drew = w14d_ at O7 UO7 O9 UO9 O10 UO10 O14 UO14 B1 B8 B11 B15 HB hHeld ⊢
    refine take_ (i := 0) (N := some 27) (v := ?_) (a' := ?_) #[true, false, false, false, false] rfl rfl (by kernel_rfl) (fun _ _ _ h => h) (Or.inl ⟨by rfl, ?_⟩) hHeld ?_ ?_
    rotate_left
    · rintro w' ⟨s0, s1, s2, s3⟩
      go_simp
      with_reducible rfl
    rotate_left
    · simp only [Act.put, List.setIfInBounds_toArray, List.set_cons_zero, List.set_cons_succ, i64_w, i32_w]
      rfl
    refine take_ (i := 1) (N := some 28) (v := ?_) (a' := ?_) #[true, true, false, false, false] rfl rfl (by kernel_rfl) (fun _ _ _ h => h) (Or.inl ⟨by rfl, ?_⟩) hHeld ?_ ?_
    rotate_left
    · rintro w' ⟨s0, s1, s2, s3⟩
      go_simp
      with_reducible rfl
    rotate_left
    · simp only [Act.put, List.setIfInBounds_toArray, List.set_cons_zero, List.set_cons_succ, i64_w, i32_w]
      rfl
    refine one_ (i := 2) (N := some 29) #[true, true, true, false, false] rfl rfl (by kernel_rfl) (by decide) (fun K hK => ?_)
    refine goes_ Try.func16 (by kernel_rfl) rfl #[.agg #[.slice A0_0 l0_0.length c0_0, .slice A0_1 l0_1.length c0_1]] (by rfl) rfl rfl (by (try simp only [List.map_toArray, List.map_cons, List.map_nil]); first | done | rfl) ?_
    with_reducible refine (laws_toLog.calls k _ _ l0_0 _ _ l0_1 t17 t18 _ ?side1 ?side2 ?side3 ?side4 A14.out).mono ?_
    (case side1 => exact Kd.C_below HR0_0.out HB.out)
    (case side2 => exact HC0_0.out)
    (case side3 => exact Kd.C_below HR0_1.out HB.out)
    (case side4 => exact HC0_1.out)
    rintro e w14_ ⟨vO17, vO18, rfl, ho0, ho1, hb⟩
    refine ⟨_, rfl, ?_⟩
    have O17 := Aside0.mk (q_nR HB.out ho0)
    have UO17 := Aside0.mk (Nat.le_refl w14_.heap.size)
    have O18 := Aside0.mk (q_nR HB.out ho1)
    have UO18 := Aside0.mk (Nat.le_refl w14_.heap.size)
    have DO9_O17 := Aside0.mk UO9.out
    have DO9_O18 := Aside0.mk UO9.out
    have DO10_O17 := Aside0.mk UO10.out
    have DO10_O18 := Aside0.mk UO10.out
    have DO14_O17 := Aside0.mk UO14.out
    have DO14_O18 := Aside0.mk UO14.out
    replace O7 := Aside0.mk (Kd.S_below O7.out hb)
    replace UO7 := Aside0.mk (Nat.le_trans UO7.out hb.size)
    replace O9 := Aside0.mk (Kd.R_below O9.out hb)
    replace UO9 := Aside0.mk (Nat.le_trans UO9.out hb.size)
    replace O10 := Aside0.mk (Kd.R_below O10.out hb)
    replace UO10 := Aside0.mk (Nat.le_trans UO10.out hb.size)
    replace O14 := Aside0.mk (Kd.S_below O14.out hb)
    replace UO14 := Aside0.mk (Nat.le_trans UO14.out hb.size)
    replace B1 := Aside0.mk (blk_below B1.out hb)
    replace B8 := Aside0.mk (blk_below B8.out hb)
    replace B11 := Aside0.mk (blk_below B11.out hb)
    replace B15 := Aside0.mk (blk_below B15.out hb)
    replace HB := Aside0.mk (below_step HB.out hb)
    obtain ⟨A17_, c17_, eo_⟩ := Kd.R_slice O17.out
    subst eo_
    obtain ⟨A18_, c18_, eo_⟩ := Kd.R_slice O18.out
    subst eo_
    clear hb ho0 ho1
    refine hK.out _ _ ⟨(blk_cell B11.out 0).trans rfl, (blk_cell B11.out 1).trans rfl, (blk_cell B1.out 0).trans rfl, (blk_cell B1.out 1).trans rfl⟩ (fun hHeld => ?_)
    refine norm_ (a' := ?_) ?_ ?_
    rotate_left
    · show Act.put _ (some 29) _ = _
      simp only [Act.put, List.setIfInBounds_toArray, List.set_cons_zero, List.set_cons_succ, i64_w, i32_w]
      rfl
    refine one_ (i := 3) (N := some 30) #[true, true, true, true, false] rfl rfl (by kernel_rfl) (by decide) (fun K hK => ?_)
    refine goes_ Try.func18 (by kernel_rfl) rfl #[.agg #[.slice A9_ t9.length c9_, .slice A10_ t10.length c10_], .agg #[.slice A17_ t17.length c17_, .slice A18_ t18.length c18_]] (by rfl) rfl rfl (by (try simp only [List.map_toArray, List.map_cons, List.map_nil]); first | done | rfl) ?_
    with_reducible refine (laws_eqLog.calls k _ _ t9 _ _ t10 _ _ t17 _ _ t18 true _ ?side1 ?side2 ?side3 ?side4 ?side5 ?side6 ?side7 ?side8 A15.out).mono ?_
    (case side1 => exact (q_lenR O9.out).1)
    (case side2 => exact (q_lenR O9.out).2.1)
    (case side3 => exact (q_lenR O10.out).1)
    (case side4 => exact (q_lenR O10.out).2.1)
    (case side5 => exact (q_lenR O17.out).1)
    (case side6 => exact (q_lenR O17.out).2.1)
    (case side7 => exact (q_lenR O18.out).1)
    (case side8 => exact (q_lenR O18.out).2.1)
    rintro e w15_ ⟨rfl, hb⟩
    refine ⟨_, rfl, ?_⟩
    replace O7 := Aside0.mk (Kd.S_below O7.out hb)
    replace UO7 := Aside0.mk (Nat.le_trans UO7.out hb.size)
    replace O9 := Aside0.mk (Kd.R_below O9.out hb)
    replace UO9 := Aside0.mk (Nat.le_trans UO9.out hb.size)
    replace O10 := Aside0.mk (Kd.R_below O10.out hb)
    replace UO10 := Aside0.mk (Nat.le_trans UO10.out hb.size)
    replace O14 := Aside0.mk (Kd.S_below O14.out hb)
    replace UO14 := Aside0.mk (Nat.le_trans UO14.out hb.size)
    clear O17
    clear O18
    replace B1 := Aside0.mk (blk_below B1.out hb)
    replace B8 := Aside0.mk (blk_below B8.out hb)
    replace B11 := Aside0.mk (blk_below B11.out hb)
    replace B15 := Aside0.mk (blk_below B15.out hb)
    replace HB := Aside0.mk (below_step HB.out hb)
    clear hb
    refine hK.out _ _ ⟨(blk_cell B11.out 0).trans rfl, (blk_cell B11.out 1).trans rfl, (blk_cell B1.out 0).trans rfl, (blk_cell B1.out 1).trans rfl⟩ (fun hHeld => ?_)
    refine norm_ (a' := ?_) ?_ ?_
    rotate_left
    · show Act.put _ (some 30) _ = _
      simp only [Act.put, List.setIfInBounds_toArray, List.set_cons_zero, List.set_cons_succ, i64_w, i32_w]
      rfl
    obtain ⟨hcw15_B11_0, hcw15_B11_1, hfw15_B11_0, hfw15_B11_1⟩ := q_2 B11.out
    refine pure_ (i := 4) (N := some 31) (v := ?_) (a' := ?_) #[true, true, true, true, true] rfl rfl (by kernel_rfl) (fun _ _ _ h => h) (Or.inl ⟨by rfl, ?_⟩) ?_ ?_
    rotate_left
    · intro w'
      go_simp
      with_reducible rfl
    rotate_left
    · simp only [Act.put, List.setIfInBounds_toArray, List.set_cons_zero, List.set_cons_succ, i64_w, i32_w]
      rfl
    refine done_ (by kernel_rfl) ?_
    go_wp2_with (first | ((with_reducible refine gate_dst (N := 34) rfl ?_); refine goesL_ (some 34) rfl rfl Try.func34 (by kernel_rfl) rfl #[.agg #[.slice A9_ t9.length c9_, .slice A10_ t10.length c10_], .int .i64 1] rfl (by (try simp only [List.map_toArray, List.map_cons, List.map_nil]); first | done | rfl) ?_; (with_reducible refine (laws_markLog.calls k (fun k_ => some k_ = (.slice A9_ t9.length c9_ : Value).ownBlock) _ t9 (fun k_ => some k_ = (.slice A10_ t10.length c10_ : Value).ownBlock) _ t10 1 t20 t21 t22 w _ ?side1 ?side2 ?side3 ?side4 ?side5 A16.out).mono ?_); (case side1 => exact HB.out); (case side2 => exact Kd.R_tight rfl O9.out); (case side3 => exact fun k_ e1_ e2_ => XO9.out k_ e1_ e2_); (case side4 => exact Kd.R_tight rfl O10.out); (case side5 => exact fun k_ e1_ e2_ => XO9.out k_ e2_ e1_); rintro e w16_ ⟨rfl, hy0, hy1, hb, hkp⟩; refine ⟨_, rfl, ?_⟩; have hk_ := hkp.mono (fun k_ h_ => h_.elim (fun e_ => O9.out.1 k_ e_.symm) (fun e_ => O10.out.1 k_ e_.symm)); replace O7 := Aside0.mk (Kd.S_kept O7.out hk_ (fun k_ h1_ h2_ => q_iv DO7_O9.out k_ h1_ h2_)); replace UO7 := Aside0.mk (Nat.le_trans UO7.out hk_.1); replace O14 := Aside0.mk (Kd.S_kept O14.out hk_ (fun k_ h1_ h2_ => q_vi DO9_O14.out k_ h1_ h2_)); replace UO14 := Aside0.mk (Nat.le_trans UO14.out hk_.1); replace B1 := Aside0.mk (blk_kept B1.out hk_ (fun h_ => Nat.not_le_of_lt DGB1_O9.out h_.1)); replace B8 := Aside0.mk (blk_kept B8.out hk_ (fun h_ => Nat.not_le_of_lt DGB8_O9.out h_.1)); clear B11; replace B15 := Aside0.mk (blk_kept B15.out hk_ (fun h_ => Nat.not_lt_of_le DHB15_O9.out h_.2)); clear O9; clear O10; replace HB := Aside0.mk hb; clear hb hkp hk_ hy0 hy1; obtain ⟨hcw16_B8_0, hcw16_B8_1, hcw16_B8_2, hfw16_B8_0, hfw16_B8_1, hfw16_B8_2⟩ := q_3 B8.out; obtain ⟨hcw16_B15_0, hcw16_B15_1, hcw16_B15_2, hfw16_B15_0, hfw16_B15_1, hfw16_B15_2⟩ := q_3 B15.out) | ((with_reducible refine gate_dst (N := 45) rfl ?_); refine goesL_ (some 45) rfl rfl Try.func39 (by kernel_rfl) rfl #[.agg #[.int .i64 t12, .int .i64 t13, .slice A14_ t14.length c14_], .int .i64 1] rfl (by (try simp only [List.map_toArray, List.map_cons, List.map_nil]); first | done | rfl) ?_; (with_reducible refine (laws_markRecordsResult.calls k t12 t13 (fun k_ => w9_.heap.size ≤ k_ ∧ k_ < w10_.heap.size) _ t14 1 t24 t25 w _ ?side1 ?side2 A18.out).mono ?_); (case side1 => exact HB.out); (case side2 => exact O14.out); rintro e w18_ ⟨rfl, hy0, hb, hkp⟩; refine ⟨_, rfl, ?_⟩; have hk_ := hkp; replace O7 := Aside0.mk (Kd.S_kept O7.out hk_ (fun k_ h1_ h2_ => q_iv DO7_O14.out k_ h1_ h2_)); replace UO7 := Aside0.mk (Nat.le_trans UO7.out hk_.1); replace B1 := Aside0.mk (blk_kept B1.out hk_ (fun h_ => Nat.not_le_of_lt DGB1_O14.out h_.1)); replace B8 := Aside0.mk (blk_kept B8.out hk_ (fun h_ => Nat.not_le_of_lt DGB8_O14.out h_.1)); replace B15 := Aside0.mk (blk_kept B15.out hk_ (fun h_ => Nat.not_lt_of_le DHB15_O14.out h_.2)); replace O14 := Aside0.mk hy0; replace UO14 := Aside0.mk (Nat.le_trans UO14.out hk_.1); replace HB := Aside0.mk hb; clear hb hkp hk_ hy0; obtain ⟨hcw18_B15_0, hcw18_B15_1, hcw18_B15_2, hfw18_B15_0, hfw18_B15_1, hfw18_B15_2⟩ := q_3 B15.out) | ((with_reducible refine gate_dst (N := 48) rfl ?_); refine goesL_ (some 48) rfl rfl Try.func40 (by kernel_rfl) rfl #[.agg #[.int .i64 t12, .int .i64 t13, .slice A14_ t14.length c14_], .int .i64 1] rfl (by (try simp only [List.map_toArray, List.map_cons, List.map_nil]); first | done | rfl) ?_; refine calls_of_args (args' := #[.agg #[.int .i64 t12, .int .i64 t13, .slice A14_ t25.length c14_], .int .i64 1]) (by rw [(q_lenS O14.out).2.2]) ?_; (with_reducible refine (laws_heldRecordsResult.calls k t12 t13 _ _ t25 1 t26 _ ?side1 ?side2 A19.out).mono ?_); (case side1 => exact (q_lenS O14.out).1); (case side2 => exact (q_lenS O14.out).2.1); rintro e w19_ ⟨rfl, hb⟩; refine ⟨_, rfl, ?_⟩; replace O7 := Aside0.mk (Kd.S_below O7.out hb); replace UO7 := Aside0.mk (Nat.le_trans UO7.out hb.size); replace O14 := Aside0.mk (Kd.S_below O14.out hb); replace UO14 := Aside0.mk (Nat.le_trans UO14.out hb.size); replace B1 := Aside0.mk (blk_below B1.out hb); replace B8 := Aside0.mk (blk_below B8.out hb); replace B15 := Aside0.mk (blk_below B15.out hb); replace HB := Aside0.mk (below_step HB.out hb); clear hb; obtain ⟨hcw19_B1_0, hcw19_B1_1, hfw19_B1_0, hfw19_B1_1⟩ := q_2 B1.out) | ((with_reducible refine gate_dst (N := 55) rfl ?_); refine goesL_ (some 55) rfl rfl Try.func16 (by kernel_rfl) rfl #[.agg #[.slice A0_0 l0_0.length c0_0, .slice A0_1 l0_1.length c0_1]] rfl (by (try simp only [List.map_toArray, List.map_cons, List.map_nil]); first | done | rfl) ?_; (with_reducible refine (laws_toLog.calls k _ _ l0_0 _ _ l0_1 t27 t28 _ ?side1 ?side2 ?side3 ?side4 A20.out).mono ?_); (case side1 => exact Kd.C_below HR0_0.out HB.out); (case side2 => exact HC0_0.out); (case side3 => exact Kd.C_below HR0_1.out HB.out); (case side4 => exact HC0_1.out); rintro e w20_ ⟨vO27, vO28, rfl, ho0, ho1, hb⟩; refine ⟨_, rfl, ?_⟩; have O27 := Aside0.mk (q_nR HB.out ho0); have UO27 := Aside0.mk (Nat.le_refl w20_.heap.size); have O28 := Aside0.mk (q_nR HB.out ho1); have UO28 := Aside0.mk (Nat.le_refl w20_.heap.size); have DO14_O27 := Aside0.mk UO14.out; have DO14_O28 := Aside0.mk UO14.out; replace O7 := Aside0.mk (Kd.S_below O7.out hb); replace UO7 := Aside0.mk (Nat.le_trans UO7.out hb.size); replace O14 := Aside0.mk (Kd.S_below O14.out hb); replace UO14 := Aside0.mk (Nat.le_trans UO14.out hb.size); clear B1; replace B8 := Aside0.mk (blk_below B8.out hb); replace B15 := Aside0.mk (blk_below B15.out hb); replace HB := Aside0.mk (below_step HB.out hb); obtain ⟨A27_, c27_, eo_⟩ := Kd.R_slice O27.out; subst eo_; obtain ⟨A28_, c28_, eo_⟩ := Kd.R_slice O28.out; subst eo_; clear hb ho0 ho1) | ((with_reducible refine gate_dst (N := 56) rfl ?_); refine goesL_ (some 56) rfl rfl Try.func48 (by kernel_rfl) rfl #[.agg #[.slice A27_ t27.length c27_, .slice A28_ t28.length c28_]] rfl (by (try simp only [List.map_toArray, List.map_cons, List.map_nil]); first | done | rfl) ?_; (with_reducible refine (impl_ReadLog.calls k (fun k_ => w19_.heap.size ≤ k_ ∧ k_ < w20_.heap.size) _ _ t27 (fun k_ => w19_.heap.size ≤ k_ ∧ k_ < w20_.heap.size) _ _ t28 t29 t30 t31 _ ?side1 ?side2 A21.out).mono ?_); (case side1 => exact Kd.R_V O27.out); (case side2 => exact Kd.R_V O28.out); rintro e w21_ ⟨vO31, rfl, ho0, hb⟩; refine ⟨_, rfl, ?_⟩; have O31 := Aside0.mk (q_nS HB.out ho0); have UO31 := Aside0.mk (Nat.le_refl w21_.heap.size); have DO14_O31 := Aside0.mk UO14.out; replace O7 := Aside0.mk (Kd.S_below O7.out hb); replace UO7 := Aside0.mk (Nat.le_trans UO7.out hb.size); replace O14 := Aside0.mk (Kd.S_below O14.out hb); replace UO14 := Aside0.mk (Nat.le_trans UO14.out hb.size); clear O27; clear O28; replace B8 := Aside0.mk (blk_below B8.out hb); replace B15 := Aside0.mk (blk_below B15.out hb); replace HB := Aside0.mk (below_step HB.out hb); obtain ⟨A31_, c31_, eo_⟩ := Kd.S_slice O31.out; subst eo_; clear hb ho0) | ((with_reducible refine gate_dst (N := 10) rfl ?_); refine q_box (N := 10) (cs := #[.int .i64 0, .int .i64 0, .slice none 0 0]) (t := 43) ?_; intro g32 hg_ w22_ hbox hb; have NEB8_B32 := Aside0.mk (show g8 ≠ g32 from by rw [hg_]; exact Nat.ne_of_lt (blk_lt B8.out)); have NEB15_B32 := Aside0.mk (show g15 ≠ g32 from by rw [hg_]; exact Nat.ne_of_lt (blk_lt B15.out)); have GB32 := Aside0.mk (q_g hg_ HB.out); have DHB32_O7 := Aside0.mk (show _ ≤ g32 from by rw [hg_]; exact UO7.out); have DHB32_O14 := Aside0.mk (show _ ≤ g32 from by rw [hg_]; exact UO14.out); have DHB32_O31 := Aside0.mk (show _ ≤ g32 from by rw [hg_]; exact UO31.out); replace O7 := Aside0.mk (Kd.S_below O7.out hb); replace UO7 := Aside0.mk (Nat.le_trans UO7.out hb.size); replace O14 := Aside0.mk (Kd.S_below O14.out hb); replace UO14 := Aside0.mk (Nat.le_trans UO14.out hb.size); replace O31 := Aside0.mk (Kd.S_below O31.out hb); replace UO31 := Aside0.mk (Nat.le_trans UO31.out hb.size); replace B8 := Aside0.mk (blk_below B8.out hb); replace B15 := Aside0.mk (blk_below B15.out hb); replace HB := Aside0.mk (below_step HB.out hb); have B32 := Aside0.mk hbox; clear hb hbox hg_; obtain ⟨hcw22__0, hcw22__1, hcw22__2, hfw22__0, hfw22__1, hfw22__2⟩ := q_3 B32.out) | ((with_reducible refine gate_store (t := 43) (p := 10) rfl ?_); refine store_event (t := 43) (p := 10) (v := ?vo23) (w1 := (((w22_.setCell ⟨g32, 0, none⟩ (.int .i64 t29)).setCell ⟨g32, 1, none⟩ (.int .i64 t30)).setCell ⟨g32, 2, none⟩ (.slice A31_ t31.length c31_))) ?hg ?ho ?hn ?hr ?_; (case ho => rfl); (case hg => rfl); (case hn => rfl); (case hr => first | (go_simp; done) | (go_simp; rfl)); intro w23_ hw_; have hk_ : Kept w22_ w23_ (fun k_ => k_ = g32) := (by rw [hw_]; exact (Kept.setCell (Kept.setCell (Kept.setCell (Kept.refl w22_ (fun k_ => k_ = g32)) (.inl rfl) _) (.inl rfl) _) (.inl rfl) _)); replace B32 := Aside0.mk (show w23_.heap[g32]? = some (.cells #[.int .i64 t29, .int .i64 t30, .slice A31_ t31.length c31_] 43 (0, 0)) from by rw [hw_]; exact (blk_put (blk_put (blk_put B32.out 0 _ rfl) 1 _ rfl) 2 _ rfl)); replace O7 := Aside0.mk (Kd.S_kept O7.out hk_ (fun k_ h1_ h2_ => q_ig DHB32_O7.out k_ h1_ h2_)); replace UO7 := Aside0.mk (Nat.le_trans UO7.out hk_.1); replace O14 := Aside0.mk (Kd.S_kept O14.out hk_ (fun k_ h1_ h2_ => q_ig DHB32_O14.out k_ h1_ h2_)); replace UO14 := Aside0.mk (Nat.le_trans UO14.out hk_.1); replace O31 := Aside0.mk (Kd.S_kept O31.out hk_ (fun k_ h1_ h2_ => q_ig DHB32_O31.out k_ h1_ h2_)); replace UO31 := Aside0.mk (Nat.le_trans UO31.out hk_.1); replace B8 := Aside0.mk (blk_kept B8.out hk_ (by intro h_; exact absurd h_ NEB8_B32.out)); replace B15 := Aside0.mk (blk_kept B15.out hk_ (by intro h_; exact absurd h_ NEB15_B32.out)); replace HB := Aside0.mk (show Below w.heap.size w w23_ from by rw [hw_]; exact (below_set (below_set (below_set HB.out GB32.out) GB32.out) GB32.out)); clear hk_ hw_; obtain ⟨hcw23_B8_0, hcw23_B8_1, hcw23_B8_2, hfw23_B8_0, hfw23_B8_1, hfw23_B8_2⟩ := q_3 B8.out; obtain ⟨hcw23_B32_0, hcw23_B32_1, hcw23_B32_2, hfw23_B32_0, hfw23_B32_1, hfw23_B32_2⟩ := q_3 B32.out) | ((with_reducible refine gate_dst (N := 59) rfl ?_); refine goesL_ (some 59) rfl rfl Try.func38 (by kernel_rfl) rfl #[.agg #[.int .i64 t29, .int .i64 t30, .slice A31_ t31.length c31_], .agg #[.int .i64 t5, .int .i64 t6, .slice A7_ t7.length c7_]] rfl (by (try simp only [List.map_toArray, List.map_cons, List.map_nil]); first | done | rfl) ?_; (with_reducible refine (laws_eqRecordsResult.calls k t29 t30 _ _ t31 t5 t6 _ _ t7 true _ ?side1 ?side2 ?side3 ?side4 A24.out).mono ?_); (case side1 => exact (q_lenS O31.out).1); (case side2 => exact (q_lenS O31.out).2.1); (case side3 => exact (q_lenS O7.out).1); (case side4 => exact (q_lenS O7.out).2.1); rintro e w24_ ⟨rfl, hb⟩; refine ⟨_, rfl, ?_⟩; clear O7; replace O14 := Aside0.mk (Kd.S_below O14.out hb); replace UO14 := Aside0.mk (Nat.le_trans UO14.out hb.size); clear O31; clear B8; replace B15 := Aside0.mk (blk_below B15.out hb); clear B32; replace HB := Aside0.mk (below_step HB.out hb); clear hb; obtain ⟨hcw24_B15_0, hcw24_B15_1, hcw24_B15_2, hfw24_B15_0, hfw24_B15_1, hfw24_B15_2⟩ := q_3 B15.out) | ((with_reducible refine gate_dst (N := 63) rfl ?_); refine goesL_ (some 63) rfl rfl Try.func40 (by kernel_rfl) rfl #[.agg #[.int .i64 t12, .int .i64 t13, .slice A14_ t14.length c14_], .int .i64 1] rfl (by (try simp only [List.map_toArray, List.map_cons, List.map_nil]); first | done | rfl) ?_; refine calls_of_args (args' := #[.agg #[.int .i64 t12, .int .i64 t13, .slice A14_ t25.length c14_], .int .i64 1]) (by rw [(q_lenS O14.out).2.2]) ?_; (with_reducible refine (laws_heldRecordsResult.calls k t12 t13 _ _ t25 1 t34 _ ?side1 ?side2 A25.out).mono ?_); (case side1 => exact (q_lenS O14.out).1); (case side2 => exact (q_lenS O14.out).2.1); rintro e w25_ ⟨rfl, hb⟩; refine ⟨_, rfl, ?_⟩; clear O14; clear B15; replace HB := Aside0.mk (below_step HB.out hb); clear hb) | (go_at_call 38; (with_reducible refine (laws_eqRecordsResult.calls k t12 t13 _ _ t14 t5 t6 _ _ t7 true _ ?side1 ?side2 ?side3 ?side4 A17.out).mono ?_); (case side1 => exact (q_lenS O14.out).1); (case side2 => exact (q_lenS O14.out).2.1); (case side3 => exact (q_lenS O7.out).1); (case side4 => exact (q_lenS O7.out).2.1); rintro e w17_ ⟨rfl, hb⟩; replace O7 := Aside0.mk (Kd.S_below O7.out hb); replace UO7 := Aside0.mk (Nat.le_trans UO7.out hb.size); replace O14 := Aside0.mk (Kd.S_below O14.out hb); replace UO14 := Aside0.mk (Nat.le_trans UO14.out hb.size); replace B1 := Aside0.mk (blk_below B1.out hb); replace B8 := Aside0.mk (blk_below B8.out hb); replace B15 := Aside0.mk (blk_below B15.out hb); replace HB := Aside0.mk (below_step HB.out hb); clear hb; obtain ⟨hcw17_B15_0, hcw17_B15_1, hcw17_B15_2, hfw17_B15_0, hfw17_B15_1, hfw17_B15_2⟩ := q_3 B15.out))
    go_ret
    exact ⟨by first | rfl | (simp; done), HB.out⟩

end Go.Proofs.Ytcdpiejcdeedoaa.PFnExactReadLog
