/- The functions that a law reaches, each as a plain Lean function with the proof that the machine comes to its answer: written by program (the kit's print, turned by wip/gen). No conditions. -/
import Derived.Test.YtanegggacfmkcaaPFnExactSettleOnex0
import Derived.Test.YtanegggacfmkcaaPFnExactSettleOnex10
import Derived.Test.YtanegggacfmkcaaPFnExactSettleOnex15
import Derived.Test.YtanegggacfmkcaaPFnExactSettleOnex16
import Derived.Test.YtanegggacfmkcaaPFnExactSettleOnex17
import Derived.Test.YtanegggacfmkcaaPFnExactSettleOnex18
import Derived.Test.YtanegggacfmkcaaPFnExactSettleOnex19
namespace Go.Proofs.Ytanegggacfmkcaa.PFnExactSettleOne
open Go.RowKit Go.Proofs.YtanegggacfmkcaaW.PrintWords Go.Proofs.YtanegggacfmkcaaW.PrintLast Go.Proofs.YtanegggacfmkcaaW.PrintMore
attribute [local go_sem] max2_int min2_int max_two min_two max_three min_three max_four min_four   -- for this text's walks alone
set_option linter.unusedVariables false
set_option linter.unusedSimpArgs false

/-! ### laws_FnExactSettleOne: function 4 -/
theorem q_nR {α : Type} {d : Kd α} {e : Nat} {w wp wj : World} {ok : Nat → Prop} {v : Value} {r : List α} (hb : Below w.heap.size w wp) (ho : Kd.R d e wj wp.heap.size ok v r) : Kd.R d e wj w.heap.size (fun k_ => wp.heap.size ≤ k_ ∧ k_ < wj.heap.size) v r := Kd.R_lower (Kd.R_mono (Kd.R_bound ho) (fun _ h => ⟨h.2.1, h.2.2.1⟩)) (below_size hb)
theorem q_nS {α : Type} {d : Kd α} {e : Nat} {w wp wj : World} {ok : Nat → Prop} {v : Value} {r : List α} (hb : Below w.heap.size w wp) (ho : Kd.S d e wj wp.heap.size ok v r) : Kd.S d e wj w.heap.size (fun k_ => wp.heap.size ≤ k_ ∧ k_ < wj.heap.size) v r := Kd.S_lower (Kd.S_mono (Kd.S_bound ho) (fun _ h => ⟨h.2.1, h.2.2.1⟩)) (below_size hb)
theorem q_iv {a b c d : Nat} (h : b ≤ c) (k : Nat) (h1 : a ≤ k ∧ k < b) (h2 : c ≤ k ∧ k < d) : False := by omega
theorem q_vi {a b c d : Nat} (h : d ≤ a) (k : Nat) (h1 : a ≤ k ∧ k < b) (h2 : c ≤ k ∧ k < d) : False := by omega
theorem q_ig {a b g : Nat} (h : b ≤ g) (k : Nat) (h1 : a ≤ k ∧ k < b) (h2 : k = g) : False := by omega
theorem q_if {c : Prop} [Decidable c] {α : Type} {a : Option α} {r : α} (h : (if c then a else none) = some r) : c ∧ a = some r := by
  by_cases hc : c
  · rw [if_pos hc] at h; exact ⟨hc, h⟩
  · rw [if_neg hc] at h; cases h
theorem q_fi {c : Prop} [Decidable c] {α : Type} {a : Option α} {r : α} (h : (if c then none else a) = some r) : ¬ c ∧ a = some r := by
  by_cases hc : c
  · rw [if_pos hc] at h; cases h
  · rw [if_neg hc] at h; exact ⟨hc, h⟩
theorem q_lenR {α : Type} {d : Kd α} {e : Nat} {w : World} {b : Nat} {ok : Nat → Prop} {A : Option Addr} {n c : Nat} {xs : List α} (h : Kd.R d e w b ok (.slice A n c) xs) : d.C w A xs.length xs ∧ xs.length ≤ c ∧ n = xs.length := by have h_ := Kd.R_reads' h; exact ⟨h_.2.2, by rw [← h_.1]; exact h_.2.1, h_.1⟩
theorem q_lenS {α : Type} {d : Kd α} {e : Nat} {w : World} {b : Nat} {ok : Nat → Prop} {A : Option Addr} {n c : Nat} {xs : List α} (h : Kd.S d e w b ok (.slice A n c) xs) : d.C w A xs.length xs ∧ xs.length ≤ c ∧ n = xs.length := q_lenR (Kd.S_R h)
def laws_FnExactSettleOne.f (k : Nat) (l0_0 : List (List (S115))) (a1_0 : Int) (l1_1 : List (S137)) : Option (Bool) := (laws_szLedger.f k l0_0 1048576).bind fun b3 => (if b3 < 0 then (some true) else (laws_szContract.f a1_0 l1_1 b3).bind fun b4 => (if b4 < 0 then (some true) else (laws_toLedger.f k l0_0).bind fun b5 => (laws_toContract.f k a1_0 l1_1).bind fun b6 => (spec_SettleOne.f k b5 b6.1 b6.2).bind fun b7 => (laws_toLedger.f k l0_0).bind fun b10 => (laws_toContract.f k a1_0 l1_1).bind fun b13 => (impl_SettleOne.f k b10 b13.1 b13.2).bind fun b16 => (laws_eqLedgerResult.f k b16.1 b16.2 b7.1 b7.2).bind fun b19 => (if b19 = true then (laws_toLedger.f k l0_0).bind fun b20 => (laws_eqLedger.f k b10 b20).bind fun b21 => (if b21 = true then (laws_toContract.f k a1_0 l1_1).bind fun b22 => (laws_eqContract.f k b13.1 b13.2 b22.1 b22.2).bind fun b23 => (if b23 = true then (laws_markLedger.f k b10 1).bind fun b24 => (laws_markContract.f k b13.1 b13.2 b24.1).bind fun b25 => (if b25.1 < 0 then none else (laws_eqLedgerResult.f k b16.1 b16.2 b7.1 b7.2).bind fun b26 => (if b26 = true then (laws_markLedgerResult.f k b16.1 b16.2 1).bind fun b27 => (laws_heldLedgerResult.f k b16.1 b27.2 1).bind fun b28 => (if b28 < 0 then none else (if b28 = b27.1 then (laws_toLedger.f k l0_0).bind fun b29 => (laws_toContract.f k a1_0 l1_1).bind fun b30 => (impl_SettleOne.f k b29 b30.1 b30.2).bind fun b31 => (laws_eqLedgerResult.f k b31.1 b31.2 b7.1 b7.2).bind fun b34 => (if b34 = true then (laws_heldLedgerResult.f k b16.1 b27.2 1).bind fun b35 => (if b35 < 0 then none else (if b35 = b27.1 then (some true) else none)) else none) else none)) else none)) else none) else none) else none)))
set_option maxHeartbeats 40000000 in
set_option maxRecDepth 100000 in
theorem laws_FnExactSettleOne.calls (k : Nat) (A0_0 : Option Addr) (c0_0 : Nat) (l0_0 : List (List (S115))) (a1_0 : Int) (A1_1 : Option Addr) (c1_1 : Nat) (l1_1 : List (S137)) (r : Bool) (w : World) (hr0_0 : Kd.C (Kd.slice 115 k115) w A0_0 l0_0.length l0_0) (hc0_0 : l0_0.length ≤ c0_0) (hr1_1 : Kd.C k137 w A1_1 l1_1.length l1_1) (hc1_1 : l1_1.length ≤ c1_1) (h : laws_FnExactSettleOne.f k l0_0 a1_0 l1_1 = some r) :
    Calls Try.prog 4 #[.agg #[.slice A0_0 l0_0.length c0_0], .agg #[.int .i64 a1_0, .slice A1_1 l1_1.length c1_1]] w fun e w' => e = .returned (.bool r) ∧ Below w.heap.size w w' := by
  have HB := Aside0.mk (Below.refl w.heap.size w)
  have HR0_0 := Aside0.mk hr0_0
  have HR1_1 := Aside0.mk hr1_1
  have HC0_0 := Aside0.mk hc0_0
  have HC1_1 := Aside0.mk hc1_1
  clear hr0_0 hc0_0 hr1_1 hc1_1
  have hu26 := Try.underlying26
  have hu36 := Try.underlying36
  have hu40 := Try.underlying40
  have hu47 := Try.underlying47
  have hu50 := Try.underlying50
  unfold laws_FnExactSettleOne.f at h
  obtain ⟨t3, A30, h⟩ := Option.bind_eq_some_iff.mp h
  have A3 := Aside0.mk (show laws_szLedger.f k l0_0 1048576 = some t3 from A30)
  clear A30
  by_cases c41 : t3 < 0
  · rw [if_pos c41] at h
    obtain rfl := Option.some.inj h
    have c41b := decide_eq_true (show t3 < 0 from c41)
    clear c41 h
    go_enter Try.func4, Try.ntmps4
    go_wp2_with (first | ((with_reducible refine gate_dst (N := 2) rfl ?_); refine q_box (N := 2) (cs := #[.slice A0_0 l0_0.length c0_0]) (t := 47) ?_; intro g1 hg_ w1_ hbox hb; have GB1 := Aside0.mk (q_g hg_ HB.out); replace HB := Aside0.mk (below_step HB.out hb); have B1 := Aside0.mk hbox; clear hb hbox hg_) | ((with_reducible refine gate_dst (N := 3) rfl ?_); refine q_box (N := 3) (cs := #[.int .i64 a1_0, .slice A1_1 l1_1.length c1_1]) (t := 50) ?_; intro g2 hg_ w2_ hbox hb; have NEB1_B2 := Aside0.mk (show g1 ≠ g2 from by rw [hg_]; exact Nat.ne_of_lt (blk_lt B1.out)); have GB2 := Aside0.mk (q_g hg_ HB.out); replace B1 := Aside0.mk (blk_below B1.out hb); replace HB := Aside0.mk (below_step HB.out hb); have B2 := Aside0.mk hbox; clear hb hbox hg_; obtain ⟨hcw2_B1_0, hfw2_B1_0⟩ := q_1 B1.out) | ((with_reducible refine gate_dst (N := 16) rfl ?_); refine goesL_ (some 16) rfl rfl Try.func21 (by kernel_rfl) rfl #[.agg #[.slice A0_0 l0_0.length c0_0], .int .i64 1048576] rfl (by (try simp only [List.map_toArray, List.map_cons, List.map_nil]); first | done | rfl) ?_; (with_reducible refine (laws_szLedger.calls k _ _ l0_0 1048576 t3 _ ?side1 ?side2 A3.out).mono ?_); (case side1 => exact Kd.C_below HR0_0.out HB.out); (case side2 => exact HC0_0.out); rintro e w3_ ⟨rfl, hb⟩; refine ⟨_, rfl, ?_⟩; replace B1 := Aside0.mk (blk_below B1.out hb); replace B2 := Aside0.mk (blk_below B2.out hb); replace HB := Aside0.mk (below_step HB.out hb); clear hb; obtain ⟨hcw3_B2_0, hcw3_B2_1, hfw3_B2_0, hfw3_B2_1⟩ := q_2 B2.out))
    go_ret
    exact ⟨by first | rfl | (simp; done), HB.out⟩
  · rw [if_neg c41] at h
    have c41b := decide_eq_false (show ¬ (t3 < 0) from c41)
    clear c41
    obtain ⟨t4, A40, h⟩ := Option.bind_eq_some_iff.mp h
    have A4 := Aside0.mk (show laws_szContract.f a1_0 l1_1 t3 = some t4 from A40)
    clear A40
    by_cases c42 : t4 < 0
    · rw [if_pos c42] at h
      obtain rfl := Option.some.inj h
      have c42b := decide_eq_true (show t4 < 0 from c42)
      clear c42 h
      go_enter Try.func4, Try.ntmps4
      go_wp2_with (first | ((with_reducible refine gate_dst (N := 2) rfl ?_); refine q_box (N := 2) (cs := #[.slice A0_0 l0_0.length c0_0]) (t := 47) ?_; intro g1 hg_ w1_ hbox hb; have GB1 := Aside0.mk (q_g hg_ HB.out); replace HB := Aside0.mk (below_step HB.out hb); have B1 := Aside0.mk hbox; clear hb hbox hg_) | ((with_reducible refine gate_dst (N := 3) rfl ?_); refine q_box (N := 3) (cs := #[.int .i64 a1_0, .slice A1_1 l1_1.length c1_1]) (t := 50) ?_; intro g2 hg_ w2_ hbox hb; have NEB1_B2 := Aside0.mk (show g1 ≠ g2 from by rw [hg_]; exact Nat.ne_of_lt (blk_lt B1.out)); have GB2 := Aside0.mk (q_g hg_ HB.out); replace B1 := Aside0.mk (blk_below B1.out hb); replace HB := Aside0.mk (below_step HB.out hb); have B2 := Aside0.mk hbox; clear hb hbox hg_; obtain ⟨hcw2_B1_0, hfw2_B1_0⟩ := q_1 B1.out) | ((with_reducible refine gate_dst (N := 16) rfl ?_); refine goesL_ (some 16) rfl rfl Try.func21 (by kernel_rfl) rfl #[.agg #[.slice A0_0 l0_0.length c0_0], .int .i64 1048576] rfl (by (try simp only [List.map_toArray, List.map_cons, List.map_nil]); first | done | rfl) ?_; (with_reducible refine (laws_szLedger.calls k _ _ l0_0 1048576 t3 _ ?side1 ?side2 A3.out).mono ?_); (case side1 => exact Kd.C_below HR0_0.out HB.out); (case side2 => exact HC0_0.out); rintro e w3_ ⟨rfl, hb⟩; refine ⟨_, rfl, ?_⟩; replace B1 := Aside0.mk (blk_below B1.out hb); replace B2 := Aside0.mk (blk_below B2.out hb); replace HB := Aside0.mk (below_step HB.out hb); clear hb; obtain ⟨hcw3_B2_0, hcw3_B2_1, hfw3_B2_0, hfw3_B2_1⟩ := q_2 B2.out) | ((with_reducible refine gate_dst (N := 21) rfl ?_); refine goesL_ (some 21) rfl rfl Try.func22 (by kernel_rfl) rfl #[.agg #[.int .i64 a1_0, .slice A1_1 l1_1.length c1_1], .int .i64 t3] rfl (by (try simp only [List.map_toArray, List.map_cons, List.map_nil]); first | done | rfl) ?_; (with_reducible refine (laws_szContract.calls a1_0 _ _ l1_1 t3 t4 _ ?side1 ?side2 A4.out).mono ?_); (case side1 => exact Kd.C_below HR1_1.out HB.out); (case side2 => exact HC1_1.out); rintro e w4_ ⟨rfl, hb⟩; refine ⟨_, rfl, ?_⟩; replace B1 := Aside0.mk (blk_below B1.out hb); replace B2 := Aside0.mk (blk_below B2.out hb); replace HB := Aside0.mk (below_step HB.out hb); clear hb; obtain ⟨hcw4_B1_0, hfw4_B1_0⟩ := q_1 B1.out))
      go_ret
      exact ⟨by first | rfl | (simp; done), HB.out⟩
    · rw [if_neg c42] at h
      have c42b := decide_eq_false (show ¬ (t4 < 0) from c42)
      clear c42
      obtain ⟨t5, A50, h⟩ := Option.bind_eq_some_iff.mp h
      have A5 := Aside0.mk (show laws_toLedger.f k l0_0 = some t5 from A50)
      clear A50
      obtain ⟨⟨t6, t7⟩, A60, h⟩ := Option.bind_eq_some_iff.mp h
      have A6 := Aside0.mk (show laws_toContract.f k a1_0 l1_1 = some (t6, t7) from A60)
      clear A60
      obtain ⟨⟨t8, t9⟩, A70, h⟩ := Option.bind_eq_some_iff.mp h
      have A7 := Aside0.mk (show spec_SettleOne.f k t5 t6 t7 = some (t8, t9) from A70)
      clear A70
      obtain ⟨t11, A100, h⟩ := Option.bind_eq_some_iff.mp h
      have A10 := Aside0.mk (show laws_toLedger.f k l0_0 = some t11 from A100)
      clear A100
      obtain ⟨⟨t13, t14⟩, A130, h⟩ := Option.bind_eq_some_iff.mp h
      have A13 := Aside0.mk (show laws_toContract.f k a1_0 l1_1 = some (t13, t14) from A130)
      clear A130
      obtain ⟨⟨t16, t17⟩, A160, h⟩ := Option.bind_eq_some_iff.mp h
      have A16 := Aside0.mk (show impl_SettleOne.f k t11 t13 t14 = some (t16, t17) from A160)
      clear A160
      obtain ⟨t19, A190, h⟩ := Option.bind_eq_some_iff.mp h
      have A19 := Aside0.mk (show laws_eqLedgerResult.f k t16 t17 t8 t9 = some t19 from A190)
      clear A190
      obtain ⟨c43, h⟩ := q_if h
      subst c43
      obtain ⟨t20, A200, h⟩ := Option.bind_eq_some_iff.mp h
      have A20 := Aside0.mk (show laws_toLedger.f k l0_0 = some t20 from A200)
      clear A200
      obtain ⟨t21, A210, h⟩ := Option.bind_eq_some_iff.mp h
      have A21 := Aside0.mk (show laws_eqLedger.f k t11 t20 = some t21 from A210)
      clear A210
      obtain ⟨c44, h⟩ := q_if h
      subst c44
      obtain ⟨⟨t22, t23⟩, A220, h⟩ := Option.bind_eq_some_iff.mp h
      have A22 := Aside0.mk (show laws_toContract.f k a1_0 l1_1 = some (t22, t23) from A220)
      clear A220
      obtain ⟨t24, A230, h⟩ := Option.bind_eq_some_iff.mp h
      have A23 := Aside0.mk (show laws_eqContract.f k t13 t14 t22 t23 = some t24 from A230)
      clear A230
      obtain ⟨c45, h⟩ := q_if h
      subst c45
      obtain ⟨⟨t25, t26⟩, A240, h⟩ := Option.bind_eq_some_iff.mp h
      have A24 := Aside0.mk (show laws_markLedger.f k t11 1 = some (t25, t26) from A240)
      clear A240
      obtain ⟨⟨t27, t28⟩, A250, h⟩ := Option.bind_eq_some_iff.mp h
      have A25 := Aside0.mk (show laws_markContract.f k t13 t14 t25 = some (t27, t28) from A250)
      clear A250
      obtain ⟨c46, h⟩ := q_fi h
      have c46b := decide_eq_false c46
      clear c46
      obtain ⟨t29, A260, h⟩ := Option.bind_eq_some_iff.mp h
      have A26 := Aside0.mk (show laws_eqLedgerResult.f k t16 t17 t8 t9 = some t29 from A260)
      clear A260
      obtain ⟨c47, h⟩ := q_if h
      subst c47
      obtain ⟨⟨t30, t31⟩, A270, h⟩ := Option.bind_eq_some_iff.mp h
      have A27 := Aside0.mk (show laws_markLedgerResult.f k t16 t17 1 = some (t30, t31) from A270)
      clear A270
      obtain ⟨t32, A280, h⟩ := Option.bind_eq_some_iff.mp h
      have A28 := Aside0.mk (show laws_heldLedgerResult.f k t16 t31 1 = some t32 from A280)
      clear A280
      obtain ⟨c48, h⟩ := q_fi h
      have c48b := decide_eq_false c48
      clear c48
      obtain ⟨c49, h⟩ := q_if h
      have c49b : (t32 == t30) = true := beq_iff_eq.mpr c49
      have c49n : (t32 != t30) = false := bne_eq_false_iff_eq.mpr c49
      clear c49
      obtain ⟨t33, A290, h⟩ := Option.bind_eq_some_iff.mp h
      have A29 := Aside0.mk (show laws_toLedger.f k l0_0 = some t33 from A290)
      clear A290
      obtain ⟨⟨t34, t35⟩, A300, h⟩ := Option.bind_eq_some_iff.mp h
      have A30 := Aside0.mk (show laws_toContract.f k a1_0 l1_1 = some (t34, t35) from A300)
      clear A300
      obtain ⟨⟨t36, t37⟩, A310, h⟩ := Option.bind_eq_some_iff.mp h
      have A31 := Aside0.mk (show impl_SettleOne.f k t33 t34 t35 = some (t36, t37) from A310)
      clear A310
      obtain ⟨t39, A340, h⟩ := Option.bind_eq_some_iff.mp h
      have A34 := Aside0.mk (show laws_eqLedgerResult.f k t36 t37 t8 t9 = some t39 from A340)
      clear A340
      obtain ⟨c50, h⟩ := q_if h
      subst c50
      obtain ⟨t40, A350, h⟩ := Option.bind_eq_some_iff.mp h
      have A35 := Aside0.mk (show laws_heldLedgerResult.f k t16 t31 1 = some t40 from A350)
      clear A350
      obtain ⟨c51, h⟩ := q_fi h
      have c51b := decide_eq_false c51
      clear c51
      obtain ⟨c52, h⟩ := q_if h
      have c52b : (t40 == t30) = true := beq_iff_eq.mpr c52
      have c52n : (t40 != t30) = false := bne_eq_false_iff_eq.mpr c52
      clear c52
      obtain rfl : true = r := Option.some.inj h
      clear h
      go_enter Try.func4, Try.ntmps4
      go_wp2_with (first | ((with_reducible refine gate_dst (N := 2) rfl ?_); refine q_box (N := 2) (cs := #[.slice A0_0 l0_0.length c0_0]) (t := 47) ?_; intro g1 hg_ w1_ hbox hb; have GB1 := Aside0.mk (q_g hg_ HB.out); replace HB := Aside0.mk (below_step HB.out hb); have B1 := Aside0.mk hbox; clear hb hbox hg_) | ((with_reducible refine gate_dst (N := 3) rfl ?_); refine q_box (N := 3) (cs := #[.int .i64 a1_0, .slice A1_1 l1_1.length c1_1]) (t := 50) ?_; intro g2 hg_ w2_ hbox hb; have NEB1_B2 := Aside0.mk (show g1 ≠ g2 from by rw [hg_]; exact Nat.ne_of_lt (blk_lt B1.out)); have GB2 := Aside0.mk (q_g hg_ HB.out); replace B1 := Aside0.mk (blk_below B1.out hb); replace HB := Aside0.mk (below_step HB.out hb); have B2 := Aside0.mk hbox; clear hb hbox hg_; obtain ⟨hcw2_B1_0, hfw2_B1_0⟩ := q_1 B1.out) | ((with_reducible refine gate_dst (N := 16) rfl ?_); refine goesL_ (some 16) rfl rfl Try.func21 (by kernel_rfl) rfl #[.agg #[.slice A0_0 l0_0.length c0_0], .int .i64 1048576] rfl (by (try simp only [List.map_toArray, List.map_cons, List.map_nil]); first | done | rfl) ?_; (with_reducible refine (laws_szLedger.calls k _ _ l0_0 1048576 t3 _ ?side1 ?side2 A3.out).mono ?_); (case side1 => exact Kd.C_below HR0_0.out HB.out); (case side2 => exact HC0_0.out); rintro e w3_ ⟨rfl, hb⟩; refine ⟨_, rfl, ?_⟩; replace B1 := Aside0.mk (blk_below B1.out hb); replace B2 := Aside0.mk (blk_below B2.out hb); replace HB := Aside0.mk (below_step HB.out hb); clear hb; obtain ⟨hcw3_B2_0, hcw3_B2_1, hfw3_B2_0, hfw3_B2_1⟩ := q_2 B2.out) | ((with_reducible refine gate_dst (N := 21) rfl ?_); refine goesL_ (some 21) rfl rfl Try.func22 (by kernel_rfl) rfl #[.agg #[.int .i64 a1_0, .slice A1_1 l1_1.length c1_1], .int .i64 t3] rfl (by (try simp only [List.map_toArray, List.map_cons, List.map_nil]); first | done | rfl) ?_; (with_reducible refine (laws_szContract.calls a1_0 _ _ l1_1 t3 t4 _ ?side1 ?side2 A4.out).mono ?_); (case side1 => exact Kd.C_below HR1_1.out HB.out); (case side2 => exact HC1_1.out); rintro e w4_ ⟨rfl, hb⟩; refine ⟨_, rfl, ?_⟩; replace B1 := Aside0.mk (blk_below B1.out hb); replace B2 := Aside0.mk (blk_below B2.out hb); replace HB := Aside0.mk (below_step HB.out hb); clear hb; obtain ⟨hcw4_B1_0, hfw4_B1_0⟩ := q_1 B1.out))
      replace B1 := Aside0.mk (blk_drew B1.out)
      replace B2 := Aside0.mk (blk_drew B2.out)
      replace HB := Aside0.mk (below_drew1 HB.out)
      refine start_ (n := 7) (S := fun w' => w'.cell? ⟨g1, 0, none⟩ = some (.slice A0_0 l0_0.length c0_0) ∧ w'.cell? ⟨g2, 0, none⟩ = some (.int .i64 a1_0) ∧ w'.cell? ⟨g2, 1, none⟩ = some (.slice A1_1 l1_1.length c1_1)) (ds := []) #[false, false, false, false, false, false, false] (by kernel_rfl) rfl rfl ⟨q_z B1.out 0, q_z B2.out 0, q_z B2.out 1⟩ (fun hHeld => ?_)
      generalize w4_.drew = w5d_ at B1 B2 HB hHeld ⊢
      refine take_ (i := 0) (N := some 24) (v := ?_) (a' := ?_) #[true, false, false, false, false, false, false] rfl rfl (by kernel_rfl) (fun _ _ _ h => h) (Or.inl ⟨by rfl, ?_⟩) hHeld ?_ ?_
      rotate_left
      · rintro w' ⟨s0, s1, s2⟩
        go_simp
        with_reducible rfl
      rotate_left
      · simp only [Act.put, List.setIfInBounds_toArray, List.set_cons_zero, List.set_cons_succ, i64_w, i32_w]
        rfl
      refine take_ (i := 2) (N := some 26) (v := ?_) (a' := ?_) #[true, false, true, false, false, false, false] rfl rfl (by kernel_rfl) (fun _ _ _ h => h) (Or.inl ⟨by rfl, ?_⟩) hHeld ?_ ?_
      rotate_left
      · rintro w' ⟨s0, s1, s2⟩
        go_simp
        with_reducible rfl
      rotate_left
      · simp only [Act.put, List.setIfInBounds_toArray, List.set_cons_zero, List.set_cons_succ, i64_w, i32_w]
        rfl
      refine join_ (σ := World × World × Nat × Option Addr × Nat × Value × Value) 0 #[true, true, true, true, true, true, true] (fun s_ => [(25, s_.2.2.2.2.2.1), (27, s_.2.2.2.2.2.2), (28, .agg #[.int .i64 t8, .slice s_.2.2.2.1 t9.length s_.2.2.2.2.1]), (6, .pointer (some ⟨s_.2.2.1, 0, none⟩))]) (fun s_ w' => (w'.heap[g1]? = some (.cells #[.slice A0_0 l0_0.length c0_0] 47 (0, 0))) ∧ (w'.heap[g2]? = some (.cells #[.int .i64 a1_0, .slice A1_1 l1_1.length c1_1] 50 (0, 0))) ∧ (g1 ≠ s_.2.2.1) ∧ (g2 ≠ s_.2.2.1) ∧ (w'.heap[s_.2.2.1]? = some (.cells #[.int .i64 t8, .slice s_.2.2.2.1 t9.length s_.2.2.2.2.1] 36 (0, 0))) ∧ (w.heap.size ≤ s_.2.2.1) ∧ (Kd.S (Kd.slice 104 k104) 64 w' w.heap.size (fun k_ => s_.1.heap.size ≤ k_ ∧ k_ < s_.2.1.heap.size) (.slice s_.2.2.2.1 t9.length s_.2.2.2.2.1) t9) ∧ (s_.2.1.heap.size ≤ w'.heap.size) ∧ (Below w.heap.size w w')) ?_ ?_
      rotate_left
      · intro hj_
        refine two_ (i := 1) (j := 5) (Ni := some 25) (Nj := some 6) #[true, true, true, false, false, false, false] #[true, false, true, false, false, true, false] rfl rfl rfl rfl (by kernel_rfl) (by decide) (by decide) (fun K hK => ?_) (fun K hK => ?_)
        · skip
          refine goes_ Try.func24 (by kernel_rfl) rfl #[.agg #[.slice A0_0 l0_0.length c0_0]] (by rfl) rfl rfl (by (try simp only [List.map_toArray, List.map_cons, List.map_nil]); first | done | rfl) ?_
          with_reducible refine (laws_toLedger.calls k _ _ l0_0 t5 _ ?side1 ?side2 A5.out).mono ?_
          (case side1 => exact Kd.C_below HR0_0.out HB.out)
          (case side2 => exact HC0_0.out)
          rintro e w5_ ⟨vO5, rfl, ho0, hb⟩
          refine ⟨_, rfl, ?_⟩
          have O5 := Aside0.mk (q_nS HB.out ho0)
          have UO5 := Aside0.mk (Nat.le_refl w5_.heap.size)
          replace B1 := Aside0.mk (blk_below B1.out hb)
          replace B2 := Aside0.mk (blk_below B2.out hb)
          replace HB := Aside0.mk (below_step HB.out hb)
          obtain ⟨A5_, c5_, eo_⟩ := Kd.S_slice O5.out
          subst eo_
          clear hb ho0
          refine hK.out _ _ ⟨q_z B1.out 0, q_z B2.out 0, q_z B2.out 1⟩ (fun hHeld => ?_)
          refine norm_ (a' := ?_) ?_ ?_
          rotate_left
          · show Act.put _ (some 25) _ = _
            simp only [Act.put, List.setIfInBounds_toArray, List.set_cons_zero, List.set_cons_succ, i64_w, i32_w]
            rfl
          refine two_ (i := 3) (j := 5) (Ni := some 27) (Nj := some 6) #[true, true, true, true, false, false, false] #[true, true, true, false, false, true, false] rfl rfl rfl rfl (by kernel_rfl) (by decide) (by decide) (fun K hK => ?_) (fun K hK => ?_)
          · skip
            refine goes_ Try.func25 (by kernel_rfl) rfl #[.agg #[.int .i64 a1_0, .slice A1_1 l1_1.length c1_1]] (by rfl) rfl rfl (by (try simp only [List.map_toArray, List.map_cons, List.map_nil]); first | done | rfl) ?_
            with_reducible refine (laws_toContract.calls k a1_0 _ _ l1_1 t6 t7 _ ?side1 ?side2 A6.out).mono ?_
            (case side1 => exact Kd.C_below HR1_1.out HB.out)
            (case side2 => exact HC1_1.out)
            rintro e w6_ ⟨vO7, rfl, ho0, hb⟩
            refine ⟨_, rfl, ?_⟩
            have O7 := Aside0.mk (q_nR HB.out ho0)
            have UO7 := Aside0.mk (Nat.le_refl w6_.heap.size)
            replace O5 := Aside0.mk (Kd.S_below O5.out hb)
            replace UO5 := Aside0.mk (Nat.le_trans UO5.out hb.size)
            replace B1 := Aside0.mk (blk_below B1.out hb)
            replace B2 := Aside0.mk (blk_below B2.out hb)
            replace HB := Aside0.mk (below_step HB.out hb)
            obtain ⟨A7_, c7_, eo_⟩ := Kd.R_slice O7.out
            subst eo_
            clear hb ho0
            refine hK.out _ _ ⟨q_z B1.out 0, q_z B2.out 0, q_z B2.out 1⟩ (fun hHeld => ?_)
            refine norm_ (a' := ?_) ?_ ?_
            rotate_left
            · show Act.put _ (some 27) _ = _
              simp only [Act.put, List.setIfInBounds_toArray, List.set_cons_zero, List.set_cons_succ, i64_w, i32_w]
              rfl
            refine two_ (i := 4) (j := 5) (Ni := some 28) (Nj := some 6) #[true, true, true, true, true, false, false] #[true, true, true, true, false, true, false] rfl rfl rfl rfl (by kernel_rfl) (by decide) (by decide) (fun K hK => ?_) (fun K hK => ?_)
            · skip
              refine goes_ Try.func23 (by kernel_rfl) rfl #[.agg #[.slice A5_ t5.length c5_], .agg #[.int .i64 t6, .slice A7_ t7.length c7_]] (by rfl) rfl rfl (by (try simp only [List.map_toArray, List.map_cons, List.map_nil]); first | done | rfl) ?_
              with_reducible refine (spec_SettleOne.calls k _ _ t5 t6 _ _ t7 t8 t9 _ ?side1 ?side2 ?side3 ?side4 A7.out).mono ?_
              (case side1 => exact (q_lenS O5.out).1)
              (case side2 => exact (q_lenS O5.out).2.1)
              (case side3 => exact (q_lenR O7.out).1)
              (case side4 => exact (q_lenR O7.out).2.1)
              rintro e w7_ ⟨vO9, rfl, ho0, hb⟩
              refine ⟨_, rfl, ?_⟩
              have O9 := Aside0.mk (q_nS HB.out ho0)
              have UO9 := Aside0.mk (Nat.le_refl w7_.heap.size)
              replace O5 := Aside0.mk (Kd.S_below O5.out hb)
              replace UO5 := Aside0.mk (Nat.le_trans UO5.out hb.size)
              replace O7 := Aside0.mk (Kd.R_below O7.out hb)
              replace UO7 := Aside0.mk (Nat.le_trans UO7.out hb.size)
              replace B1 := Aside0.mk (blk_below B1.out hb)
              replace B2 := Aside0.mk (blk_below B2.out hb)
              replace HB := Aside0.mk (below_step HB.out hb)
              obtain ⟨A9_, c9_, eo_⟩ := Kd.S_slice O9.out
              subst eo_
              clear hb ho0
              refine hK.out _ _ ⟨q_z B1.out 0, q_z B2.out 0, q_z B2.out 1⟩ (fun hHeld => ?_)
              refine norm_ (a' := ?_) ?_ ?_
              rotate_left
              · show Act.put _ (some 28) _ = _
                simp only [Act.put, List.setIfInBounds_toArray, List.set_cons_zero, List.set_cons_succ, i64_w, i32_w]
                rfl
              refine one_ (i := 5) (N := some 6) #[true, true, true, true, true, true, false] rfl rfl (by kernel_rfl) (by decide) (fun K hK => ?_)
              refine box_step (by rfl) (N := 6) rfl (cs := #[.int .i64 0, .slice none 0 0]) (t := 36) (by first | (go_simp; done) | (go_simp; rfl)) ?_
              intro g10 hg_ w8_ hbox hb
              have NEB2_B10 := Aside0.mk (show g2 ≠ g10 from by rw [hg_]; exact Nat.ne_of_lt (blk_lt B2.out))
              have NEB1_B10 := Aside0.mk (show g1 ≠ g10 from by rw [hg_]; exact Nat.ne_of_lt (blk_lt B1.out))
              have GB10 := Aside0.mk (q_g hg_ HB.out)
              have DHB10_O9 := Aside0.mk (show _ ≤ g10 from by rw [hg_]; exact UO9.out)
              clear O5
              clear O7
              replace O9 := Aside0.mk (Kd.S_below O9.out hb)
              replace UO9 := Aside0.mk (Nat.le_trans UO9.out hb.size)
              replace B1 := Aside0.mk (blk_below B1.out hb)
              replace B2 := Aside0.mk (blk_below B2.out hb)
              replace HB := Aside0.mk (below_step HB.out hb)
              have B10 := Aside0.mk hbox
              clear hb hbox hg_
              obtain ⟨hcw8__0, hcw8__1, hfw8__0, hfw8__1⟩ := q_2 B10.out
              refine hK.out _ _ ⟨q_z B1.out 0, q_z B2.out 0, q_z B2.out 1⟩ (fun hHeld => ?_)
              refine norm_ (a' := ?_) ?_ ?_
              rotate_left
              · show Act.put _ (some 6) _ = _
                simp only [Act.put, List.setIfInBounds_toArray, List.set_cons_zero, List.set_cons_succ, i64_w, i32_w]
                rfl
              refine one_ (i := 6) (N := none) #[true, true, true, true, true, true, true] rfl rfl (by kernel_rfl) (by decide) (fun K hK => ?_)
              obtain ⟨hcsw9__0, hcsw9__1, hfsw9__0, hfsw9__1⟩ := q_2 B10.out
              refine skip_ (w1 := ((w8_.setCell ⟨g10, 0, none⟩ (.int .i64 t8)).setCell ⟨g10, 1, none⟩ (.slice A9_ t9.length c9_))) (by rfl) rfl (by first | (go_simp; done) | (go_simp; rfl)) ?_
              obtain ⟨w9_, hw_⟩ : ∃ W_, W_ = ((w8_.setCell ⟨g10, 0, none⟩ (.int .i64 t8)).setCell ⟨g10, 1, none⟩ (.slice A9_ t9.length c9_)) := ⟨_, rfl⟩
              rw [← hw_]
              have hk_ : Kept w8_ w9_ (fun k_ => k_ = g10) := (by rw [hw_]; exact (Kept.setCell (Kept.setCell (Kept.refl w8_ (fun k_ => k_ = g10)) (.inl rfl) _) (.inl rfl) _))
              replace B10 := Aside0.mk (show w9_.heap[g10]? = some (.cells #[.int .i64 t8, .slice A9_ t9.length c9_] 36 (0, 0)) from by rw [hw_]; exact (blk_put (blk_put B10.out 0 _ rfl) 1 _ rfl))
              replace O9 := Aside0.mk (Kd.S_kept O9.out hk_ (fun k_ h1_ h2_ => q_ig DHB10_O9.out k_ h1_ h2_))
              replace UO9 := Aside0.mk (Nat.le_trans UO9.out hk_.1)
              replace B1 := Aside0.mk (blk_kept B1.out hk_ (by intro h_; exact absurd h_ NEB1_B10.out))
              replace B2 := Aside0.mk (blk_kept B2.out hk_ (by intro h_; exact absurd h_ NEB2_B10.out))
              replace HB := Aside0.mk (show Below w.heap.size w w9_ from by rw [hw_]; exact (below_set (below_set HB.out GB10.out) GB10.out))
              clear hk_ hw_
              refine hK.out _ _ ⟨q_z B1.out 0, q_z B2.out 0, q_z B2.out 1⟩ (fun hHeld => ?_)
              obtain ⟨hcw9_B1_0, hfw9_B1_0⟩ := q_1 B1.out
              exact norm_ (by simp only [putAll, Act.put, List.setIfInBounds_toArray, List.set_cons_zero, List.set_cons_succ]) (hj_ (w6_, w7_, g10, A9_, c9_, (.agg #[.slice A5_ t5.length c5_]), (.agg #[.int .i64 t6, .slice A7_ t7.length c7_])) w9_ ⟨B1.out, B2.out, NEB1_B10.out, NEB2_B10.out, B10.out, GB10.out, O9.out, UO9.out, HB.out⟩)
            · skip
              refine box_step (by rfl) (N := 6) rfl (cs := #[.int .i64 0, .slice none 0 0]) (t := 36) (by first | (go_simp; done) | (go_simp; rfl)) ?_
              intro g10 hg_ w8_ hbox hb
              have NEB2_B10 := Aside0.mk (show g2 ≠ g10 from by rw [hg_]; exact Nat.ne_of_lt (blk_lt B2.out))
              have NEB1_B10 := Aside0.mk (show g1 ≠ g10 from by rw [hg_]; exact Nat.ne_of_lt (blk_lt B1.out))
              have GB10 := Aside0.mk (q_g hg_ HB.out)
              have DHB10_O5 := Aside0.mk (show _ ≤ g10 from by rw [hg_]; exact UO5.out)
              have DHB10_O7 := Aside0.mk (show _ ≤ g10 from by rw [hg_]; exact UO7.out)
              replace O5 := Aside0.mk (Kd.S_below O5.out hb)
              replace UO5 := Aside0.mk (Nat.le_trans UO5.out hb.size)
              replace O7 := Aside0.mk (Kd.R_below O7.out hb)
              replace UO7 := Aside0.mk (Nat.le_trans UO7.out hb.size)
              replace B1 := Aside0.mk (blk_below B1.out hb)
              replace B2 := Aside0.mk (blk_below B2.out hb)
              replace HB := Aside0.mk (below_step HB.out hb)
              have B10 := Aside0.mk hbox
              clear hb hbox hg_
              obtain ⟨hcw8__0, hcw8__1, hfw8__0, hfw8__1⟩ := q_2 B10.out
              refine hK.out _ _ ⟨q_z B1.out 0, q_z B2.out 0, q_z B2.out 1⟩ (fun hHeld => ?_)
              refine norm_ (a' := ?_) ?_ ?_
              rotate_left
              · show Act.put _ (some 6) _ = _
                simp only [Act.put, List.setIfInBounds_toArray, List.set_cons_zero, List.set_cons_succ, i64_w, i32_w]
                rfl
              refine one_ (i := 4) (N := some 28) #[true, true, true, true, true, true, false] rfl rfl (by kernel_rfl) (by decide) (fun K hK => ?_)
              refine goes_ Try.func23 (by kernel_rfl) rfl #[.agg #[.slice A5_ t5.length c5_], .agg #[.int .i64 t6, .slice A7_ t7.length c7_]] (by rfl) rfl rfl (by (try simp only [List.map_toArray, List.map_cons, List.map_nil]); first | done | rfl) ?_
              with_reducible refine (spec_SettleOne.calls k _ _ t5 t6 _ _ t7 t8 t9 _ ?side1 ?side2 ?side3 ?side4 A7.out).mono ?_
              (case side1 => exact (q_lenS O5.out).1)
              (case side2 => exact (q_lenS O5.out).2.1)
              (case side3 => exact (q_lenR O7.out).1)
              (case side4 => exact (q_lenR O7.out).2.1)
              rintro e w7_ ⟨vO9, rfl, ho0, hb⟩
              refine ⟨_, rfl, ?_⟩
              have O9 := Aside0.mk (q_nS HB.out ho0)
              have UO9 := Aside0.mk (Nat.le_refl w7_.heap.size)
              have DGB10_O9 := Aside0.mk (blk_lt B10.out)
              replace O5 := Aside0.mk (Kd.S_below O5.out hb)
              replace UO5 := Aside0.mk (Nat.le_trans UO5.out hb.size)
              replace O7 := Aside0.mk (Kd.R_below O7.out hb)
              replace UO7 := Aside0.mk (Nat.le_trans UO7.out hb.size)
              replace B1 := Aside0.mk (blk_below B1.out hb)
              replace B2 := Aside0.mk (blk_below B2.out hb)
              replace B10 := Aside0.mk (blk_below B10.out hb)
              replace HB := Aside0.mk (below_step HB.out hb)
              obtain ⟨A9_, c9_, eo_⟩ := Kd.S_slice O9.out
              subst eo_
              clear hb ho0
              refine hK.out _ _ ⟨q_z B1.out 0, q_z B2.out 0, q_z B2.out 1⟩ (fun hHeld => ?_)
              refine norm_ (a' := ?_) ?_ ?_
              rotate_left
              · show Act.put _ (some 28) _ = _
                simp only [Act.put, List.setIfInBounds_toArray, List.set_cons_zero, List.set_cons_succ, i64_w, i32_w]
                rfl
              refine one_ (i := 6) (N := none) #[true, true, true, true, true, true, true] rfl rfl (by kernel_rfl) (by decide) (fun K hK => ?_)
              obtain ⟨hcsw9__0, hcsw9__1, hfsw9__0, hfsw9__1⟩ := q_2 B10.out
              refine skip_ (w1 := ((w7_.setCell ⟨g10, 0, none⟩ (.int .i64 t8)).setCell ⟨g10, 1, none⟩ (.slice A9_ t9.length c9_))) (by rfl) rfl (by first | (go_simp; done) | (go_simp; rfl)) ?_
              obtain ⟨w9_, hw_⟩ : ∃ W_, W_ = ((w7_.setCell ⟨g10, 0, none⟩ (.int .i64 t8)).setCell ⟨g10, 1, none⟩ (.slice A9_ t9.length c9_)) := ⟨_, rfl⟩
              rw [← hw_]
              have hk_ : Kept w7_ w9_ (fun k_ => k_ = g10) := (by rw [hw_]; exact (Kept.setCell (Kept.setCell (Kept.refl w7_ (fun k_ => k_ = g10)) (.inl rfl) _) (.inl rfl) _))
              replace B10 := Aside0.mk (show w9_.heap[g10]? = some (.cells #[.int .i64 t8, .slice A9_ t9.length c9_] 36 (0, 0)) from by rw [hw_]; exact (blk_put (blk_put B10.out 0 _ rfl) 1 _ rfl))
              clear O5
              clear O7
              replace O9 := Aside0.mk (Kd.S_kept O9.out hk_ (fun k_ h1_ h2_ => Nat.not_le_of_lt DGB10_O9.out (by rw [← h2_]; exact h1_.1)))
              replace UO9 := Aside0.mk (Nat.le_trans UO9.out hk_.1)
              replace B1 := Aside0.mk (blk_kept B1.out hk_ (by intro h_; exact absurd h_ NEB1_B10.out))
              replace B2 := Aside0.mk (blk_kept B2.out hk_ (by intro h_; exact absurd h_ NEB2_B10.out))
              replace HB := Aside0.mk (show Below w.heap.size w w9_ from by rw [hw_]; exact (below_set (below_set HB.out GB10.out) GB10.out))
              clear hk_ hw_
              refine hK.out _ _ ⟨q_z B1.out 0, q_z B2.out 0, q_z B2.out 1⟩ (fun hHeld => ?_)
              obtain ⟨hcw9_B1_0, hfw9_B1_0⟩ := q_1 B1.out
              exact norm_ (by simp only [putAll, Act.put, List.setIfInBounds_toArray, List.set_cons_zero, List.set_cons_succ]) (hj_ (w8_, w7_, g10, A9_, c9_, (.agg #[.slice A5_ t5.length c5_]), (.agg #[.int .i64 t6, .slice A7_ t7.length c7_])) w9_ ⟨B1.out, B2.out, NEB1_B10.out, NEB2_B10.out, B10.out, GB10.out, O9.out, UO9.out, HB.out⟩)
          · skip
            refine box_step (by rfl) (N := 6) rfl (cs := #[.int .i64 0, .slice none 0 0]) (t := 36) (by first | (go_simp; done) | (go_simp; rfl)) ?_
            intro g10 hg_ w8_ hbox hb
            have NEB2_B10 := Aside0.mk (show g2 ≠ g10 from by rw [hg_]; exact Nat.ne_of_lt (blk_lt B2.out))
            have NEB1_B10 := Aside0.mk (show g1 ≠ g10 from by rw [hg_]; exact Nat.ne_of_lt (blk_lt B1.out))
            have GB10 := Aside0.mk (q_g hg_ HB.out)
            have DHB10_O5 := Aside0.mk (show _ ≤ g10 from by rw [hg_]; exact UO5.out)
            replace O5 := Aside0.mk (Kd.S_below O5.out hb)
            replace UO5 := Aside0.mk (Nat.le_trans UO5.out hb.size)
            replace B1 := Aside0.mk (blk_below B1.out hb)
            replace B2 := Aside0.mk (blk_below B2.out hb)
            replace HB := Aside0.mk (below_step HB.out hb)
            have B10 := Aside0.mk hbox
            clear hb hbox hg_
            obtain ⟨hcw8__0, hcw8__1, hfw8__0, hfw8__1⟩ := q_2 B10.out
            refine hK.out _ _ ⟨q_z B1.out 0, q_z B2.out 0, q_z B2.out 1⟩ (fun hHeld => ?_)
            refine norm_ (a' := ?_) ?_ ?_
            rotate_left
            · show Act.put _ (some 6) _ = _
              simp only [Act.put, List.setIfInBounds_toArray, List.set_cons_zero, List.set_cons_succ, i64_w, i32_w]
              rfl
            refine one_ (i := 3) (N := some 27) #[true, true, true, true, false, true, false] rfl rfl (by kernel_rfl) (by decide) (fun K hK => ?_)
            refine goes_ Try.func25 (by kernel_rfl) rfl #[.agg #[.int .i64 a1_0, .slice A1_1 l1_1.length c1_1]] (by rfl) rfl rfl (by (try simp only [List.map_toArray, List.map_cons, List.map_nil]); first | done | rfl) ?_
            with_reducible refine (laws_toContract.calls k a1_0 _ _ l1_1 t6 t7 _ ?side1 ?side2 A6.out).mono ?_
            (case side1 => exact Kd.C_below HR1_1.out HB.out)
            (case side2 => exact HC1_1.out)
            rintro e w6_ ⟨vO7, rfl, ho0, hb⟩
            refine ⟨_, rfl, ?_⟩
            have O7 := Aside0.mk (q_nR HB.out ho0)
            have UO7 := Aside0.mk (Nat.le_refl w6_.heap.size)
            have DGB10_O7 := Aside0.mk (blk_lt B10.out)
            replace O5 := Aside0.mk (Kd.S_below O5.out hb)
            replace UO5 := Aside0.mk (Nat.le_trans UO5.out hb.size)
            replace B1 := Aside0.mk (blk_below B1.out hb)
            replace B2 := Aside0.mk (blk_below B2.out hb)
            replace B10 := Aside0.mk (blk_below B10.out hb)
            replace HB := Aside0.mk (below_step HB.out hb)
            obtain ⟨A7_, c7_, eo_⟩ := Kd.R_slice O7.out
            subst eo_
            clear hb ho0
            refine hK.out _ _ ⟨q_z B1.out 0, q_z B2.out 0, q_z B2.out 1⟩ (fun hHeld => ?_)
            refine norm_ (a' := ?_) ?_ ?_
            rotate_left
            · show Act.put _ (some 27) _ = _
              simp only [Act.put, List.setIfInBounds_toArray, List.set_cons_zero, List.set_cons_succ, i64_w, i32_w]
              rfl
            refine one_ (i := 4) (N := some 28) #[true, true, true, true, true, true, false] rfl rfl (by kernel_rfl) (by decide) (fun K hK => ?_)
            refine goes_ Try.func23 (by kernel_rfl) rfl #[.agg #[.slice A5_ t5.length c5_], .agg #[.int .i64 t6, .slice A7_ t7.length c7_]] (by rfl) rfl rfl (by (try simp only [List.map_toArray, List.map_cons, List.map_nil]); first | done | rfl) ?_
            with_reducible refine (spec_SettleOne.calls k _ _ t5 t6 _ _ t7 t8 t9 _ ?side1 ?side2 ?side3 ?side4 A7.out).mono ?_
            (case side1 => exact (q_lenS O5.out).1)
            (case side2 => exact (q_lenS O5.out).2.1)
            (case side3 => exact (q_lenR O7.out).1)
            (case side4 => exact (q_lenR O7.out).2.1)
            rintro e w7_ ⟨vO9, rfl, ho0, hb⟩
            refine ⟨_, rfl, ?_⟩
            have O9 := Aside0.mk (q_nS HB.out ho0)
            have UO9 := Aside0.mk (Nat.le_refl w7_.heap.size)
            have DGB10_O9 := Aside0.mk (blk_lt B10.out)
            replace O5 := Aside0.mk (Kd.S_below O5.out hb)
            replace UO5 := Aside0.mk (Nat.le_trans UO5.out hb.size)
            replace O7 := Aside0.mk (Kd.R_below O7.out hb)
            replace UO7 := Aside0.mk (Nat.le_trans UO7.out hb.size)
            replace B1 := Aside0.mk (blk_below B1.out hb)
            replace B2 := Aside0.mk (blk_below B2.out hb)
            replace B10 := Aside0.mk (blk_below B10.out hb)
            replace HB := Aside0.mk (below_step HB.out hb)
            obtain ⟨A9_, c9_, eo_⟩ := Kd.S_slice O9.out
            subst eo_
            clear hb ho0
            refine hK.out _ _ ⟨q_z B1.out 0, q_z B2.out 0, q_z B2.out 1⟩ (fun hHeld => ?_)
            refine norm_ (a' := ?_) ?_ ?_
            rotate_left
            · show Act.put _ (some 28) _ = _
              simp only [Act.put, List.setIfInBounds_toArray, List.set_cons_zero, List.set_cons_succ, i64_w, i32_w]
              rfl
            refine one_ (i := 6) (N := none) #[true, true, true, true, true, true, true] rfl rfl (by kernel_rfl) (by decide) (fun K hK => ?_)
            obtain ⟨hcsw9__0, hcsw9__1, hfsw9__0, hfsw9__1⟩ := q_2 B10.out
            refine skip_ (w1 := ((w7_.setCell ⟨g10, 0, none⟩ (.int .i64 t8)).setCell ⟨g10, 1, none⟩ (.slice A9_ t9.length c9_))) (by rfl) rfl (by first | (go_simp; done) | (go_simp; rfl)) ?_
            obtain ⟨w9_, hw_⟩ : ∃ W_, W_ = ((w7_.setCell ⟨g10, 0, none⟩ (.int .i64 t8)).setCell ⟨g10, 1, none⟩ (.slice A9_ t9.length c9_)) := ⟨_, rfl⟩
            rw [← hw_]
            have hk_ : Kept w7_ w9_ (fun k_ => k_ = g10) := (by rw [hw_]; exact (Kept.setCell (Kept.setCell (Kept.refl w7_ (fun k_ => k_ = g10)) (.inl rfl) _) (.inl rfl) _))
            replace B10 := Aside0.mk (show w9_.heap[g10]? = some (.cells #[.int .i64 t8, .slice A9_ t9.length c9_] 36 (0, 0)) from by rw [hw_]; exact (blk_put (blk_put B10.out 0 _ rfl) 1 _ rfl))
            clear O5
            clear O7
            replace O9 := Aside0.mk (Kd.S_kept O9.out hk_ (fun k_ h1_ h2_ => Nat.not_le_of_lt DGB10_O9.out (by rw [← h2_]; exact h1_.1)))
            replace UO9 := Aside0.mk (Nat.le_trans UO9.out hk_.1)
            replace B1 := Aside0.mk (blk_kept B1.out hk_ (by intro h_; exact absurd h_ NEB1_B10.out))
            replace B2 := Aside0.mk (blk_kept B2.out hk_ (by intro h_; exact absurd h_ NEB2_B10.out))
            replace HB := Aside0.mk (show Below w.heap.size w w9_ from by rw [hw_]; exact (below_set (below_set HB.out GB10.out) GB10.out))
            clear hk_ hw_
            refine hK.out _ _ ⟨q_z B1.out 0, q_z B2.out 0, q_z B2.out 1⟩ (fun hHeld => ?_)
            obtain ⟨hcw9_B1_0, hfw9_B1_0⟩ := q_1 B1.out
            exact norm_ (by simp only [putAll, Act.put, List.setIfInBounds_toArray, List.set_cons_zero, List.set_cons_succ]) (hj_ (w6_, w7_, g10, A9_, c9_, (.agg #[.slice A5_ t5.length c5_]), (.agg #[.int .i64 t6, .slice A7_ t7.length c7_])) w9_ ⟨B1.out, B2.out, NEB1_B10.out, NEB2_B10.out, B10.out, GB10.out, O9.out, UO9.out, HB.out⟩)
        · skip
          refine box_step (by rfl) (N := 6) rfl (cs := #[.int .i64 0, .slice none 0 0]) (t := 36) (by first | (go_simp; done) | (go_simp; rfl)) ?_
          intro g10 hg_ w8_ hbox hb
          have NEB2_B10 := Aside0.mk (show g2 ≠ g10 from by rw [hg_]; exact Nat.ne_of_lt (blk_lt B2.out))
          have NEB1_B10 := Aside0.mk (show g1 ≠ g10 from by rw [hg_]; exact Nat.ne_of_lt (blk_lt B1.out))
          have GB10 := Aside0.mk (q_g hg_ HB.out)
          replace B1 := Aside0.mk (blk_below B1.out hb)
          replace B2 := Aside0.mk (blk_below B2.out hb)
          replace HB := Aside0.mk (below_step HB.out hb)
          have B10 := Aside0.mk hbox
          clear hb hbox hg_
          obtain ⟨hcw8__0, hcw8__1, hfw8__0, hfw8__1⟩ := q_2 B10.out
          refine hK.out _ _ ⟨q_z B1.out 0, q_z B2.out 0, q_z B2.out 1⟩ (fun hHeld => ?_)
          refine norm_ (a' := ?_) ?_ ?_
          rotate_left
          · show Act.put _ (some 6) _ = _
            simp only [Act.put, List.setIfInBounds_toArray, List.set_cons_zero, List.set_cons_succ, i64_w, i32_w]
            rfl
          refine one_ (i := 1) (N := some 25) #[true, true, true, false, false, true, false] rfl rfl (by kernel_rfl) (by decide) (fun K hK => ?_)
          refine goes_ Try.func24 (by kernel_rfl) rfl #[.agg #[.slice A0_0 l0_0.length c0_0]] (by rfl) rfl rfl (by (try simp only [List.map_toArray, List.map_cons, List.map_nil]); first | done | rfl) ?_
          with_reducible refine (laws_toLedger.calls k _ _ l0_0 t5 _ ?side1 ?side2 A5.out).mono ?_
          (case side1 => exact Kd.C_below HR0_0.out HB.out)
          (case side2 => exact HC0_0.out)
          rintro e w5_ ⟨vO5, rfl, ho0, hb⟩
          refine ⟨_, rfl, ?_⟩
          have O5 := Aside0.mk (q_nS HB.out ho0)
          have UO5 := Aside0.mk (Nat.le_refl w5_.heap.size)
          have DGB10_O5 := Aside0.mk (blk_lt B10.out)
          replace B1 := Aside0.mk (blk_below B1.out hb)
          replace B2 := Aside0.mk (blk_below B2.out hb)
          replace B10 := Aside0.mk (blk_below B10.out hb)
          replace HB := Aside0.mk (below_step HB.out hb)
          obtain ⟨A5_, c5_, eo_⟩ := Kd.S_slice O5.out
          subst eo_
          clear hb ho0
          refine hK.out _ _ ⟨q_z B1.out 0, q_z B2.out 0, q_z B2.out 1⟩ (fun hHeld => ?_)
          refine norm_ (a' := ?_) ?_ ?_
          rotate_left
          · show Act.put _ (some 25) _ = _
            simp only [Act.put, List.setIfInBounds_toArray, List.set_cons_zero, List.set_cons_succ, i64_w, i32_w]
            rfl
          refine one_ (i := 3) (N := some 27) #[true, true, true, true, false, true, false] rfl rfl (by kernel_rfl) (by decide) (fun K hK => ?_)
          refine goes_ Try.func25 (by kernel_rfl) rfl #[.agg #[.int .i64 a1_0, .slice A1_1 l1_1.length c1_1]] (by rfl) rfl rfl (by (try simp only [List.map_toArray, List.map_cons, List.map_nil]); first | done | rfl) ?_
          with_reducible refine (laws_toContract.calls k a1_0 _ _ l1_1 t6 t7 _ ?side1 ?side2 A6.out).mono ?_
          (case side1 => exact Kd.C_below HR1_1.out HB.out)
          (case side2 => exact HC1_1.out)
          rintro e w6_ ⟨vO7, rfl, ho0, hb⟩
          refine ⟨_, rfl, ?_⟩
          have O7 := Aside0.mk (q_nR HB.out ho0)
          have UO7 := Aside0.mk (Nat.le_refl w6_.heap.size)
          have DGB10_O7 := Aside0.mk (blk_lt B10.out)
          replace O5 := Aside0.mk (Kd.S_below O5.out hb)
          replace UO5 := Aside0.mk (Nat.le_trans UO5.out hb.size)
          replace B1 := Aside0.mk (blk_below B1.out hb)
          replace B2 := Aside0.mk (blk_below B2.out hb)
          replace B10 := Aside0.mk (blk_below B10.out hb)
          replace HB := Aside0.mk (below_step HB.out hb)
          obtain ⟨A7_, c7_, eo_⟩ := Kd.R_slice O7.out
          subst eo_
          clear hb ho0
          refine hK.out _ _ ⟨q_z B1.out 0, q_z B2.out 0, q_z B2.out 1⟩ (fun hHeld => ?_)
          refine norm_ (a' := ?_) ?_ ?_
          rotate_left
          · show Act.put _ (some 27) _ = _
            simp only [Act.put, List.setIfInBounds_toArray, List.set_cons_zero, List.set_cons_succ, i64_w, i32_w]
            rfl
          refine one_ (i := 4) (N := some 28) #[true, true, true, true, true, true, false] rfl rfl (by kernel_rfl) (by decide) (fun K hK => ?_)
          refine goes_ Try.func23 (by kernel_rfl) rfl #[.agg #[.slice A5_ t5.length c5_], .agg #[.int .i64 t6, .slice A7_ t7.length c7_]] (by rfl) rfl rfl (by (try simp only [List.map_toArray, List.map_cons, List.map_nil]); first | done | rfl) ?_
          with_reducible refine (spec_SettleOne.calls k _ _ t5 t6 _ _ t7 t8 t9 _ ?side1 ?side2 ?side3 ?side4 A7.out).mono ?_
          (case side1 => exact (q_lenS O5.out).1)
          (case side2 => exact (q_lenS O5.out).2.1)
          (case side3 => exact (q_lenR O7.out).1)
          (case side4 => exact (q_lenR O7.out).2.1)
          rintro e w7_ ⟨vO9, rfl, ho0, hb⟩
          refine ⟨_, rfl, ?_⟩
          have O9 := Aside0.mk (q_nS HB.out ho0)
          have UO9 := Aside0.mk (Nat.le_refl w7_.heap.size)
          have DGB10_O9 := Aside0.mk (blk_lt B10.out)
          replace O5 := Aside0.mk (Kd.S_below O5.out hb)
          replace UO5 := Aside0.mk (Nat.le_trans UO5.out hb.size)
          replace O7 := Aside0.mk (Kd.R_below O7.out hb)
          replace UO7 := Aside0.mk (Nat.le_trans UO7.out hb.size)
          replace B1 := Aside0.mk (blk_below B1.out hb)
          replace B2 := Aside0.mk (blk_below B2.out hb)
          replace B10 := Aside0.mk (blk_below B10.out hb)
          replace HB := Aside0.mk (below_step HB.out hb)
          obtain ⟨A9_, c9_, eo_⟩ := Kd.S_slice O9.out
          subst eo_
          clear hb ho0
          refine hK.out _ _ ⟨q_z B1.out 0, q_z B2.out 0, q_z B2.out 1⟩ (fun hHeld => ?_)
          refine norm_ (a' := ?_) ?_ ?_
          rotate_left
          · show Act.put _ (some 28) _ = _
            simp only [Act.put, List.setIfInBounds_toArray, List.set_cons_zero, List.set_cons_succ, i64_w, i32_w]
            rfl
          refine one_ (i := 6) (N := none) #[true, true, true, true, true, true, true] rfl rfl (by kernel_rfl) (by decide) (fun K hK => ?_)
          obtain ⟨hcsw9__0, hcsw9__1, hfsw9__0, hfsw9__1⟩ := q_2 B10.out
          refine skip_ (w1 := ((w7_.setCell ⟨g10, 0, none⟩ (.int .i64 t8)).setCell ⟨g10, 1, none⟩ (.slice A9_ t9.length c9_))) (by rfl) rfl (by first | (go_simp; done) | (go_simp; rfl)) ?_
          obtain ⟨w9_, hw_⟩ : ∃ W_, W_ = ((w7_.setCell ⟨g10, 0, none⟩ (.int .i64 t8)).setCell ⟨g10, 1, none⟩ (.slice A9_ t9.length c9_)) := ⟨_, rfl⟩
          rw [← hw_]
          have hk_ : Kept w7_ w9_ (fun k_ => k_ = g10) := (by rw [hw_]; exact (Kept.setCell (Kept.setCell (Kept.refl w7_ (fun k_ => k_ = g10)) (.inl rfl) _) (.inl rfl) _))
          replace B10 := Aside0.mk (show w9_.heap[g10]? = some (.cells #[.int .i64 t8, .slice A9_ t9.length c9_] 36 (0, 0)) from by rw [hw_]; exact (blk_put (blk_put B10.out 0 _ rfl) 1 _ rfl))
          clear O5
          clear O7
          replace O9 := Aside0.mk (Kd.S_kept O9.out hk_ (fun k_ h1_ h2_ => Nat.not_le_of_lt DGB10_O9.out (by rw [← h2_]; exact h1_.1)))
          replace UO9 := Aside0.mk (Nat.le_trans UO9.out hk_.1)
          replace B1 := Aside0.mk (blk_kept B1.out hk_ (by intro h_; exact absurd h_ NEB1_B10.out))
          replace B2 := Aside0.mk (blk_kept B2.out hk_ (by intro h_; exact absurd h_ NEB2_B10.out))
          replace HB := Aside0.mk (show Below w.heap.size w w9_ from by rw [hw_]; exact (below_set (below_set HB.out GB10.out) GB10.out))
          clear hk_ hw_
          refine hK.out _ _ ⟨q_z B1.out 0, q_z B2.out 0, q_z B2.out 1⟩ (fun hHeld => ?_)
          obtain ⟨hcw9_B1_0, hfw9_B1_0⟩ := q_1 B1.out
          exact norm_ (by simp only [putAll, Act.put, List.setIfInBounds_toArray, List.set_cons_zero, List.set_cons_succ]) (hj_ (w6_, w7_, g10, A9_, c9_, (.agg #[.slice A5_ t5.length c5_]), (.agg #[.int .i64 t6, .slice A7_ t7.length c7_])) w9_ ⟨B1.out, B2.out, NEB1_B10.out, NEB2_B10.out, B10.out, GB10.out, O9.out, UO9.out, HB.out⟩)
      rintro ⟨wb9_, we9_, g10, A9_, c9_, vj0_, vj1_⟩ w9j_ ⟨f0_, f1_, f2_, f3_, f4_, f5_, f6_, f7_, f8_⟩
      clear B1 B2 HB
      have B1 := Aside0.mk f0_
      have B2 := Aside0.mk f1_
      have NEB1_B10 := Aside0.mk f2_
      have NEB2_B10 := Aside0.mk f3_
      have B10 := Aside0.mk f4_
      have GB10 := Aside0.mk f5_
      have O9 := Aside0.mk f6_
      have UO9 := Aside0.mk (show we9_.heap.size ≤ w9j_.heap.size from f7_)
      have HB := Aside0.mk (show Below w.heap.size w w9j_ from f8_)
      clear f0_ f1_ f2_ f3_ f4_ f5_ f6_ f7_ f8_
      refine norm_ (a' := ?_) ?_ ?_
      rotate_left
      · simp only [putAll, Act.put, List.setIfInBounds_toArray, List.set_cons_zero, List.set_cons_succ]
        rfl
      obtain ⟨hcw9j_B1_0, hfw9j_B1_0⟩ := q_1 B1.out
      refine done_ (by kernel_rfl) ?_
      go_wp2_with (first | ((with_reducible refine gate_dst (N := 30) rfl ?_); refine goesL_ (some 30) rfl rfl Try.func24 (by kernel_rfl) rfl #[.agg #[.slice A0_0 l0_0.length c0_0]] rfl (by (try simp only [List.map_toArray, List.map_cons, List.map_nil]); first | done | rfl) ?_; (with_reducible refine (laws_toLedger.calls k _ _ l0_0 t11 _ ?side1 ?side2 A10.out).mono ?_); (case side1 => exact Kd.C_below HR0_0.out HB.out); (case side2 => exact HC0_0.out); rintro e w10_ ⟨vO11, rfl, ho0, hb⟩; refine ⟨_, rfl, ?_⟩; have O11 := Aside0.mk (q_nS HB.out ho0); have UO11 := Aside0.mk (Nat.le_refl w10_.heap.size); have DO9_O11 := Aside0.mk UO9.out; have DGB1_O11 := Aside0.mk (blk_lt B1.out); have DGB2_O11 := Aside0.mk (blk_lt B2.out); have DGB10_O11 := Aside0.mk (blk_lt B10.out); replace O9 := Aside0.mk (Kd.S_below O9.out hb); replace UO9 := Aside0.mk (Nat.le_trans UO9.out hb.size); replace B1 := Aside0.mk (blk_below B1.out hb); replace B2 := Aside0.mk (blk_below B2.out hb); replace B10 := Aside0.mk (blk_below B10.out hb); replace HB := Aside0.mk (below_step HB.out hb); obtain ⟨A11_, c11_, eo_⟩ := Kd.S_slice O11.out; subst eo_; clear hb ho0) | ((with_reducible refine gate_dst (N := 7) rfl ?_); refine q_box (N := 7) (cs := #[.slice none 0 0]) (t := 26) ?_; intro g12 hg_ w11_ hbox hb; have NEB1_B12 := Aside0.mk (show g1 ≠ g12 from by rw [hg_]; exact Nat.ne_of_lt (blk_lt B1.out)); have NEB2_B12 := Aside0.mk (show g2 ≠ g12 from by rw [hg_]; exact Nat.ne_of_lt (blk_lt B2.out)); have NEB10_B12 := Aside0.mk (show g10 ≠ g12 from by rw [hg_]; exact Nat.ne_of_lt (blk_lt B10.out)); have GB12 := Aside0.mk (q_g hg_ HB.out); have DHB12_O9 := Aside0.mk (show _ ≤ g12 from by rw [hg_]; exact UO9.out); have DHB12_O11 := Aside0.mk (show _ ≤ g12 from by rw [hg_]; exact UO11.out); replace O9 := Aside0.mk (Kd.S_below O9.out hb); replace UO9 := Aside0.mk (Nat.le_trans UO9.out hb.size); replace O11 := Aside0.mk (Kd.S_below O11.out hb); replace UO11 := Aside0.mk (Nat.le_trans UO11.out hb.size); replace B1 := Aside0.mk (blk_below B1.out hb); replace B2 := Aside0.mk (blk_below B2.out hb); replace B10 := Aside0.mk (blk_below B10.out hb); replace HB := Aside0.mk (below_step HB.out hb); have B12 := Aside0.mk hbox; clear hb hbox hg_; obtain ⟨hcw11__0, hfw11__0⟩ := q_1 B12.out) | ((with_reducible refine gate_store (t := 26) (p := 7) rfl ?_); refine store_event (t := 26) (p := 7) (v := ?vo12) (w1 := (w11_.setCell ⟨g12, 0, none⟩ (.slice A11_ t11.length c11_))) ?hg ?ho ?hn ?hr ?_; (case ho => rfl); (case hg => rfl); (case hn => rfl); (case hr => first | (go_simp; done) | (go_simp; rfl)); intro w12_ hw_; have hk_ : Kept w11_ w12_ (fun k_ => k_ = g12) := (by rw [hw_]; exact (Kept.setCell (Kept.refl w11_ (fun k_ => k_ = g12)) (.inl rfl) _)); replace B12 := Aside0.mk (show w12_.heap[g12]? = some (.cells #[.slice A11_ t11.length c11_] 26 (0, 0)) from by rw [hw_]; exact (blk_put B12.out 0 _ rfl)); replace O9 := Aside0.mk (Kd.S_kept O9.out hk_ (fun k_ h1_ h2_ => q_ig DHB12_O9.out k_ h1_ h2_)); replace UO9 := Aside0.mk (Nat.le_trans UO9.out hk_.1); replace O11 := Aside0.mk (Kd.S_kept O11.out hk_ (fun k_ h1_ h2_ => q_ig DHB12_O11.out k_ h1_ h2_)); replace UO11 := Aside0.mk (Nat.le_trans UO11.out hk_.1); replace B1 := Aside0.mk (blk_kept B1.out hk_ (by intro h_; exact absurd h_ NEB1_B12.out)); replace B2 := Aside0.mk (blk_kept B2.out hk_ (by intro h_; exact absurd h_ NEB2_B12.out)); replace B10 := Aside0.mk (blk_kept B10.out hk_ (by intro h_; exact absurd h_ NEB10_B12.out)); replace HB := Aside0.mk (show Below w.heap.size w w12_ from by rw [hw_]; exact (below_set HB.out GB12.out)); clear hk_ hw_; obtain ⟨hcw12_B2_0, hcw12_B2_1, hfw12_B2_0, hfw12_B2_1⟩ := q_2 B2.out) | ((with_reducible refine gate_dst (N := 32) rfl ?_); refine goesL_ (some 32) rfl rfl Try.func25 (by kernel_rfl) rfl #[.agg #[.int .i64 a1_0, .slice A1_1 l1_1.length c1_1]] rfl (by (try simp only [List.map_toArray, List.map_cons, List.map_nil]); first | done | rfl) ?_; (with_reducible refine (laws_toContract.calls k a1_0 _ _ l1_1 t13 t14 _ ?side1 ?side2 A13.out).mono ?_); (case side1 => exact Kd.C_below HR1_1.out HB.out); (case side2 => exact HC1_1.out); rintro e w13_ ⟨vO14, rfl, ho0, hb⟩; refine ⟨_, rfl, ?_⟩; have O14 := Aside0.mk (q_nR HB.out ho0); have UO14 := Aside0.mk (Nat.le_refl w13_.heap.size); have DO9_O14 := Aside0.mk UO9.out; have DO11_O14 := Aside0.mk UO11.out; have DGB1_O14 := Aside0.mk (blk_lt B1.out); have DGB2_O14 := Aside0.mk (blk_lt B2.out); have DGB10_O14 := Aside0.mk (blk_lt B10.out); have DGB12_O14 := Aside0.mk (blk_lt B12.out); replace O9 := Aside0.mk (Kd.S_below O9.out hb); replace UO9 := Aside0.mk (Nat.le_trans UO9.out hb.size); replace O11 := Aside0.mk (Kd.S_below O11.out hb); replace UO11 := Aside0.mk (Nat.le_trans UO11.out hb.size); replace B1 := Aside0.mk (blk_below B1.out hb); replace B2 := Aside0.mk (blk_below B2.out hb); replace B10 := Aside0.mk (blk_below B10.out hb); replace B12 := Aside0.mk (blk_below B12.out hb); replace HB := Aside0.mk (below_step HB.out hb); obtain ⟨A14_, c14_, eo_⟩ := Kd.R_slice O14.out; subst eo_; clear hb ho0) | ((with_reducible refine gate_dst (N := 8) rfl ?_); refine q_box (N := 8) (cs := #[.int .i64 0, .slice none 0 0]) (t := 40) ?_; intro g15 hg_ w14_ hbox hb; have NEB1_B15 := Aside0.mk (show g1 ≠ g15 from by rw [hg_]; exact Nat.ne_of_lt (blk_lt B1.out)); have NEB2_B15 := Aside0.mk (show g2 ≠ g15 from by rw [hg_]; exact Nat.ne_of_lt (blk_lt B2.out)); have NEB10_B15 := Aside0.mk (show g10 ≠ g15 from by rw [hg_]; exact Nat.ne_of_lt (blk_lt B10.out)); have NEB12_B15 := Aside0.mk (show g12 ≠ g15 from by rw [hg_]; exact Nat.ne_of_lt (blk_lt B12.out)); have GB15 := Aside0.mk (q_g hg_ HB.out); have DHB15_O9 := Aside0.mk (show _ ≤ g15 from by rw [hg_]; exact UO9.out); have DHB15_O11 := Aside0.mk (show _ ≤ g15 from by rw [hg_]; exact UO11.out); have DHB15_O14 := Aside0.mk (show _ ≤ g15 from by rw [hg_]; exact UO14.out); replace O9 := Aside0.mk (Kd.S_below O9.out hb); replace UO9 := Aside0.mk (Nat.le_trans UO9.out hb.size); replace O11 := Aside0.mk (Kd.S_below O11.out hb); replace UO11 := Aside0.mk (Nat.le_trans UO11.out hb.size); replace O14 := Aside0.mk (Kd.R_below O14.out hb); replace UO14 := Aside0.mk (Nat.le_trans UO14.out hb.size); replace B1 := Aside0.mk (blk_below B1.out hb); replace B2 := Aside0.mk (blk_below B2.out hb); replace B10 := Aside0.mk (blk_below B10.out hb); replace B12 := Aside0.mk (blk_below B12.out hb); replace HB := Aside0.mk (below_step HB.out hb); have B15 := Aside0.mk hbox; clear hb hbox hg_; obtain ⟨hcw14__0, hcw14__1, hfw14__0, hfw14__1⟩ := q_2 B15.out) | ((with_reducible refine gate_store (t := 40) (p := 8) rfl ?_); refine store_event (t := 40) (p := 8) (v := ?vo15) (w1 := ((w14_.setCell ⟨g15, 0, none⟩ (.int .i64 t13)).setCell ⟨g15, 1, none⟩ (.slice A14_ t14.length c14_))) ?hg ?ho ?hn ?hr ?_; (case ho => rfl); (case hg => rfl); (case hn => rfl); (case hr => first | (go_simp; done) | (go_simp; rfl)); intro w15_ hw_; have hk_ : Kept w14_ w15_ (fun k_ => k_ = g15) := (by rw [hw_]; exact (Kept.setCell (Kept.setCell (Kept.refl w14_ (fun k_ => k_ = g15)) (.inl rfl) _) (.inl rfl) _)); replace B15 := Aside0.mk (show w15_.heap[g15]? = some (.cells #[.int .i64 t13, .slice A14_ t14.length c14_] 40 (0, 0)) from by rw [hw_]; exact (blk_put (blk_put B15.out 0 _ rfl) 1 _ rfl)); replace O9 := Aside0.mk (Kd.S_kept O9.out hk_ (fun k_ h1_ h2_ => q_ig DHB15_O9.out k_ h1_ h2_)); replace UO9 := Aside0.mk (Nat.le_trans UO9.out hk_.1); replace O11 := Aside0.mk (Kd.S_kept O11.out hk_ (fun k_ h1_ h2_ => q_ig DHB15_O11.out k_ h1_ h2_)); replace UO11 := Aside0.mk (Nat.le_trans UO11.out hk_.1); replace O14 := Aside0.mk (Kd.R_kept O14.out hk_ (fun k_ h1_ h2_ => q_ig DHB15_O14.out k_ h1_ h2_)); replace UO14 := Aside0.mk (Nat.le_trans UO14.out hk_.1); replace B1 := Aside0.mk (blk_kept B1.out hk_ (by intro h_; exact absurd h_ NEB1_B15.out)); replace B2 := Aside0.mk (blk_kept B2.out hk_ (by intro h_; exact absurd h_ NEB2_B15.out)); replace B10 := Aside0.mk (blk_kept B10.out hk_ (by intro h_; exact absurd h_ NEB10_B15.out)); replace B12 := Aside0.mk (blk_kept B12.out hk_ (by intro h_; exact absurd h_ NEB12_B15.out)); replace HB := Aside0.mk (show Below w.heap.size w w15_ from by rw [hw_]; exact (below_set (below_set HB.out GB15.out) GB15.out)); clear hk_ hw_; obtain ⟨hcw15_B12_0, hfw15_B12_0⟩ := q_1 B12.out; obtain ⟨hcw15_B15_0, hcw15_B15_1, hfw15_B15_0, hfw15_B15_1⟩ := q_2 B15.out) | ((with_reducible refine gate_dst (N := 35) rfl ?_); refine goesL_ (some 35) rfl rfl Try.func18 (by kernel_rfl) rfl #[.agg #[.slice A11_ t11.length c11_], .agg #[.int .i64 t13, .slice A14_ t14.length c14_]] rfl (by (try simp only [List.map_toArray, List.map_cons, List.map_nil]); first | done | rfl) ?_; (with_reducible refine (impl_SettleOne.calls k _ _ t11 t13 _ _ t14 t16 t17 _ ?side1 ?side2 ?side3 ?side4 A16.out).mono ?_); (case side1 => exact (q_lenS O11.out).1); (case side2 => exact (q_lenS O11.out).2.1); (case side3 => exact (q_lenR O14.out).1); (case side4 => exact (q_lenR O14.out).2.1); rintro e w16_ ⟨vO17, rfl, ho0, hb⟩; refine ⟨_, rfl, ?_⟩; have O17 := Aside0.mk (q_nS HB.out ho0); have UO17 := Aside0.mk (Nat.le_refl w16_.heap.size); have DO9_O17 := Aside0.mk UO9.out; have DO11_O17 := Aside0.mk UO11.out; have DO14_O17 := Aside0.mk UO14.out; have DGB1_O17 := Aside0.mk (blk_lt B1.out); have DGB2_O17 := Aside0.mk (blk_lt B2.out); have DGB10_O17 := Aside0.mk (blk_lt B10.out); have DGB12_O17 := Aside0.mk (blk_lt B12.out); have DGB15_O17 := Aside0.mk (blk_lt B15.out); replace O9 := Aside0.mk (Kd.S_below O9.out hb); replace UO9 := Aside0.mk (Nat.le_trans UO9.out hb.size); replace O11 := Aside0.mk (Kd.S_below O11.out hb); replace UO11 := Aside0.mk (Nat.le_trans UO11.out hb.size); replace O14 := Aside0.mk (Kd.R_below O14.out hb); replace UO14 := Aside0.mk (Nat.le_trans UO14.out hb.size); replace B1 := Aside0.mk (blk_below B1.out hb); replace B2 := Aside0.mk (blk_below B2.out hb); replace B10 := Aside0.mk (blk_below B10.out hb); replace B12 := Aside0.mk (blk_below B12.out hb); replace B15 := Aside0.mk (blk_below B15.out hb); replace HB := Aside0.mk (below_step HB.out hb); obtain ⟨A17_, c17_, eo_⟩ := Kd.S_slice O17.out; subst eo_; clear hb ho0) | ((with_reducible refine gate_dst (N := 9) rfl ?_); refine q_box (N := 9) (cs := #[.int .i64 0, .slice none 0 0]) (t := 36) ?_; intro g18 hg_ w17_ hbox hb; have NEB1_B18 := Aside0.mk (show g1 ≠ g18 from by rw [hg_]; exact Nat.ne_of_lt (blk_lt B1.out)); have NEB2_B18 := Aside0.mk (show g2 ≠ g18 from by rw [hg_]; exact Nat.ne_of_lt (blk_lt B2.out)); have NEB10_B18 := Aside0.mk (show g10 ≠ g18 from by rw [hg_]; exact Nat.ne_of_lt (blk_lt B10.out)); have NEB12_B18 := Aside0.mk (show g12 ≠ g18 from by rw [hg_]; exact Nat.ne_of_lt (blk_lt B12.out)); have NEB15_B18 := Aside0.mk (show g15 ≠ g18 from by rw [hg_]; exact Nat.ne_of_lt (blk_lt B15.out)); have GB18 := Aside0.mk (q_g hg_ HB.out); have DHB18_O9 := Aside0.mk (show _ ≤ g18 from by rw [hg_]; exact UO9.out); have DHB18_O11 := Aside0.mk (show _ ≤ g18 from by rw [hg_]; exact UO11.out); have DHB18_O14 := Aside0.mk (show _ ≤ g18 from by rw [hg_]; exact UO14.out); have DHB18_O17 := Aside0.mk (show _ ≤ g18 from by rw [hg_]; exact UO17.out); replace O9 := Aside0.mk (Kd.S_below O9.out hb); replace UO9 := Aside0.mk (Nat.le_trans UO9.out hb.size); replace O11 := Aside0.mk (Kd.S_below O11.out hb); replace UO11 := Aside0.mk (Nat.le_trans UO11.out hb.size); replace O14 := Aside0.mk (Kd.R_below O14.out hb); replace UO14 := Aside0.mk (Nat.le_trans UO14.out hb.size); replace O17 := Aside0.mk (Kd.S_below O17.out hb); replace UO17 := Aside0.mk (Nat.le_trans UO17.out hb.size); replace B1 := Aside0.mk (blk_below B1.out hb); replace B2 := Aside0.mk (blk_below B2.out hb); replace B10 := Aside0.mk (blk_below B10.out hb); replace B12 := Aside0.mk (blk_below B12.out hb); replace B15 := Aside0.mk (blk_below B15.out hb); replace HB := Aside0.mk (below_step HB.out hb); have B18 := Aside0.mk hbox; clear hb hbox hg_; obtain ⟨hcw17__0, hcw17__1, hfw17__0, hfw17__1⟩ := q_2 B18.out) | ((with_reducible refine gate_store (t := 36) (p := 9) rfl ?_); refine store_event (t := 36) (p := 9) (v := ?vo18) (w1 := ((w17_.setCell ⟨g18, 0, none⟩ (.int .i64 t16)).setCell ⟨g18, 1, none⟩ (.slice A17_ t17.length c17_))) ?hg ?ho ?hn ?hr ?_; (case ho => rfl); (case hg => rfl); (case hn => rfl); (case hr => first | (go_simp; done) | (go_simp; rfl)); intro w18_ hw_; have hk_ : Kept w17_ w18_ (fun k_ => k_ = g18) := (by rw [hw_]; exact (Kept.setCell (Kept.setCell (Kept.refl w17_ (fun k_ => k_ = g18)) (.inl rfl) _) (.inl rfl) _)); replace B18 := Aside0.mk (show w18_.heap[g18]? = some (.cells #[.int .i64 t16, .slice A17_ t17.length c17_] 36 (0, 0)) from by rw [hw_]; exact (blk_put (blk_put B18.out 0 _ rfl) 1 _ rfl)); replace O9 := Aside0.mk (Kd.S_kept O9.out hk_ (fun k_ h1_ h2_ => q_ig DHB18_O9.out k_ h1_ h2_)); replace UO9 := Aside0.mk (Nat.le_trans UO9.out hk_.1); replace O11 := Aside0.mk (Kd.S_kept O11.out hk_ (fun k_ h1_ h2_ => q_ig DHB18_O11.out k_ h1_ h2_)); replace UO11 := Aside0.mk (Nat.le_trans UO11.out hk_.1); replace O14 := Aside0.mk (Kd.R_kept O14.out hk_ (fun k_ h1_ h2_ => q_ig DHB18_O14.out k_ h1_ h2_)); replace UO14 := Aside0.mk (Nat.le_trans UO14.out hk_.1); replace O17 := Aside0.mk (Kd.S_kept O17.out hk_ (fun k_ h1_ h2_ => q_ig DHB18_O17.out k_ h1_ h2_)); replace UO17 := Aside0.mk (Nat.le_trans UO17.out hk_.1); replace B1 := Aside0.mk (blk_kept B1.out hk_ (by intro h_; exact absurd h_ NEB1_B18.out)); replace B2 := Aside0.mk (blk_kept B2.out hk_ (by intro h_; exact absurd h_ NEB2_B18.out)); replace B10 := Aside0.mk (blk_kept B10.out hk_ (by intro h_; exact absurd h_ NEB10_B18.out)); replace B12 := Aside0.mk (blk_kept B12.out hk_ (by intro h_; exact absurd h_ NEB12_B18.out)); replace B15 := Aside0.mk (blk_kept B15.out hk_ (by intro h_; exact absurd h_ NEB15_B18.out)); replace HB := Aside0.mk (show Below w.heap.size w w18_ from by rw [hw_]; exact (below_set (below_set HB.out GB18.out) GB18.out)); clear hk_ hw_; obtain ⟨hcw18_B10_0, hcw18_B10_1, hfw18_B10_0, hfw18_B10_1⟩ := q_2 B10.out; obtain ⟨hcw18_B18_0, hcw18_B18_1, hfw18_B18_0, hfw18_B18_1⟩ := q_2 B18.out) | ((with_reducible refine gate_dst (N := 38) rfl ?_); refine goesL_ (some 38) rfl rfl Try.func26 (by kernel_rfl) rfl #[.agg #[.int .i64 t16, .slice A17_ t17.length c17_], .agg #[.int .i64 t8, .slice A9_ t9.length c9_]] rfl (by (try simp only [List.map_toArray, List.map_cons, List.map_nil]); first | done | rfl) ?_; (with_reducible refine (laws_eqLedgerResult.calls k t16 _ _ t17 t8 _ _ t9 true _ ?side1 ?side2 ?side3 ?side4 A19.out).mono ?_); (case side1 => exact (q_lenS O17.out).1); (case side2 => exact (q_lenS O17.out).2.1); (case side3 => exact (q_lenS O9.out).1); (case side4 => exact (q_lenS O9.out).2.1); rintro e w19_ ⟨rfl, hb⟩; refine ⟨_, rfl, ?_⟩; replace O9 := Aside0.mk (Kd.S_below O9.out hb); replace UO9 := Aside0.mk (Nat.le_trans UO9.out hb.size); replace O11 := Aside0.mk (Kd.S_below O11.out hb); replace UO11 := Aside0.mk (Nat.le_trans UO11.out hb.size); replace O14 := Aside0.mk (Kd.R_below O14.out hb); replace UO14 := Aside0.mk (Nat.le_trans UO14.out hb.size); replace O17 := Aside0.mk (Kd.S_below O17.out hb); replace UO17 := Aside0.mk (Nat.le_trans UO17.out hb.size); replace B1 := Aside0.mk (blk_below B1.out hb); replace B2 := Aside0.mk (blk_below B2.out hb); replace B10 := Aside0.mk (blk_below B10.out hb); replace B12 := Aside0.mk (blk_below B12.out hb); replace B15 := Aside0.mk (blk_below B15.out hb); replace B18 := Aside0.mk (blk_below B18.out hb); replace HB := Aside0.mk (below_step HB.out hb); clear hb; obtain ⟨hcw19_B1_0, hfw19_B1_0⟩ := q_1 B1.out; obtain ⟨hcw19_B12_0, hfw19_B12_0⟩ := q_1 B12.out))
      replace O9 := Aside0.mk (Kd.S_drew O9.out); replace UO9 := Aside0.mk (show _ ≤ w19_.drew.heap.size from UO9.out)
      replace O11 := Aside0.mk (Kd.S_drew O11.out); replace UO11 := Aside0.mk (show _ ≤ w19_.drew.heap.size from UO11.out)
      replace O14 := Aside0.mk (Kd.R_drew O14.out); replace UO14 := Aside0.mk (show _ ≤ w19_.drew.heap.size from UO14.out)
      replace O17 := Aside0.mk (Kd.S_drew O17.out); replace UO17 := Aside0.mk (show _ ≤ w19_.drew.heap.size from UO17.out)
      replace B1 := Aside0.mk (blk_drew B1.out)
      replace B2 := Aside0.mk (blk_drew B2.out)
      replace B10 := Aside0.mk (blk_drew B10.out)
      replace B12 := Aside0.mk (blk_drew B12.out)
      replace B15 := Aside0.mk (blk_drew B15.out)
      replace B18 := Aside0.mk (blk_drew B18.out)
      replace HB := Aside0.mk (below_drew1 HB.out)
      refine start_ (n := 5) (S := fun w' => w'.cell? ⟨g12, 0, none⟩ = some (.slice A11_ t11.length c11_) ∧ w'.cell? ⟨g1, 0, none⟩ = some (.slice A0_0 l0_0.length c0_0)) (ds := []) #[false, false, false, false, false] (by kernel_rfl) rfl rfl ⟨q_z B12.out 0, q_z B1.out 0⟩ (fun hHeld => ?_)
      generalize w19_.drew = w20d_ at O9 UO9 O11 UO11 O14 UO14 O17 UO17 B1 B2 B10 B12 B15 B18 HB hHeld ⊢
      refine take_ (i := 0) (N := some 40) (v := ?_) (a' := ?_) #[true, false, false, false, false] rfl rfl (by kernel_rfl) (fun _ _ _ h => h) (Or.inl ⟨by rfl, ?_⟩) hHeld ?_ ?_
      rotate_left
      · rintro w' ⟨s0, s1⟩
        go_simp
        with_reducible rfl
      rotate_left
      · simp only [Act.put, List.setIfInBounds_toArray, List.set_cons_zero, List.set_cons_succ, i64_w, i32_w]
        rfl
      refine take_ (i := 1) (N := some 41) (v := ?_) (a' := ?_) #[true, true, false, false, false] rfl rfl (by kernel_rfl) (fun _ _ _ h => h) (Or.inl ⟨by rfl, ?_⟩) hHeld ?_ ?_
      rotate_left
      · rintro w' ⟨s0, s1⟩
        go_simp
        with_reducible rfl
      rotate_left
      · simp only [Act.put, List.setIfInBounds_toArray, List.set_cons_zero, List.set_cons_succ, i64_w, i32_w]
        rfl
      refine one_ (i := 2) (N := some 42) #[true, true, true, false, false] rfl rfl (by kernel_rfl) (by decide) (fun K hK => ?_)
      refine goes_ Try.func24 (by kernel_rfl) rfl #[.agg #[.slice A0_0 l0_0.length c0_0]] (by rfl) rfl rfl (by (try simp only [List.map_toArray, List.map_cons, List.map_nil]); first | done | rfl) ?_
      with_reducible refine (laws_toLedger.calls k _ _ l0_0 t20 _ ?side1 ?side2 A20.out).mono ?_
      (case side1 => exact Kd.C_below HR0_0.out HB.out)
      (case side2 => exact HC0_0.out)
      rintro e w20_ ⟨vO20, rfl, ho0, hb⟩
      refine ⟨_, rfl, ?_⟩
      have O20 := Aside0.mk (q_nS HB.out ho0)
      have UO20 := Aside0.mk (Nat.le_refl w20_.heap.size)
      have DO11_O20 := Aside0.mk UO11.out
      have DO14_O20 := Aside0.mk UO14.out
      have DO17_O20 := Aside0.mk UO17.out
      replace O9 := Aside0.mk (Kd.S_below O9.out hb)
      replace UO9 := Aside0.mk (Nat.le_trans UO9.out hb.size)
      replace O11 := Aside0.mk (Kd.S_below O11.out hb)
      replace UO11 := Aside0.mk (Nat.le_trans UO11.out hb.size)
      replace O14 := Aside0.mk (Kd.R_below O14.out hb)
      replace UO14 := Aside0.mk (Nat.le_trans UO14.out hb.size)
      replace O17 := Aside0.mk (Kd.S_below O17.out hb)
      replace UO17 := Aside0.mk (Nat.le_trans UO17.out hb.size)
      replace B1 := Aside0.mk (blk_below B1.out hb)
      replace B2 := Aside0.mk (blk_below B2.out hb)
      replace B10 := Aside0.mk (blk_below B10.out hb)
      replace B12 := Aside0.mk (blk_below B12.out hb)
      replace B15 := Aside0.mk (blk_below B15.out hb)
      replace B18 := Aside0.mk (blk_below B18.out hb)
      replace HB := Aside0.mk (below_step HB.out hb)
      obtain ⟨A20_, c20_, eo_⟩ := Kd.S_slice O20.out
      subst eo_
      clear hb ho0
      refine hK.out _ _ ⟨q_z B12.out 0, q_z B1.out 0⟩ (fun hHeld => ?_)
      refine norm_ (a' := ?_) ?_ ?_
      rotate_left
      · show Act.put _ (some 42) _ = _
        simp only [Act.put, List.setIfInBounds_toArray, List.set_cons_zero, List.set_cons_succ, i64_w, i32_w]
        rfl
      refine one_ (i := 3) (N := some 43) #[true, true, true, true, false] rfl rfl (by kernel_rfl) (by decide) (fun K hK => ?_)
      refine goes_ Try.func27 (by kernel_rfl) rfl #[.agg #[.slice A11_ t11.length c11_], .agg #[.slice A20_ t20.length c20_]] (by rfl) rfl rfl (by (try simp only [List.map_toArray, List.map_cons, List.map_nil]); first | done | rfl) ?_
      with_reducible refine (laws_eqLedger.calls k _ _ t11 _ _ t20 true _ ?side1 ?side2 ?side3 ?side4 A21.out).mono ?_
      (case side1 => exact (q_lenS O11.out).1)
      (case side2 => exact (q_lenS O11.out).2.1)
      (case side3 => exact (q_lenS O20.out).1)
      (case side4 => exact (q_lenS O20.out).2.1)
      rintro e w21_ ⟨rfl, hb⟩
      refine ⟨_, rfl, ?_⟩
      replace O9 := Aside0.mk (Kd.S_below O9.out hb)
      replace UO9 := Aside0.mk (Nat.le_trans UO9.out hb.size)
      replace O11 := Aside0.mk (Kd.S_below O11.out hb)
      replace UO11 := Aside0.mk (Nat.le_trans UO11.out hb.size)
      replace O14 := Aside0.mk (Kd.R_below O14.out hb)
      replace UO14 := Aside0.mk (Nat.le_trans UO14.out hb.size)
      replace O17 := Aside0.mk (Kd.S_below O17.out hb)
      replace UO17 := Aside0.mk (Nat.le_trans UO17.out hb.size)
      clear O20
      replace B1 := Aside0.mk (blk_below B1.out hb)
      replace B2 := Aside0.mk (blk_below B2.out hb)
      replace B10 := Aside0.mk (blk_below B10.out hb)
      replace B12 := Aside0.mk (blk_below B12.out hb)
      replace B15 := Aside0.mk (blk_below B15.out hb)
      replace B18 := Aside0.mk (blk_below B18.out hb)
      replace HB := Aside0.mk (below_step HB.out hb)
      clear hb
      refine hK.out _ _ ⟨q_z B12.out 0, q_z B1.out 0⟩ (fun hHeld => ?_)
      refine norm_ (a' := ?_) ?_ ?_
      rotate_left
      · show Act.put _ (some 43) _ = _
        simp only [Act.put, List.setIfInBounds_toArray, List.set_cons_zero, List.set_cons_succ, i64_w, i32_w]
        rfl
      obtain ⟨hcw21_B2_0, hcw21_B2_1, hfw21_B2_0, hfw21_B2_1⟩ := q_2 B2.out
      obtain ⟨hcw21_B15_0, hcw21_B15_1, hfw21_B15_0, hfw21_B15_1⟩ := q_2 B15.out
      refine pure_ (i := 4) (N := some 44) (v := ?_) (a' := ?_) #[true, true, true, true, true] rfl rfl (by kernel_rfl) (fun _ _ _ h => h) (Or.inl ⟨by rfl, ?_⟩) ?_ ?_
      rotate_left
      · intro w'
        go_simp
        with_reducible rfl
      rotate_left
      · simp only [Act.put, List.setIfInBounds_toArray, List.set_cons_zero, List.set_cons_succ, i64_w, i32_w]
        rfl
      refine done_ (by kernel_rfl) ?_
      try go_wp2
      replace O9 := Aside0.mk (Kd.S_drew O9.out); replace UO9 := Aside0.mk (show _ ≤ w21_.drew.heap.size from UO9.out)
      replace O11 := Aside0.mk (Kd.S_drew O11.out); replace UO11 := Aside0.mk (show _ ≤ w21_.drew.heap.size from UO11.out)
      replace O14 := Aside0.mk (Kd.R_drew O14.out); replace UO14 := Aside0.mk (show _ ≤ w21_.drew.heap.size from UO14.out)
      replace O17 := Aside0.mk (Kd.S_drew O17.out); replace UO17 := Aside0.mk (show _ ≤ w21_.drew.heap.size from UO17.out)
      replace B1 := Aside0.mk (blk_drew B1.out)
      replace B2 := Aside0.mk (blk_drew B2.out)
      replace B10 := Aside0.mk (blk_drew B10.out)
      replace B12 := Aside0.mk (blk_drew B12.out)
      replace B15 := Aside0.mk (blk_drew B15.out)
      replace B18 := Aside0.mk (blk_drew B18.out)
      replace HB := Aside0.mk (below_drew1 HB.out)
      refine start_ (n := 5) (S := fun w' => w'.cell? ⟨g15, 0, none⟩ = some (.int .i64 t13) ∧ w'.cell? ⟨g15, 1, none⟩ = some (.slice A14_ t14.length c14_) ∧ w'.cell? ⟨g2, 0, none⟩ = some (.int .i64 a1_0) ∧ w'.cell? ⟨g2, 1, none⟩ = some (.slice A1_1 l1_1.length c1_1)) (ds := []) #[false, false, false, false, false] (by kernel_rfl) rfl rfl ⟨q_z B15.out 0, q_z B15.out 1, q_z B2.out 0, q_z B2.out 1⟩ (fun hHeld => ?_)
      generalize w21_.drew = w22d_ at O9 UO9 O11 UO11 O14 UO14 O17 UO17 B1 B2 B10 B12 B15 B18 HB hHeld ⊢
      refine take_ (i := 0) (N := some 45) (v := ?_) (a' := ?_) #[true, false, false, false, false] rfl rfl (by kernel_rfl) (fun _ _ _ h => h) (Or.inl ⟨by rfl, ?_⟩) hHeld ?_ ?_
      rotate_left
      · rintro w' ⟨s0, s1, s2, s3⟩
        go_simp
        with_reducible rfl
      rotate_left
      · simp only [Act.put, List.setIfInBounds_toArray, List.set_cons_zero, List.set_cons_succ, i64_w, i32_w]
        rfl
      refine take_ (i := 1) (N := some 46) (v := ?_) (a' := ?_) #[true, true, false, false, false] rfl rfl (by kernel_rfl) (fun _ _ _ h => h) (Or.inl ⟨by rfl, ?_⟩) hHeld ?_ ?_
      rotate_left
      · rintro w' ⟨s0, s1, s2, s3⟩
        go_simp
        with_reducible rfl
      rotate_left
      · simp only [Act.put, List.setIfInBounds_toArray, List.set_cons_zero, List.set_cons_succ, i64_w, i32_w]
        rfl
      refine one_ (i := 2) (N := some 47) #[true, true, true, false, false] rfl rfl (by kernel_rfl) (by decide) (fun K hK => ?_)
      refine goes_ Try.func25 (by kernel_rfl) rfl #[.agg #[.int .i64 a1_0, .slice A1_1 l1_1.length c1_1]] (by rfl) rfl rfl (by (try simp only [List.map_toArray, List.map_cons, List.map_nil]); first | done | rfl) ?_
      with_reducible refine (laws_toContract.calls k a1_0 _ _ l1_1 t22 t23 _ ?side1 ?side2 A22.out).mono ?_
      (case side1 => exact Kd.C_below HR1_1.out HB.out)
      (case side2 => exact HC1_1.out)
      rintro e w22_ ⟨vO23, rfl, ho0, hb⟩
      refine ⟨_, rfl, ?_⟩
      have O23 := Aside0.mk (q_nR HB.out ho0)
      have UO23 := Aside0.mk (Nat.le_refl w22_.heap.size)
      have DO11_O23 := Aside0.mk UO11.out
      have DO14_O23 := Aside0.mk UO14.out
      have DO17_O23 := Aside0.mk UO17.out
      replace O9 := Aside0.mk (Kd.S_below O9.out hb)
      replace UO9 := Aside0.mk (Nat.le_trans UO9.out hb.size)
      replace O11 := Aside0.mk (Kd.S_below O11.out hb)
      replace UO11 := Aside0.mk (Nat.le_trans UO11.out hb.size)
      replace O14 := Aside0.mk (Kd.R_below O14.out hb)
      replace UO14 := Aside0.mk (Nat.le_trans UO14.out hb.size)
      replace O17 := Aside0.mk (Kd.S_below O17.out hb)
      replace UO17 := Aside0.mk (Nat.le_trans UO17.out hb.size)
      replace B1 := Aside0.mk (blk_below B1.out hb)
      replace B2 := Aside0.mk (blk_below B2.out hb)
      replace B10 := Aside0.mk (blk_below B10.out hb)
      replace B12 := Aside0.mk (blk_below B12.out hb)
      replace B15 := Aside0.mk (blk_below B15.out hb)
      replace B18 := Aside0.mk (blk_below B18.out hb)
      replace HB := Aside0.mk (below_step HB.out hb)
      obtain ⟨A23_, c23_, eo_⟩ := Kd.R_slice O23.out
      subst eo_
      clear hb ho0
      refine hK.out _ _ ⟨q_z B15.out 0, q_z B15.out 1, q_z B2.out 0, q_z B2.out 1⟩ (fun hHeld => ?_)
      refine norm_ (a' := ?_) ?_ ?_
      rotate_left
      · show Act.put _ (some 47) _ = _
        simp only [Act.put, List.setIfInBounds_toArray, List.set_cons_zero, List.set_cons_succ, i64_w, i32_w]
        rfl
      refine one_ (i := 3) (N := some 48) #[true, true, true, true, false] rfl rfl (by kernel_rfl) (by decide) (fun K hK => ?_)
      refine goes_ Try.func28 (by kernel_rfl) rfl #[.agg #[.int .i64 t13, .slice A14_ t14.length c14_], .agg #[.int .i64 t22, .slice A23_ t23.length c23_]] (by rfl) rfl rfl (by (try simp only [List.map_toArray, List.map_cons, List.map_nil]); first | done | rfl) ?_
      with_reducible refine (laws_eqContract.calls k t13 _ _ t14 t22 _ _ t23 true _ ?side1 ?side2 ?side3 ?side4 A23.out).mono ?_
      (case side1 => exact (q_lenR O14.out).1)
      (case side2 => exact (q_lenR O14.out).2.1)
      (case side3 => exact (q_lenR O23.out).1)
      (case side4 => exact (q_lenR O23.out).2.1)
      rintro e w23_ ⟨rfl, hb⟩
      refine ⟨_, rfl, ?_⟩
      replace O9 := Aside0.mk (Kd.S_below O9.out hb)
      replace UO9 := Aside0.mk (Nat.le_trans UO9.out hb.size)
      replace O11 := Aside0.mk (Kd.S_below O11.out hb)
      replace UO11 := Aside0.mk (Nat.le_trans UO11.out hb.size)
      replace O14 := Aside0.mk (Kd.R_below O14.out hb)
      replace UO14 := Aside0.mk (Nat.le_trans UO14.out hb.size)
      replace O17 := Aside0.mk (Kd.S_below O17.out hb)
      replace UO17 := Aside0.mk (Nat.le_trans UO17.out hb.size)
      clear O23
      replace B1 := Aside0.mk (blk_below B1.out hb)
      replace B2 := Aside0.mk (blk_below B2.out hb)
      replace B10 := Aside0.mk (blk_below B10.out hb)
      replace B12 := Aside0.mk (blk_below B12.out hb)
      replace B15 := Aside0.mk (blk_below B15.out hb)
      replace B18 := Aside0.mk (blk_below B18.out hb)
      replace HB := Aside0.mk (below_step HB.out hb)
      clear hb
      refine hK.out _ _ ⟨q_z B15.out 0, q_z B15.out 1, q_z B2.out 0, q_z B2.out 1⟩ (fun hHeld => ?_)
      refine norm_ (a' := ?_) ?_ ?_
      rotate_left
      · show Act.put _ (some 48) _ = _
        simp only [Act.put, List.setIfInBounds_toArray, List.set_cons_zero, List.set_cons_succ, i64_w, i32_w]
        rfl
      obtain ⟨hcw23_B12_0, hfw23_B12_0⟩ := q_1 B12.out
      refine pure_ (i := 4) (N := some 49) (v := ?_) (a' := ?_) #[true, true, true, true, true] rfl rfl (by kernel_rfl) (fun _ _ _ h => h) (Or.inl ⟨by rfl, ?_⟩) ?_ ?_
      rotate_left
      · intro w'
        go_simp
        with_reducible rfl
      rotate_left
      · simp only [Act.put, List.setIfInBounds_toArray, List.set_cons_zero, List.set_cons_succ, i64_w, i32_w]
        rfl
      refine done_ (by kernel_rfl) ?_
      go_wp2_with (first | ((with_reducible refine gate_dst (N := 52) rfl ?_); refine goesL_ (some 52) rfl rfl Try.func29 (by kernel_rfl) rfl #[.agg #[.slice A11_ t11.length c11_], .int .i64 1] rfl (by (try simp only [List.map_toArray, List.map_cons, List.map_nil]); first | done | rfl) ?_; (with_reducible refine (laws_markLedger.calls k (fun k_ => w9j_.heap.size ≤ k_ ∧ k_ < w10_.heap.size) _ t11 1 t25 t26 w _ ?side1 ?side2 A24.out).mono ?_); (case side1 => exact HB.out); (case side2 => exact O11.out); rintro e w24_ ⟨rfl, hy0, hb, hkp⟩; refine ⟨_, rfl, ?_⟩; have hk_ := hkp; replace O9 := Aside0.mk (Kd.S_kept O9.out hk_ (fun k_ h1_ h2_ => q_iv DO9_O11.out k_ h1_ h2_)); replace UO9 := Aside0.mk (Nat.le_trans UO9.out hk_.1); replace O14 := Aside0.mk (Kd.R_kept O14.out hk_ (fun k_ h1_ h2_ => q_vi DO11_O14.out k_ h1_ h2_)); replace UO14 := Aside0.mk (Nat.le_trans UO14.out hk_.1); replace O17 := Aside0.mk (Kd.S_kept O17.out hk_ (fun k_ h1_ h2_ => q_vi DO11_O17.out k_ h1_ h2_)); replace UO17 := Aside0.mk (Nat.le_trans UO17.out hk_.1); replace B1 := Aside0.mk (blk_kept B1.out hk_ (fun h_ => Nat.not_le_of_lt DGB1_O11.out h_.1)); replace B2 := Aside0.mk (blk_kept B2.out hk_ (fun h_ => Nat.not_le_of_lt DGB2_O11.out h_.1)); replace B10 := Aside0.mk (blk_kept B10.out hk_ (fun h_ => Nat.not_le_of_lt DGB10_O11.out h_.1)); clear B12; replace B15 := Aside0.mk (blk_kept B15.out hk_ (fun h_ => Nat.not_lt_of_le DHB15_O11.out h_.2)); replace B18 := Aside0.mk (blk_kept B18.out hk_ (fun h_ => Nat.not_lt_of_le DHB18_O11.out h_.2)); clear O11; replace HB := Aside0.mk hb; clear hb hkp hk_ hy0; obtain ⟨hcw24_B15_0, hcw24_B15_1, hfw24_B15_0, hfw24_B15_1⟩ := q_2 B15.out) | ((with_reducible refine gate_dst (N := 55) rfl ?_); refine goesL_ (some 55) rfl rfl Try.func30 (by kernel_rfl) rfl #[.agg #[.int .i64 t13, .slice A14_ t14.length c14_], .int .i64 t25] rfl (by (try simp only [List.map_toArray, List.map_cons, List.map_nil]); first | done | rfl) ?_; (with_reducible refine (laws_markContract.calls k t13 (fun k_ => w12_.heap.size ≤ k_ ∧ k_ < w13_.heap.size) _ t14 t25 t27 t28 w _ ?side1 ?side2 A25.out).mono ?_); (case side1 => exact HB.out); (case side2 => exact O14.out); rintro e w25_ ⟨rfl, hy0, hb, hkp⟩; refine ⟨_, rfl, ?_⟩; have hk_ := hkp; replace O9 := Aside0.mk (Kd.S_kept O9.out hk_ (fun k_ h1_ h2_ => q_iv DO9_O14.out k_ h1_ h2_)); replace UO9 := Aside0.mk (Nat.le_trans UO9.out hk_.1); replace O17 := Aside0.mk (Kd.S_kept O17.out hk_ (fun k_ h1_ h2_ => q_vi DO14_O17.out k_ h1_ h2_)); replace UO17 := Aside0.mk (Nat.le_trans UO17.out hk_.1); replace B1 := Aside0.mk (blk_kept B1.out hk_ (fun h_ => Nat.not_le_of_lt DGB1_O14.out h_.1)); replace B2 := Aside0.mk (blk_kept B2.out hk_ (fun h_ => Nat.not_le_of_lt DGB2_O14.out h_.1)); replace B10 := Aside0.mk (blk_kept B10.out hk_ (fun h_ => Nat.not_le_of_lt DGB10_O14.out h_.1)); clear B15; replace B18 := Aside0.mk (blk_kept B18.out hk_ (fun h_ => Nat.not_lt_of_le DHB18_O14.out h_.2)); clear O14; replace HB := Aside0.mk hb; clear hb hkp hk_ hy0; obtain ⟨hcw25_B10_0, hcw25_B10_1, hfw25_B10_0, hfw25_B10_1⟩ := q_2 B10.out; obtain ⟨hcw25_B18_0, hcw25_B18_1, hfw25_B18_0, hfw25_B18_1⟩ := q_2 B18.out) | ((with_reducible refine gate_dst (N := 66) rfl ?_); refine goesL_ (some 66) rfl rfl Try.func31 (by kernel_rfl) rfl #[.agg #[.int .i64 t16, .slice A17_ t17.length c17_], .int .i64 1] rfl (by (try simp only [List.map_toArray, List.map_cons, List.map_nil]); first | done | rfl) ?_; (with_reducible refine (laws_markLedgerResult.calls k t16 (fun k_ => w15_.heap.size ≤ k_ ∧ k_ < w16_.heap.size) _ t17 1 t30 t31 w _ ?side1 ?side2 A27.out).mono ?_); (case side1 => exact HB.out); (case side2 => exact O17.out); rintro e w27_ ⟨rfl, hy0, hb, hkp⟩; refine ⟨_, rfl, ?_⟩; have hk_ := hkp; replace O9 := Aside0.mk (Kd.S_kept O9.out hk_ (fun k_ h1_ h2_ => q_iv DO9_O17.out k_ h1_ h2_)); replace UO9 := Aside0.mk (Nat.le_trans UO9.out hk_.1); replace B1 := Aside0.mk (blk_kept B1.out hk_ (fun h_ => Nat.not_le_of_lt DGB1_O17.out h_.1)); replace B2 := Aside0.mk (blk_kept B2.out hk_ (fun h_ => Nat.not_le_of_lt DGB2_O17.out h_.1)); replace B10 := Aside0.mk (blk_kept B10.out hk_ (fun h_ => Nat.not_le_of_lt DGB10_O17.out h_.1)); replace B18 := Aside0.mk (blk_kept B18.out hk_ (fun h_ => Nat.not_lt_of_le DHB18_O17.out h_.2)); replace O17 := Aside0.mk hy0; replace UO17 := Aside0.mk (Nat.le_trans UO17.out hk_.1); replace HB := Aside0.mk hb; clear hb hkp hk_ hy0; obtain ⟨hcw27_B18_0, hcw27_B18_1, hfw27_B18_0, hfw27_B18_1⟩ := q_2 B18.out) | ((with_reducible refine gate_dst (N := 69) rfl ?_); refine goesL_ (some 69) rfl rfl Try.func32 (by kernel_rfl) rfl #[.agg #[.int .i64 t16, .slice A17_ t17.length c17_], .int .i64 1] rfl (by (try simp only [List.map_toArray, List.map_cons, List.map_nil]); first | done | rfl) ?_; refine calls_of_args (args' := #[.agg #[.int .i64 t16, .slice A17_ t31.length c17_], .int .i64 1]) (by rw [(q_lenS O17.out).2.2]) ?_; (with_reducible refine (laws_heldLedgerResult.calls k t16 _ _ t31 1 t32 _ ?side1 ?side2 A28.out).mono ?_); (case side1 => exact (q_lenS O17.out).1); (case side2 => exact (q_lenS O17.out).2.1); rintro e w28_ ⟨rfl, hb⟩; refine ⟨_, rfl, ?_⟩; replace O9 := Aside0.mk (Kd.S_below O9.out hb); replace UO9 := Aside0.mk (Nat.le_trans UO9.out hb.size); replace O17 := Aside0.mk (Kd.S_below O17.out hb); replace UO17 := Aside0.mk (Nat.le_trans UO17.out hb.size); replace B1 := Aside0.mk (blk_below B1.out hb); replace B2 := Aside0.mk (blk_below B2.out hb); replace B10 := Aside0.mk (blk_below B10.out hb); replace B18 := Aside0.mk (blk_below B18.out hb); replace HB := Aside0.mk (below_step HB.out hb); clear hb; obtain ⟨hcw28_B1_0, hfw28_B1_0⟩ := q_1 B1.out) | (go_at_call 26; (with_reducible refine (laws_eqLedgerResult.calls k t16 _ _ t17 t8 _ _ t9 true _ ?side1 ?side2 ?side3 ?side4 A26.out).mono ?_); (case side1 => exact (q_lenS O17.out).1); (case side2 => exact (q_lenS O17.out).2.1); (case side3 => exact (q_lenS O9.out).1); (case side4 => exact (q_lenS O9.out).2.1); rintro e w26_ ⟨rfl, hb⟩; replace O9 := Aside0.mk (Kd.S_below O9.out hb); replace UO9 := Aside0.mk (Nat.le_trans UO9.out hb.size); replace O17 := Aside0.mk (Kd.S_below O17.out hb); replace UO17 := Aside0.mk (Nat.le_trans UO17.out hb.size); replace B1 := Aside0.mk (blk_below B1.out hb); replace B2 := Aside0.mk (blk_below B2.out hb); replace B10 := Aside0.mk (blk_below B10.out hb); replace B18 := Aside0.mk (blk_below B18.out hb); replace HB := Aside0.mk (below_step HB.out hb); clear hb; obtain ⟨hcw26_B18_0, hcw26_B18_1, hfw26_B18_0, hfw26_B18_1⟩ := q_2 B18.out))
      replace O9 := Aside0.mk (Kd.S_drew O9.out); replace UO9 := Aside0.mk (show _ ≤ w28_.drew.heap.size from UO9.out)
      replace O17 := Aside0.mk (Kd.S_drew O17.out); replace UO17 := Aside0.mk (show _ ≤ w28_.drew.heap.size from UO17.out)
      replace B1 := Aside0.mk (blk_drew B1.out)
      replace B2 := Aside0.mk (blk_drew B2.out)
      replace B10 := Aside0.mk (blk_drew B10.out)
      replace B18 := Aside0.mk (blk_drew B18.out)
      replace HB := Aside0.mk (below_drew1 HB.out)
      refine start_ (n := 7) (S := fun w' => w'.cell? ⟨g1, 0, none⟩ = some (.slice A0_0 l0_0.length c0_0) ∧ w'.cell? ⟨g2, 0, none⟩ = some (.int .i64 a1_0) ∧ w'.cell? ⟨g2, 1, none⟩ = some (.slice A1_1 l1_1.length c1_1)) (ds := []) #[false, false, false, false, false, false, false] (by kernel_rfl) rfl rfl ⟨q_z B1.out 0, q_z B2.out 0, q_z B2.out 1⟩ (fun hHeld => ?_)
      generalize w28_.drew = w29d_ at O9 UO9 O17 UO17 B1 B2 B10 B18 HB hHeld ⊢
      refine take_ (i := 0) (N := some 75) (v := ?_) (a' := ?_) #[true, false, false, false, false, false, false] rfl rfl (by kernel_rfl) (fun _ _ _ h => h) (Or.inl ⟨by rfl, ?_⟩) hHeld ?_ ?_
      rotate_left
      · rintro w' ⟨s0, s1, s2⟩
        go_simp
        with_reducible rfl
      rotate_left
      · simp only [Act.put, List.setIfInBounds_toArray, List.set_cons_zero, List.set_cons_succ, i64_w, i32_w]
        rfl
      refine take_ (i := 2) (N := some 77) (v := ?_) (a' := ?_) #[true, false, true, false, false, false, false] rfl rfl (by kernel_rfl) (fun _ _ _ h => h) (Or.inl ⟨by rfl, ?_⟩) hHeld ?_ ?_
      rotate_left
      · rintro w' ⟨s0, s1, s2⟩
        go_simp
        with_reducible rfl
      rotate_left
      · simp only [Act.put, List.setIfInBounds_toArray, List.set_cons_zero, List.set_cons_succ, i64_w, i32_w]
        rfl
      refine join_ (σ := World × World × Nat × Option Addr × Nat × Value × Value) 0 #[true, true, true, true, true, true, true] (fun s_ => [(76, s_.2.2.2.2.2.1), (78, s_.2.2.2.2.2.2), (79, .agg #[.int .i64 t36, .slice s_.2.2.2.1 t37.length s_.2.2.2.2.1]), (13, .pointer (some ⟨s_.2.2.1, 0, none⟩))]) (fun s_ w' => (w'.heap[g10]? = some (.cells #[.int .i64 t8, .slice A9_ t9.length c9_] 36 (0, 0))) ∧ (w'.heap[g18]? = some (.cells #[.int .i64 t16, .slice A17_ t17.length c17_] 36 (0, 0))) ∧ (g10 ≠ s_.2.2.1) ∧ (g18 ≠ s_.2.2.1) ∧ (Kd.S (Kd.slice 104 k104) 64 w' w.heap.size (fun k_ => wb9_.heap.size ≤ k_ ∧ k_ < we9_.heap.size) (.slice A9_ t9.length c9_) t9) ∧ (we9_.heap.size ≤ w'.heap.size) ∧ (Kd.S (Kd.slice 104 k104) 64 w' w.heap.size (fun k_ => w15_.heap.size ≤ k_ ∧ k_ < w16_.heap.size) (.slice A17_ t17.length c17_) t31) ∧ (w16_.heap.size ≤ w'.heap.size) ∧ (w'.heap[s_.2.2.1]? = some (.cells #[.int .i64 t36, .slice s_.2.2.2.1 t37.length s_.2.2.2.2.1] 36 (0, 0))) ∧ (w.heap.size ≤ s_.2.2.1) ∧ (Kd.S (Kd.slice 104 k104) 64 w' w.heap.size (fun k_ => s_.1.heap.size ≤ k_ ∧ k_ < s_.2.1.heap.size) (.slice s_.2.2.2.1 t37.length s_.2.2.2.2.1) t37) ∧ (s_.2.1.heap.size ≤ w'.heap.size) ∧ (Below w.heap.size w w')) ?_ ?_
      rotate_left
      · intro hj_
        refine two_ (i := 1) (j := 5) (Ni := some 76) (Nj := some 13) #[true, true, true, false, false, false, false] #[true, false, true, false, false, true, false] rfl rfl rfl rfl (by kernel_rfl) (by decide) (by decide) (fun K hK => ?_) (fun K hK => ?_)
        · skip
          refine goes_ Try.func24 (by kernel_rfl) rfl #[.agg #[.slice A0_0 l0_0.length c0_0]] (by rfl) rfl rfl (by (try simp only [List.map_toArray, List.map_cons, List.map_nil]); first | done | rfl) ?_
          with_reducible refine (laws_toLedger.calls k _ _ l0_0 t33 _ ?side1 ?side2 A29.out).mono ?_
          (case side1 => exact Kd.C_below HR0_0.out HB.out)
          (case side2 => exact HC0_0.out)
          rintro e w29_ ⟨vO33, rfl, ho0, hb⟩
          refine ⟨_, rfl, ?_⟩
          have O33 := Aside0.mk (q_nS HB.out ho0)
          have UO33 := Aside0.mk (Nat.le_refl w29_.heap.size)
          have DO17_O33 := Aside0.mk UO17.out
          replace O9 := Aside0.mk (Kd.S_below O9.out hb)
          replace UO9 := Aside0.mk (Nat.le_trans UO9.out hb.size)
          replace O17 := Aside0.mk (Kd.S_below O17.out hb)
          replace UO17 := Aside0.mk (Nat.le_trans UO17.out hb.size)
          replace B1 := Aside0.mk (blk_below B1.out hb)
          replace B2 := Aside0.mk (blk_below B2.out hb)
          replace B10 := Aside0.mk (blk_below B10.out hb)
          replace B18 := Aside0.mk (blk_below B18.out hb)
          replace HB := Aside0.mk (below_step HB.out hb)
          obtain ⟨A33_, c33_, eo_⟩ := Kd.S_slice O33.out
          subst eo_
          clear hb ho0
          refine hK.out _ _ ⟨q_z B1.out 0, q_z B2.out 0, q_z B2.out 1⟩ (fun hHeld => ?_)
          refine norm_ (a' := ?_) ?_ ?_
          rotate_left
          · show Act.put _ (some 76) _ = _
            simp only [Act.put, List.setIfInBounds_toArray, List.set_cons_zero, List.set_cons_succ, i64_w, i32_w]
            rfl
          refine two_ (i := 3) (j := 5) (Ni := some 78) (Nj := some 13) #[true, true, true, true, false, false, false] #[true, true, true, false, false, true, false] rfl rfl rfl rfl (by kernel_rfl) (by decide) (by decide) (fun K hK => ?_) (fun K hK => ?_)
          · skip
            refine goes_ Try.func25 (by kernel_rfl) rfl #[.agg #[.int .i64 a1_0, .slice A1_1 l1_1.length c1_1]] (by rfl) rfl rfl (by (try simp only [List.map_toArray, List.map_cons, List.map_nil]); first | done | rfl) ?_
            with_reducible refine (laws_toContract.calls k a1_0 _ _ l1_1 t34 t35 _ ?side1 ?side2 A30.out).mono ?_
            (case side1 => exact Kd.C_below HR1_1.out HB.out)
            (case side2 => exact HC1_1.out)
            rintro e w30_ ⟨vO35, rfl, ho0, hb⟩
            refine ⟨_, rfl, ?_⟩
            have O35 := Aside0.mk (q_nR HB.out ho0)
            have UO35 := Aside0.mk (Nat.le_refl w30_.heap.size)
            have DO17_O35 := Aside0.mk UO17.out
            replace O9 := Aside0.mk (Kd.S_below O9.out hb)
            replace UO9 := Aside0.mk (Nat.le_trans UO9.out hb.size)
            replace O17 := Aside0.mk (Kd.S_below O17.out hb)
            replace UO17 := Aside0.mk (Nat.le_trans UO17.out hb.size)
            replace O33 := Aside0.mk (Kd.S_below O33.out hb)
            replace UO33 := Aside0.mk (Nat.le_trans UO33.out hb.size)
            replace B1 := Aside0.mk (blk_below B1.out hb)
            replace B2 := Aside0.mk (blk_below B2.out hb)
            replace B10 := Aside0.mk (blk_below B10.out hb)
            replace B18 := Aside0.mk (blk_below B18.out hb)
            replace HB := Aside0.mk (below_step HB.out hb)
            obtain ⟨A35_, c35_, eo_⟩ := Kd.R_slice O35.out
            subst eo_
            clear hb ho0
            refine hK.out _ _ ⟨q_z B1.out 0, q_z B2.out 0, q_z B2.out 1⟩ (fun hHeld => ?_)
            refine norm_ (a' := ?_) ?_ ?_
            rotate_left
            · show Act.put _ (some 78) _ = _
              simp only [Act.put, List.setIfInBounds_toArray, List.set_cons_zero, List.set_cons_succ, i64_w, i32_w]
              rfl
            refine two_ (i := 4) (j := 5) (Ni := some 79) (Nj := some 13) #[true, true, true, true, true, false, false] #[true, true, true, true, false, true, false] rfl rfl rfl rfl (by kernel_rfl) (by decide) (by decide) (fun K hK => ?_) (fun K hK => ?_)
            · skip
              refine goes_ Try.func18 (by kernel_rfl) rfl #[.agg #[.slice A33_ t33.length c33_], .agg #[.int .i64 t34, .slice A35_ t35.length c35_]] (by rfl) rfl rfl (by (try simp only [List.map_toArray, List.map_cons, List.map_nil]); first | done | rfl) ?_
              with_reducible refine (impl_SettleOne.calls k _ _ t33 t34 _ _ t35 t36 t37 _ ?side1 ?side2 ?side3 ?side4 A31.out).mono ?_
              (case side1 => exact (q_lenS O33.out).1)
              (case side2 => exact (q_lenS O33.out).2.1)
              (case side3 => exact (q_lenR O35.out).1)
              (case side4 => exact (q_lenR O35.out).2.1)
              rintro e w31_ ⟨vO37, rfl, ho0, hb⟩
              refine ⟨_, rfl, ?_⟩
              have O37 := Aside0.mk (q_nS HB.out ho0)
              have UO37 := Aside0.mk (Nat.le_refl w31_.heap.size)
              have DO17_O37 := Aside0.mk UO17.out
              replace O9 := Aside0.mk (Kd.S_below O9.out hb)
              replace UO9 := Aside0.mk (Nat.le_trans UO9.out hb.size)
              replace O17 := Aside0.mk (Kd.S_below O17.out hb)
              replace UO17 := Aside0.mk (Nat.le_trans UO17.out hb.size)
              replace O33 := Aside0.mk (Kd.S_below O33.out hb)
              replace UO33 := Aside0.mk (Nat.le_trans UO33.out hb.size)
              replace O35 := Aside0.mk (Kd.R_below O35.out hb)
              replace UO35 := Aside0.mk (Nat.le_trans UO35.out hb.size)
              replace B1 := Aside0.mk (blk_below B1.out hb)
              replace B2 := Aside0.mk (blk_below B2.out hb)
              replace B10 := Aside0.mk (blk_below B10.out hb)
              replace B18 := Aside0.mk (blk_below B18.out hb)
              replace HB := Aside0.mk (below_step HB.out hb)
              obtain ⟨A37_, c37_, eo_⟩ := Kd.S_slice O37.out
              subst eo_
              clear hb ho0
              refine hK.out _ _ ⟨q_z B1.out 0, q_z B2.out 0, q_z B2.out 1⟩ (fun hHeld => ?_)
              refine norm_ (a' := ?_) ?_ ?_
              rotate_left
              · show Act.put _ (some 79) _ = _
                simp only [Act.put, List.setIfInBounds_toArray, List.set_cons_zero, List.set_cons_succ, i64_w, i32_w]
                rfl
              refine one_ (i := 5) (N := some 13) #[true, true, true, true, true, true, false] rfl rfl (by kernel_rfl) (by decide) (fun K hK => ?_)
              refine box_step (by rfl) (N := 13) rfl (cs := #[.int .i64 0, .slice none 0 0]) (t := 36) (by first | (go_simp; done) | (go_simp; rfl)) ?_
              intro g38 hg_ w32_ hbox hb
              have NEB18_B38 := Aside0.mk (show g18 ≠ g38 from by rw [hg_]; exact Nat.ne_of_lt (blk_lt B18.out))
              have NEB10_B38 := Aside0.mk (show g10 ≠ g38 from by rw [hg_]; exact Nat.ne_of_lt (blk_lt B10.out))
              have NEB2_B38 := Aside0.mk (show g2 ≠ g38 from by rw [hg_]; exact Nat.ne_of_lt (blk_lt B2.out))
              have NEB1_B38 := Aside0.mk (show g1 ≠ g38 from by rw [hg_]; exact Nat.ne_of_lt (blk_lt B1.out))
              have GB38 := Aside0.mk (q_g hg_ HB.out)
              have DHB38_O9 := Aside0.mk (show _ ≤ g38 from by rw [hg_]; exact UO9.out)
              have DHB38_O17 := Aside0.mk (show _ ≤ g38 from by rw [hg_]; exact UO17.out)
              have DHB38_O37 := Aside0.mk (show _ ≤ g38 from by rw [hg_]; exact UO37.out)
              replace O9 := Aside0.mk (Kd.S_below O9.out hb)
              replace UO9 := Aside0.mk (Nat.le_trans UO9.out hb.size)
              replace O17 := Aside0.mk (Kd.S_below O17.out hb)
              replace UO17 := Aside0.mk (Nat.le_trans UO17.out hb.size)
              clear O33
              clear O35
              replace O37 := Aside0.mk (Kd.S_below O37.out hb)
              replace UO37 := Aside0.mk (Nat.le_trans UO37.out hb.size)
              replace B1 := Aside0.mk (blk_below B1.out hb)
              replace B2 := Aside0.mk (blk_below B2.out hb)
              replace B10 := Aside0.mk (blk_below B10.out hb)
              replace B18 := Aside0.mk (blk_below B18.out hb)
              replace HB := Aside0.mk (below_step HB.out hb)
              have B38 := Aside0.mk hbox
              clear hb hbox hg_
              obtain ⟨hcw32__0, hcw32__1, hfw32__0, hfw32__1⟩ := q_2 B38.out
              refine hK.out _ _ ⟨q_z B1.out 0, q_z B2.out 0, q_z B2.out 1⟩ (fun hHeld => ?_)
              refine norm_ (a' := ?_) ?_ ?_
              rotate_left
              · show Act.put _ (some 13) _ = _
                simp only [Act.put, List.setIfInBounds_toArray, List.set_cons_zero, List.set_cons_succ, i64_w, i32_w]
                rfl
              refine one_ (i := 6) (N := none) #[true, true, true, true, true, true, true] rfl rfl (by kernel_rfl) (by decide) (fun K hK => ?_)
              obtain ⟨hcsw33__0, hcsw33__1, hfsw33__0, hfsw33__1⟩ := q_2 B38.out
              refine skip_ (w1 := ((w32_.setCell ⟨g38, 0, none⟩ (.int .i64 t36)).setCell ⟨g38, 1, none⟩ (.slice A37_ t37.length c37_))) (by rfl) rfl (by first | (go_simp; done) | (go_simp; rfl)) ?_
              obtain ⟨w33_, hw_⟩ : ∃ W_, W_ = ((w32_.setCell ⟨g38, 0, none⟩ (.int .i64 t36)).setCell ⟨g38, 1, none⟩ (.slice A37_ t37.length c37_)) := ⟨_, rfl⟩
              rw [← hw_]
              have hk_ : Kept w32_ w33_ (fun k_ => k_ = g38) := (by rw [hw_]; exact (Kept.setCell (Kept.setCell (Kept.refl w32_ (fun k_ => k_ = g38)) (.inl rfl) _) (.inl rfl) _))
              replace B38 := Aside0.mk (show w33_.heap[g38]? = some (.cells #[.int .i64 t36, .slice A37_ t37.length c37_] 36 (0, 0)) from by rw [hw_]; exact (blk_put (blk_put B38.out 0 _ rfl) 1 _ rfl))
              replace O9 := Aside0.mk (Kd.S_kept O9.out hk_ (fun k_ h1_ h2_ => q_ig DHB38_O9.out k_ h1_ h2_))
              replace UO9 := Aside0.mk (Nat.le_trans UO9.out hk_.1)
              replace O17 := Aside0.mk (Kd.S_kept O17.out hk_ (fun k_ h1_ h2_ => q_ig DHB38_O17.out k_ h1_ h2_))
              replace UO17 := Aside0.mk (Nat.le_trans UO17.out hk_.1)
              replace O37 := Aside0.mk (Kd.S_kept O37.out hk_ (fun k_ h1_ h2_ => q_ig DHB38_O37.out k_ h1_ h2_))
              replace UO37 := Aside0.mk (Nat.le_trans UO37.out hk_.1)
              replace B1 := Aside0.mk (blk_kept B1.out hk_ (by intro h_; exact absurd h_ NEB1_B38.out))
              replace B2 := Aside0.mk (blk_kept B2.out hk_ (by intro h_; exact absurd h_ NEB2_B38.out))
              replace B10 := Aside0.mk (blk_kept B10.out hk_ (by intro h_; exact absurd h_ NEB10_B38.out))
              replace B18 := Aside0.mk (blk_kept B18.out hk_ (by intro h_; exact absurd h_ NEB18_B38.out))
              replace HB := Aside0.mk (show Below w.heap.size w w33_ from by rw [hw_]; exact (below_set (below_set HB.out GB38.out) GB38.out))
              clear hk_ hw_
              refine hK.out _ _ ⟨q_z B1.out 0, q_z B2.out 0, q_z B2.out 1⟩ (fun hHeld => ?_)
              obtain ⟨hcw33_B10_0, hcw33_B10_1, hfw33_B10_0, hfw33_B10_1⟩ := q_2 B10.out
              obtain ⟨hcw33_B38_0, hcw33_B38_1, hfw33_B38_0, hfw33_B38_1⟩ := q_2 B38.out
              exact norm_ (by simp only [putAll, Act.put, List.setIfInBounds_toArray, List.set_cons_zero, List.set_cons_succ]) (hj_ (w30_, w31_, g38, A37_, c37_, (.agg #[.slice A33_ t33.length c33_]), (.agg #[.int .i64 t34, .slice A35_ t35.length c35_])) w33_ ⟨B10.out, B18.out, NEB10_B38.out, NEB18_B38.out, O9.out, UO9.out, O17.out, UO17.out, B38.out, GB38.out, O37.out, UO37.out, HB.out⟩)
            · skip
              refine box_step (by rfl) (N := 13) rfl (cs := #[.int .i64 0, .slice none 0 0]) (t := 36) (by first | (go_simp; done) | (go_simp; rfl)) ?_
              intro g38 hg_ w32_ hbox hb
              have NEB18_B38 := Aside0.mk (show g18 ≠ g38 from by rw [hg_]; exact Nat.ne_of_lt (blk_lt B18.out))
              have NEB10_B38 := Aside0.mk (show g10 ≠ g38 from by rw [hg_]; exact Nat.ne_of_lt (blk_lt B10.out))
              have NEB2_B38 := Aside0.mk (show g2 ≠ g38 from by rw [hg_]; exact Nat.ne_of_lt (blk_lt B2.out))
              have NEB1_B38 := Aside0.mk (show g1 ≠ g38 from by rw [hg_]; exact Nat.ne_of_lt (blk_lt B1.out))
              have GB38 := Aside0.mk (q_g hg_ HB.out)
              have DHB38_O9 := Aside0.mk (show _ ≤ g38 from by rw [hg_]; exact UO9.out)
              have DHB38_O17 := Aside0.mk (show _ ≤ g38 from by rw [hg_]; exact UO17.out)
              have DHB38_O33 := Aside0.mk (show _ ≤ g38 from by rw [hg_]; exact UO33.out)
              have DHB38_O35 := Aside0.mk (show _ ≤ g38 from by rw [hg_]; exact UO35.out)
              replace O9 := Aside0.mk (Kd.S_below O9.out hb)
              replace UO9 := Aside0.mk (Nat.le_trans UO9.out hb.size)
              replace O17 := Aside0.mk (Kd.S_below O17.out hb)
              replace UO17 := Aside0.mk (Nat.le_trans UO17.out hb.size)
              replace O33 := Aside0.mk (Kd.S_below O33.out hb)
              replace UO33 := Aside0.mk (Nat.le_trans UO33.out hb.size)
              replace O35 := Aside0.mk (Kd.R_below O35.out hb)
              replace UO35 := Aside0.mk (Nat.le_trans UO35.out hb.size)
              replace B1 := Aside0.mk (blk_below B1.out hb)
              replace B2 := Aside0.mk (blk_below B2.out hb)
              replace B10 := Aside0.mk (blk_below B10.out hb)
              replace B18 := Aside0.mk (blk_below B18.out hb)
              replace HB := Aside0.mk (below_step HB.out hb)
              have B38 := Aside0.mk hbox
              clear hb hbox hg_
              obtain ⟨hcw32__0, hcw32__1, hfw32__0, hfw32__1⟩ := q_2 B38.out
              refine hK.out _ _ ⟨q_z B1.out 0, q_z B2.out 0, q_z B2.out 1⟩ (fun hHeld => ?_)
              refine norm_ (a' := ?_) ?_ ?_
              rotate_left
              · show Act.put _ (some 13) _ = _
                simp only [Act.put, List.setIfInBounds_toArray, List.set_cons_zero, List.set_cons_succ, i64_w, i32_w]
                rfl
              refine one_ (i := 4) (N := some 79) #[true, true, true, true, true, true, false] rfl rfl (by kernel_rfl) (by decide) (fun K hK => ?_)
              refine goes_ Try.func18 (by kernel_rfl) rfl #[.agg #[.slice A33_ t33.length c33_], .agg #[.int .i64 t34, .slice A35_ t35.length c35_]] (by rfl) rfl rfl (by (try simp only [List.map_toArray, List.map_cons, List.map_nil]); first | done | rfl) ?_
              with_reducible refine (impl_SettleOne.calls k _ _ t33 t34 _ _ t35 t36 t37 _ ?side1 ?side2 ?side3 ?side4 A31.out).mono ?_
              (case side1 => exact (q_lenS O33.out).1)
              (case side2 => exact (q_lenS O33.out).2.1)
              (case side3 => exact (q_lenR O35.out).1)
              (case side4 => exact (q_lenR O35.out).2.1)
              rintro e w31_ ⟨vO37, rfl, ho0, hb⟩
              refine ⟨_, rfl, ?_⟩
              have O37 := Aside0.mk (q_nS HB.out ho0)
              have UO37 := Aside0.mk (Nat.le_refl w31_.heap.size)
              have DO17_O37 := Aside0.mk UO17.out
              have DGB38_O37 := Aside0.mk (blk_lt B38.out)
              replace O9 := Aside0.mk (Kd.S_below O9.out hb)
              replace UO9 := Aside0.mk (Nat.le_trans UO9.out hb.size)
              replace O17 := Aside0.mk (Kd.S_below O17.out hb)
              replace UO17 := Aside0.mk (Nat.le_trans UO17.out hb.size)
              replace O33 := Aside0.mk (Kd.S_below O33.out hb)
              replace UO33 := Aside0.mk (Nat.le_trans UO33.out hb.size)
              replace O35 := Aside0.mk (Kd.R_below O35.out hb)
              replace UO35 := Aside0.mk (Nat.le_trans UO35.out hb.size)
              replace B1 := Aside0.mk (blk_below B1.out hb)
              replace B2 := Aside0.mk (blk_below B2.out hb)
              replace B10 := Aside0.mk (blk_below B10.out hb)
              replace B18 := Aside0.mk (blk_below B18.out hb)
              replace B38 := Aside0.mk (blk_below B38.out hb)
              replace HB := Aside0.mk (below_step HB.out hb)
              obtain ⟨A37_, c37_, eo_⟩ := Kd.S_slice O37.out
              subst eo_
              clear hb ho0
              refine hK.out _ _ ⟨q_z B1.out 0, q_z B2.out 0, q_z B2.out 1⟩ (fun hHeld => ?_)
              refine norm_ (a' := ?_) ?_ ?_
              rotate_left
              · show Act.put _ (some 79) _ = _
                simp only [Act.put, List.setIfInBounds_toArray, List.set_cons_zero, List.set_cons_succ, i64_w, i32_w]
                rfl
              refine one_ (i := 6) (N := none) #[true, true, true, true, true, true, true] rfl rfl (by kernel_rfl) (by decide) (fun K hK => ?_)
              obtain ⟨hcsw33__0, hcsw33__1, hfsw33__0, hfsw33__1⟩ := q_2 B38.out
              refine skip_ (w1 := ((w31_.setCell ⟨g38, 0, none⟩ (.int .i64 t36)).setCell ⟨g38, 1, none⟩ (.slice A37_ t37.length c37_))) (by rfl) rfl (by first | (go_simp; done) | (go_simp; rfl)) ?_
              obtain ⟨w33_, hw_⟩ : ∃ W_, W_ = ((w31_.setCell ⟨g38, 0, none⟩ (.int .i64 t36)).setCell ⟨g38, 1, none⟩ (.slice A37_ t37.length c37_)) := ⟨_, rfl⟩
              rw [← hw_]
              have hk_ : Kept w31_ w33_ (fun k_ => k_ = g38) := (by rw [hw_]; exact (Kept.setCell (Kept.setCell (Kept.refl w31_ (fun k_ => k_ = g38)) (.inl rfl) _) (.inl rfl) _))
              replace B38 := Aside0.mk (show w33_.heap[g38]? = some (.cells #[.int .i64 t36, .slice A37_ t37.length c37_] 36 (0, 0)) from by rw [hw_]; exact (blk_put (blk_put B38.out 0 _ rfl) 1 _ rfl))
              replace O9 := Aside0.mk (Kd.S_kept O9.out hk_ (fun k_ h1_ h2_ => q_ig DHB38_O9.out k_ h1_ h2_))
              replace UO9 := Aside0.mk (Nat.le_trans UO9.out hk_.1)
              replace O17 := Aside0.mk (Kd.S_kept O17.out hk_ (fun k_ h1_ h2_ => q_ig DHB38_O17.out k_ h1_ h2_))
              replace UO17 := Aside0.mk (Nat.le_trans UO17.out hk_.1)
              clear O33
              clear O35
              replace O37 := Aside0.mk (Kd.S_kept O37.out hk_ (fun k_ h1_ h2_ => Nat.not_le_of_lt DGB38_O37.out (by rw [← h2_]; exact h1_.1)))
              replace UO37 := Aside0.mk (Nat.le_trans UO37.out hk_.1)
              replace B1 := Aside0.mk (blk_kept B1.out hk_ (by intro h_; exact absurd h_ NEB1_B38.out))
              replace B2 := Aside0.mk (blk_kept B2.out hk_ (by intro h_; exact absurd h_ NEB2_B38.out))
              replace B10 := Aside0.mk (blk_kept B10.out hk_ (by intro h_; exact absurd h_ NEB10_B38.out))
              replace B18 := Aside0.mk (blk_kept B18.out hk_ (by intro h_; exact absurd h_ NEB18_B38.out))
              replace HB := Aside0.mk (show Below w.heap.size w w33_ from by rw [hw_]; exact (below_set (below_set HB.out GB38.out) GB38.out))
              clear hk_ hw_
              refine hK.out _ _ ⟨q_z B1.out 0, q_z B2.out 0, q_z B2.out 1⟩ (fun hHeld => ?_)
              obtain ⟨hcw33_B10_0, hcw33_B10_1, hfw33_B10_0, hfw33_B10_1⟩ := q_2 B10.out
              obtain ⟨hcw33_B38_0, hcw33_B38_1, hfw33_B38_0, hfw33_B38_1⟩ := q_2 B38.out
              exact norm_ (by simp only [putAll, Act.put, List.setIfInBounds_toArray, List.set_cons_zero, List.set_cons_succ]) (hj_ (w32_, w31_, g38, A37_, c37_, (.agg #[.slice A33_ t33.length c33_]), (.agg #[.int .i64 t34, .slice A35_ t35.length c35_])) w33_ ⟨B10.out, B18.out, NEB10_B38.out, NEB18_B38.out, O9.out, UO9.out, O17.out, UO17.out, B38.out, GB38.out, O37.out, UO37.out, HB.out⟩)
          · skip
            refine box_step (by rfl) (N := 13) rfl (cs := #[.int .i64 0, .slice none 0 0]) (t := 36) (by first | (go_simp; done) | (go_simp; rfl)) ?_
            intro g38 hg_ w32_ hbox hb
            have NEB18_B38 := Aside0.mk (show g18 ≠ g38 from by rw [hg_]; exact Nat.ne_of_lt (blk_lt B18.out))
            have NEB10_B38 := Aside0.mk (show g10 ≠ g38 from by rw [hg_]; exact Nat.ne_of_lt (blk_lt B10.out))
            have NEB2_B38 := Aside0.mk (show g2 ≠ g38 from by rw [hg_]; exact Nat.ne_of_lt (blk_lt B2.out))
            have NEB1_B38 := Aside0.mk (show g1 ≠ g38 from by rw [hg_]; exact Nat.ne_of_lt (blk_lt B1.out))
            have GB38 := Aside0.mk (q_g hg_ HB.out)
            have DHB38_O9 := Aside0.mk (show _ ≤ g38 from by rw [hg_]; exact UO9.out)
            have DHB38_O17 := Aside0.mk (show _ ≤ g38 from by rw [hg_]; exact UO17.out)
            have DHB38_O33 := Aside0.mk (show _ ≤ g38 from by rw [hg_]; exact UO33.out)
            replace O9 := Aside0.mk (Kd.S_below O9.out hb)
            replace UO9 := Aside0.mk (Nat.le_trans UO9.out hb.size)
            replace O17 := Aside0.mk (Kd.S_below O17.out hb)
            replace UO17 := Aside0.mk (Nat.le_trans UO17.out hb.size)
            replace O33 := Aside0.mk (Kd.S_below O33.out hb)
            replace UO33 := Aside0.mk (Nat.le_trans UO33.out hb.size)
            replace B1 := Aside0.mk (blk_below B1.out hb)
            replace B2 := Aside0.mk (blk_below B2.out hb)
            replace B10 := Aside0.mk (blk_below B10.out hb)
            replace B18 := Aside0.mk (blk_below B18.out hb)
            replace HB := Aside0.mk (below_step HB.out hb)
            have B38 := Aside0.mk hbox
            clear hb hbox hg_
            obtain ⟨hcw32__0, hcw32__1, hfw32__0, hfw32__1⟩ := q_2 B38.out
            refine hK.out _ _ ⟨q_z B1.out 0, q_z B2.out 0, q_z B2.out 1⟩ (fun hHeld => ?_)
            refine norm_ (a' := ?_) ?_ ?_
            rotate_left
            · show Act.put _ (some 13) _ = _
              simp only [Act.put, List.setIfInBounds_toArray, List.set_cons_zero, List.set_cons_succ, i64_w, i32_w]
              rfl
            refine one_ (i := 3) (N := some 78) #[true, true, true, true, false, true, false] rfl rfl (by kernel_rfl) (by decide) (fun K hK => ?_)
            refine goes_ Try.func25 (by kernel_rfl) rfl #[.agg #[.int .i64 a1_0, .slice A1_1 l1_1.length c1_1]] (by rfl) rfl rfl (by (try simp only [List.map_toArray, List.map_cons, List.map_nil]); first | done | rfl) ?_
            with_reducible refine (laws_toContract.calls k a1_0 _ _ l1_1 t34 t35 _ ?side1 ?side2 A30.out).mono ?_
            (case side1 => exact Kd.C_below HR1_1.out HB.out)
            (case side2 => exact HC1_1.out)
            rintro e w30_ ⟨vO35, rfl, ho0, hb⟩
            refine ⟨_, rfl, ?_⟩
            have O35 := Aside0.mk (q_nR HB.out ho0)
            have UO35 := Aside0.mk (Nat.le_refl w30_.heap.size)
            have DO17_O35 := Aside0.mk UO17.out
            have DGB38_O35 := Aside0.mk (blk_lt B38.out)
            replace O9 := Aside0.mk (Kd.S_below O9.out hb)
            replace UO9 := Aside0.mk (Nat.le_trans UO9.out hb.size)
            replace O17 := Aside0.mk (Kd.S_below O17.out hb)
            replace UO17 := Aside0.mk (Nat.le_trans UO17.out hb.size)
            replace O33 := Aside0.mk (Kd.S_below O33.out hb)
            replace UO33 := Aside0.mk (Nat.le_trans UO33.out hb.size)
            replace B1 := Aside0.mk (blk_below B1.out hb)
            replace B2 := Aside0.mk (blk_below B2.out hb)
            replace B10 := Aside0.mk (blk_below B10.out hb)
            replace B18 := Aside0.mk (blk_below B18.out hb)
            replace B38 := Aside0.mk (blk_below B38.out hb)
            replace HB := Aside0.mk (below_step HB.out hb)
            obtain ⟨A35_, c35_, eo_⟩ := Kd.R_slice O35.out
            subst eo_
            clear hb ho0
            refine hK.out _ _ ⟨q_z B1.out 0, q_z B2.out 0, q_z B2.out 1⟩ (fun hHeld => ?_)
            refine norm_ (a' := ?_) ?_ ?_
            rotate_left
            · show Act.put _ (some 78) _ = _
              simp only [Act.put, List.setIfInBounds_toArray, List.set_cons_zero, List.set_cons_succ, i64_w, i32_w]
              rfl
            refine one_ (i := 4) (N := some 79) #[true, true, true, true, true, true, false] rfl rfl (by kernel_rfl) (by decide) (fun K hK => ?_)
            refine goes_ Try.func18 (by kernel_rfl) rfl #[.agg #[.slice A33_ t33.length c33_], .agg #[.int .i64 t34, .slice A35_ t35.length c35_]] (by rfl) rfl rfl (by (try simp only [List.map_toArray, List.map_cons, List.map_nil]); first | done | rfl) ?_
            with_reducible refine (impl_SettleOne.calls k _ _ t33 t34 _ _ t35 t36 t37 _ ?side1 ?side2 ?side3 ?side4 A31.out).mono ?_
            (case side1 => exact (q_lenS O33.out).1)
            (case side2 => exact (q_lenS O33.out).2.1)
            (case side3 => exact (q_lenR O35.out).1)
            (case side4 => exact (q_lenR O35.out).2.1)
            rintro e w31_ ⟨vO37, rfl, ho0, hb⟩
            refine ⟨_, rfl, ?_⟩
            have O37 := Aside0.mk (q_nS HB.out ho0)
            have UO37 := Aside0.mk (Nat.le_refl w31_.heap.size)
            have DO17_O37 := Aside0.mk UO17.out
            have DGB38_O37 := Aside0.mk (blk_lt B38.out)
            replace O9 := Aside0.mk (Kd.S_below O9.out hb)
            replace UO9 := Aside0.mk (Nat.le_trans UO9.out hb.size)
            replace O17 := Aside0.mk (Kd.S_below O17.out hb)
            replace UO17 := Aside0.mk (Nat.le_trans UO17.out hb.size)
            replace O33 := Aside0.mk (Kd.S_below O33.out hb)
            replace UO33 := Aside0.mk (Nat.le_trans UO33.out hb.size)
            replace O35 := Aside0.mk (Kd.R_below O35.out hb)
            replace UO35 := Aside0.mk (Nat.le_trans UO35.out hb.size)
            replace B1 := Aside0.mk (blk_below B1.out hb)
            replace B2 := Aside0.mk (blk_below B2.out hb)
            replace B10 := Aside0.mk (blk_below B10.out hb)
            replace B18 := Aside0.mk (blk_below B18.out hb)
            replace B38 := Aside0.mk (blk_below B38.out hb)
            replace HB := Aside0.mk (below_step HB.out hb)
            obtain ⟨A37_, c37_, eo_⟩ := Kd.S_slice O37.out
            subst eo_
            clear hb ho0
            refine hK.out _ _ ⟨q_z B1.out 0, q_z B2.out 0, q_z B2.out 1⟩ (fun hHeld => ?_)
            refine norm_ (a' := ?_) ?_ ?_
            rotate_left
            · show Act.put _ (some 79) _ = _
              simp only [Act.put, List.setIfInBounds_toArray, List.set_cons_zero, List.set_cons_succ, i64_w, i32_w]
              rfl
            refine one_ (i := 6) (N := none) #[true, true, true, true, true, true, true] rfl rfl (by kernel_rfl) (by decide) (fun K hK => ?_)
            obtain ⟨hcsw33__0, hcsw33__1, hfsw33__0, hfsw33__1⟩ := q_2 B38.out
            refine skip_ (w1 := ((w31_.setCell ⟨g38, 0, none⟩ (.int .i64 t36)).setCell ⟨g38, 1, none⟩ (.slice A37_ t37.length c37_))) (by rfl) rfl (by first | (go_simp; done) | (go_simp; rfl)) ?_
            obtain ⟨w33_, hw_⟩ : ∃ W_, W_ = ((w31_.setCell ⟨g38, 0, none⟩ (.int .i64 t36)).setCell ⟨g38, 1, none⟩ (.slice A37_ t37.length c37_)) := ⟨_, rfl⟩
            rw [← hw_]
            have hk_ : Kept w31_ w33_ (fun k_ => k_ = g38) := (by rw [hw_]; exact (Kept.setCell (Kept.setCell (Kept.refl w31_ (fun k_ => k_ = g38)) (.inl rfl) _) (.inl rfl) _))
            replace B38 := Aside0.mk (show w33_.heap[g38]? = some (.cells #[.int .i64 t36, .slice A37_ t37.length c37_] 36 (0, 0)) from by rw [hw_]; exact (blk_put (blk_put B38.out 0 _ rfl) 1 _ rfl))
            replace O9 := Aside0.mk (Kd.S_kept O9.out hk_ (fun k_ h1_ h2_ => q_ig DHB38_O9.out k_ h1_ h2_))
            replace UO9 := Aside0.mk (Nat.le_trans UO9.out hk_.1)
            replace O17 := Aside0.mk (Kd.S_kept O17.out hk_ (fun k_ h1_ h2_ => q_ig DHB38_O17.out k_ h1_ h2_))
            replace UO17 := Aside0.mk (Nat.le_trans UO17.out hk_.1)
            clear O33
            clear O35
            replace O37 := Aside0.mk (Kd.S_kept O37.out hk_ (fun k_ h1_ h2_ => Nat.not_le_of_lt DGB38_O37.out (by rw [← h2_]; exact h1_.1)))
            replace UO37 := Aside0.mk (Nat.le_trans UO37.out hk_.1)
            replace B1 := Aside0.mk (blk_kept B1.out hk_ (by intro h_; exact absurd h_ NEB1_B38.out))
            replace B2 := Aside0.mk (blk_kept B2.out hk_ (by intro h_; exact absurd h_ NEB2_B38.out))
            replace B10 := Aside0.mk (blk_kept B10.out hk_ (by intro h_; exact absurd h_ NEB10_B38.out))
            replace B18 := Aside0.mk (blk_kept B18.out hk_ (by intro h_; exact absurd h_ NEB18_B38.out))
            replace HB := Aside0.mk (show Below w.heap.size w w33_ from by rw [hw_]; exact (below_set (below_set HB.out GB38.out) GB38.out))
            clear hk_ hw_
            refine hK.out _ _ ⟨q_z B1.out 0, q_z B2.out 0, q_z B2.out 1⟩ (fun hHeld => ?_)
            obtain ⟨hcw33_B10_0, hcw33_B10_1, hfw33_B10_0, hfw33_B10_1⟩ := q_2 B10.out
            obtain ⟨hcw33_B38_0, hcw33_B38_1, hfw33_B38_0, hfw33_B38_1⟩ := q_2 B38.out
            exact norm_ (by simp only [putAll, Act.put, List.setIfInBounds_toArray, List.set_cons_zero, List.set_cons_succ]) (hj_ (w30_, w31_, g38, A37_, c37_, (.agg #[.slice A33_ t33.length c33_]), (.agg #[.int .i64 t34, .slice A35_ t35.length c35_])) w33_ ⟨B10.out, B18.out, NEB10_B38.out, NEB18_B38.out, O9.out, UO9.out, O17.out, UO17.out, B38.out, GB38.out, O37.out, UO37.out, HB.out⟩)
        · skip
          refine box_step (by rfl) (N := 13) rfl (cs := #[.int .i64 0, .slice none 0 0]) (t := 36) (by first | (go_simp; done) | (go_simp; rfl)) ?_
          intro g38 hg_ w32_ hbox hb
          have NEB18_B38 := Aside0.mk (show g18 ≠ g38 from by rw [hg_]; exact Nat.ne_of_lt (blk_lt B18.out))
          have NEB10_B38 := Aside0.mk (show g10 ≠ g38 from by rw [hg_]; exact Nat.ne_of_lt (blk_lt B10.out))
          have NEB2_B38 := Aside0.mk (show g2 ≠ g38 from by rw [hg_]; exact Nat.ne_of_lt (blk_lt B2.out))
          have NEB1_B38 := Aside0.mk (show g1 ≠ g38 from by rw [hg_]; exact Nat.ne_of_lt (blk_lt B1.out))
          have GB38 := Aside0.mk (q_g hg_ HB.out)
          have DHB38_O9 := Aside0.mk (show _ ≤ g38 from by rw [hg_]; exact UO9.out)
          have DHB38_O17 := Aside0.mk (show _ ≤ g38 from by rw [hg_]; exact UO17.out)
          replace O9 := Aside0.mk (Kd.S_below O9.out hb)
          replace UO9 := Aside0.mk (Nat.le_trans UO9.out hb.size)
          replace O17 := Aside0.mk (Kd.S_below O17.out hb)
          replace UO17 := Aside0.mk (Nat.le_trans UO17.out hb.size)
          replace B1 := Aside0.mk (blk_below B1.out hb)
          replace B2 := Aside0.mk (blk_below B2.out hb)
          replace B10 := Aside0.mk (blk_below B10.out hb)
          replace B18 := Aside0.mk (blk_below B18.out hb)
          replace HB := Aside0.mk (below_step HB.out hb)
          have B38 := Aside0.mk hbox
          clear hb hbox hg_
          obtain ⟨hcw32__0, hcw32__1, hfw32__0, hfw32__1⟩ := q_2 B38.out
          refine hK.out _ _ ⟨q_z B1.out 0, q_z B2.out 0, q_z B2.out 1⟩ (fun hHeld => ?_)
          refine norm_ (a' := ?_) ?_ ?_
          rotate_left
          · show Act.put _ (some 13) _ = _
            simp only [Act.put, List.setIfInBounds_toArray, List.set_cons_zero, List.set_cons_succ, i64_w, i32_w]
            rfl
          refine one_ (i := 1) (N := some 76) #[true, true, true, false, false, true, false] rfl rfl (by kernel_rfl) (by decide) (fun K hK => ?_)
          refine goes_ Try.func24 (by kernel_rfl) rfl #[.agg #[.slice A0_0 l0_0.length c0_0]] (by rfl) rfl rfl (by (try simp only [List.map_toArray, List.map_cons, List.map_nil]); first | done | rfl) ?_
          with_reducible refine (laws_toLedger.calls k _ _ l0_0 t33 _ ?side1 ?side2 A29.out).mono ?_
          (case side1 => exact Kd.C_below HR0_0.out HB.out)
          (case side2 => exact HC0_0.out)
          rintro e w29_ ⟨vO33, rfl, ho0, hb⟩
          refine ⟨_, rfl, ?_⟩
          have O33 := Aside0.mk (q_nS HB.out ho0)
          have UO33 := Aside0.mk (Nat.le_refl w29_.heap.size)
          have DO17_O33 := Aside0.mk UO17.out
          have DGB38_O33 := Aside0.mk (blk_lt B38.out)
          replace O9 := Aside0.mk (Kd.S_below O9.out hb)
          replace UO9 := Aside0.mk (Nat.le_trans UO9.out hb.size)
          replace O17 := Aside0.mk (Kd.S_below O17.out hb)
          replace UO17 := Aside0.mk (Nat.le_trans UO17.out hb.size)
          replace B1 := Aside0.mk (blk_below B1.out hb)
          replace B2 := Aside0.mk (blk_below B2.out hb)
          replace B10 := Aside0.mk (blk_below B10.out hb)
          replace B18 := Aside0.mk (blk_below B18.out hb)
          replace B38 := Aside0.mk (blk_below B38.out hb)
          replace HB := Aside0.mk (below_step HB.out hb)
          obtain ⟨A33_, c33_, eo_⟩ := Kd.S_slice O33.out
          subst eo_
          clear hb ho0
          refine hK.out _ _ ⟨q_z B1.out 0, q_z B2.out 0, q_z B2.out 1⟩ (fun hHeld => ?_)
          refine norm_ (a' := ?_) ?_ ?_
          rotate_left
          · show Act.put _ (some 76) _ = _
            simp only [Act.put, List.setIfInBounds_toArray, List.set_cons_zero, List.set_cons_succ, i64_w, i32_w]
            rfl
          refine one_ (i := 3) (N := some 78) #[true, true, true, true, false, true, false] rfl rfl (by kernel_rfl) (by decide) (fun K hK => ?_)
          refine goes_ Try.func25 (by kernel_rfl) rfl #[.agg #[.int .i64 a1_0, .slice A1_1 l1_1.length c1_1]] (by rfl) rfl rfl (by (try simp only [List.map_toArray, List.map_cons, List.map_nil]); first | done | rfl) ?_
          with_reducible refine (laws_toContract.calls k a1_0 _ _ l1_1 t34 t35 _ ?side1 ?side2 A30.out).mono ?_
          (case side1 => exact Kd.C_below HR1_1.out HB.out)
          (case side2 => exact HC1_1.out)
          rintro e w30_ ⟨vO35, rfl, ho0, hb⟩
          refine ⟨_, rfl, ?_⟩
          have O35 := Aside0.mk (q_nR HB.out ho0)
          have UO35 := Aside0.mk (Nat.le_refl w30_.heap.size)
          have DO17_O35 := Aside0.mk UO17.out
          have DGB38_O35 := Aside0.mk (blk_lt B38.out)
          replace O9 := Aside0.mk (Kd.S_below O9.out hb)
          replace UO9 := Aside0.mk (Nat.le_trans UO9.out hb.size)
          replace O17 := Aside0.mk (Kd.S_below O17.out hb)
          replace UO17 := Aside0.mk (Nat.le_trans UO17.out hb.size)
          replace O33 := Aside0.mk (Kd.S_below O33.out hb)
          replace UO33 := Aside0.mk (Nat.le_trans UO33.out hb.size)
          replace B1 := Aside0.mk (blk_below B1.out hb)
          replace B2 := Aside0.mk (blk_below B2.out hb)
          replace B10 := Aside0.mk (blk_below B10.out hb)
          replace B18 := Aside0.mk (blk_below B18.out hb)
          replace B38 := Aside0.mk (blk_below B38.out hb)
          replace HB := Aside0.mk (below_step HB.out hb)
          obtain ⟨A35_, c35_, eo_⟩ := Kd.R_slice O35.out
          subst eo_
          clear hb ho0
          refine hK.out _ _ ⟨q_z B1.out 0, q_z B2.out 0, q_z B2.out 1⟩ (fun hHeld => ?_)
          refine norm_ (a' := ?_) ?_ ?_
          rotate_left
          · show Act.put _ (some 78) _ = _
            simp only [Act.put, List.setIfInBounds_toArray, List.set_cons_zero, List.set_cons_succ, i64_w, i32_w]
            rfl
          refine one_ (i := 4) (N := some 79) #[true, true, true, true, true, true, false] rfl rfl (by kernel_rfl) (by decide) (fun K hK => ?_)
          refine goes_ Try.func18 (by kernel_rfl) rfl #[.agg #[.slice A33_ t33.length c33_], .agg #[.int .i64 t34, .slice A35_ t35.length c35_]] (by rfl) rfl rfl (by (try simp only [List.map_toArray, List.map_cons, List.map_nil]); first | done | rfl) ?_
          with_reducible refine (impl_SettleOne.calls k _ _ t33 t34 _ _ t35 t36 t37 _ ?side1 ?side2 ?side3 ?side4 A31.out).mono ?_
          (case side1 => exact (q_lenS O33.out).1)
          (case side2 => exact (q_lenS O33.out).2.1)
          (case side3 => exact (q_lenR O35.out).1)
          (case side4 => exact (q_lenR O35.out).2.1)
          rintro e w31_ ⟨vO37, rfl, ho0, hb⟩
          refine ⟨_, rfl, ?_⟩
          have O37 := Aside0.mk (q_nS HB.out ho0)
          have UO37 := Aside0.mk (Nat.le_refl w31_.heap.size)
          have DO17_O37 := Aside0.mk UO17.out
          have DGB38_O37 := Aside0.mk (blk_lt B38.out)
          replace O9 := Aside0.mk (Kd.S_below O9.out hb)
          replace UO9 := Aside0.mk (Nat.le_trans UO9.out hb.size)
          replace O17 := Aside0.mk (Kd.S_below O17.out hb)
          replace UO17 := Aside0.mk (Nat.le_trans UO17.out hb.size)
          replace O33 := Aside0.mk (Kd.S_below O33.out hb)
          replace UO33 := Aside0.mk (Nat.le_trans UO33.out hb.size)
          replace O35 := Aside0.mk (Kd.R_below O35.out hb)
          replace UO35 := Aside0.mk (Nat.le_trans UO35.out hb.size)
          replace B1 := Aside0.mk (blk_below B1.out hb)
          replace B2 := Aside0.mk (blk_below B2.out hb)
          replace B10 := Aside0.mk (blk_below B10.out hb)
          replace B18 := Aside0.mk (blk_below B18.out hb)
          replace B38 := Aside0.mk (blk_below B38.out hb)
          replace HB := Aside0.mk (below_step HB.out hb)
          obtain ⟨A37_, c37_, eo_⟩ := Kd.S_slice O37.out
          subst eo_
          clear hb ho0
          refine hK.out _ _ ⟨q_z B1.out 0, q_z B2.out 0, q_z B2.out 1⟩ (fun hHeld => ?_)
          refine norm_ (a' := ?_) ?_ ?_
          rotate_left
          · show Act.put _ (some 79) _ = _
            simp only [Act.put, List.setIfInBounds_toArray, List.set_cons_zero, List.set_cons_succ, i64_w, i32_w]
            rfl
          refine one_ (i := 6) (N := none) #[true, true, true, true, true, true, true] rfl rfl (by kernel_rfl) (by decide) (fun K hK => ?_)
          obtain ⟨hcsw33__0, hcsw33__1, hfsw33__0, hfsw33__1⟩ := q_2 B38.out
          refine skip_ (w1 := ((w31_.setCell ⟨g38, 0, none⟩ (.int .i64 t36)).setCell ⟨g38, 1, none⟩ (.slice A37_ t37.length c37_))) (by rfl) rfl (by first | (go_simp; done) | (go_simp; rfl)) ?_
          obtain ⟨w33_, hw_⟩ : ∃ W_, W_ = ((w31_.setCell ⟨g38, 0, none⟩ (.int .i64 t36)).setCell ⟨g38, 1, none⟩ (.slice A37_ t37.length c37_)) := ⟨_, rfl⟩
          rw [← hw_]
          have hk_ : Kept w31_ w33_ (fun k_ => k_ = g38) := (by rw [hw_]; exact (Kept.setCell (Kept.setCell (Kept.refl w31_ (fun k_ => k_ = g38)) (.inl rfl) _) (.inl rfl) _))
          replace B38 := Aside0.mk (show w33_.heap[g38]? = some (.cells #[.int .i64 t36, .slice A37_ t37.length c37_] 36 (0, 0)) from by rw [hw_]; exact (blk_put (blk_put B38.out 0 _ rfl) 1 _ rfl))
          replace O9 := Aside0.mk (Kd.S_kept O9.out hk_ (fun k_ h1_ h2_ => q_ig DHB38_O9.out k_ h1_ h2_))
          replace UO9 := Aside0.mk (Nat.le_trans UO9.out hk_.1)
          replace O17 := Aside0.mk (Kd.S_kept O17.out hk_ (fun k_ h1_ h2_ => q_ig DHB38_O17.out k_ h1_ h2_))
          replace UO17 := Aside0.mk (Nat.le_trans UO17.out hk_.1)
          clear O33
          clear O35
          replace O37 := Aside0.mk (Kd.S_kept O37.out hk_ (fun k_ h1_ h2_ => Nat.not_le_of_lt DGB38_O37.out (by rw [← h2_]; exact h1_.1)))
          replace UO37 := Aside0.mk (Nat.le_trans UO37.out hk_.1)
          replace B1 := Aside0.mk (blk_kept B1.out hk_ (by intro h_; exact absurd h_ NEB1_B38.out))
          replace B2 := Aside0.mk (blk_kept B2.out hk_ (by intro h_; exact absurd h_ NEB2_B38.out))
          replace B10 := Aside0.mk (blk_kept B10.out hk_ (by intro h_; exact absurd h_ NEB10_B38.out))
          replace B18 := Aside0.mk (blk_kept B18.out hk_ (by intro h_; exact absurd h_ NEB18_B38.out))
          replace HB := Aside0.mk (show Below w.heap.size w w33_ from by rw [hw_]; exact (below_set (below_set HB.out GB38.out) GB38.out))
          clear hk_ hw_
          refine hK.out _ _ ⟨q_z B1.out 0, q_z B2.out 0, q_z B2.out 1⟩ (fun hHeld => ?_)
          obtain ⟨hcw33_B10_0, hcw33_B10_1, hfw33_B10_0, hfw33_B10_1⟩ := q_2 B10.out
          obtain ⟨hcw33_B38_0, hcw33_B38_1, hfw33_B38_0, hfw33_B38_1⟩ := q_2 B38.out
          exact norm_ (by simp only [putAll, Act.put, List.setIfInBounds_toArray, List.set_cons_zero, List.set_cons_succ]) (hj_ (w30_, w31_, g38, A37_, c37_, (.agg #[.slice A33_ t33.length c33_]), (.agg #[.int .i64 t34, .slice A35_ t35.length c35_])) w33_ ⟨B10.out, B18.out, NEB10_B38.out, NEB18_B38.out, O9.out, UO9.out, O17.out, UO17.out, B38.out, GB38.out, O37.out, UO37.out, HB.out⟩)
      rintro ⟨wb33_, we33_, g38, A37_, c37_, vj0_, vj1_⟩ w33j_ ⟨f0_, f1_, f2_, f3_, f4_, f5_, f6_, f7_, f8_, f9_, f10_, f11_, f12_⟩
      clear B1 B2 B10 B18 O9 UO9 O17 UO17 HB
      have B10 := Aside0.mk f0_
      have B18 := Aside0.mk f1_
      have NEB10_B38 := Aside0.mk f2_
      have NEB18_B38 := Aside0.mk f3_
      have O9 := Aside0.mk f4_
      have UO9 := Aside0.mk f5_
      have O17 := Aside0.mk f6_
      have UO17 := Aside0.mk f7_
      have B38 := Aside0.mk f8_
      have GB38 := Aside0.mk f9_
      have O37 := Aside0.mk f10_
      have UO37 := Aside0.mk (show we33_.heap.size ≤ w33j_.heap.size from f11_)
      have HB := Aside0.mk (show Below w.heap.size w w33j_ from f12_)
      clear f0_ f1_ f2_ f3_ f4_ f5_ f6_ f7_ f8_ f9_ f10_ f11_ f12_
      refine norm_ (a' := ?_) ?_ ?_
      rotate_left
      · simp only [putAll, Act.put, List.setIfInBounds_toArray, List.set_cons_zero, List.set_cons_succ]
        rfl
      obtain ⟨hcw33j_B10_0, hcw33j_B10_1, hfw33j_B10_0, hfw33j_B10_1⟩ := q_2 B10.out
      obtain ⟨hcw33j_B38_0, hcw33j_B38_1, hfw33j_B38_0, hfw33j_B38_1⟩ := q_2 B38.out
      refine done_ (by kernel_rfl) ?_
      go_wp2_with (first | ((with_reducible refine gate_dst (N := 82) rfl ?_); refine goesL_ (some 82) rfl rfl Try.func26 (by kernel_rfl) rfl #[.agg #[.int .i64 t36, .slice A37_ t37.length c37_], .agg #[.int .i64 t8, .slice A9_ t9.length c9_]] rfl (by (try simp only [List.map_toArray, List.map_cons, List.map_nil]); first | done | rfl) ?_; (with_reducible refine (laws_eqLedgerResult.calls k t36 _ _ t37 t8 _ _ t9 true _ ?side1 ?side2 ?side3 ?side4 A34.out).mono ?_); (case side1 => exact (q_lenS O37.out).1); (case side2 => exact (q_lenS O37.out).2.1); (case side3 => exact (q_lenS O9.out).1); (case side4 => exact (q_lenS O9.out).2.1); rintro e w34_ ⟨rfl, hb⟩; refine ⟨_, rfl, ?_⟩; clear O9; replace O17 := Aside0.mk (Kd.S_below O17.out hb); replace UO17 := Aside0.mk (Nat.le_trans UO17.out hb.size); clear O37; clear B10; replace B18 := Aside0.mk (blk_below B18.out hb); clear B38; replace HB := Aside0.mk (below_step HB.out hb); clear hb; obtain ⟨hcw34_B18_0, hcw34_B18_1, hfw34_B18_0, hfw34_B18_1⟩ := q_2 B18.out) | ((with_reducible refine gate_dst (N := 86) rfl ?_); refine goesL_ (some 86) rfl rfl Try.func32 (by kernel_rfl) rfl #[.agg #[.int .i64 t16, .slice A17_ t17.length c17_], .int .i64 1] rfl (by (try simp only [List.map_toArray, List.map_cons, List.map_nil]); first | done | rfl) ?_; refine calls_of_args (args' := #[.agg #[.int .i64 t16, .slice A17_ t31.length c17_], .int .i64 1]) (by rw [(q_lenS O17.out).2.2]) ?_; (with_reducible refine (laws_heldLedgerResult.calls k t16 _ _ t31 1 t40 _ ?side1 ?side2 A35.out).mono ?_); (case side1 => exact (q_lenS O17.out).1); (case side2 => exact (q_lenS O17.out).2.1); rintro e w35_ ⟨rfl, hb⟩; refine ⟨_, rfl, ?_⟩; clear O17; clear B18; replace HB := Aside0.mk (below_step HB.out hb); clear hb))
      go_ret
      exact ⟨by first | rfl | (simp; done), HB.out⟩

end Go.Proofs.Ytanegggacfmkcaa.PFnExactSettleOne
