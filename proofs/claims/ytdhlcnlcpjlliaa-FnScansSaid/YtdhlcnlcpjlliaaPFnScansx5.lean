/- The functions that a law reaches, each as a plain Lean function with the proof that the machine comes to its answer: written by program (the kit's print, turned by wip/gen). No conditions. -/
import Derived.Test.YtdhlcnlcpjlliaaPFnScansx0
import Derived.Test.YtdhlcnlcpjlliaaPFnScansx2
import Derived.Test.YtdhlcnlcpjlliaaPFnScansx4
namespace Go.Proofs.Ytdhlcnlcpjlliaa.PFnScans
open Go.RowKit Go.Proofs.YtdhlcnlcpjlliaaW.PrintWords Go.Proofs.YtdhlcnlcpjlliaaW.PrintLast Go.Proofs.YtdhlcnlcpjlliaaW.PrintMore
attribute [local go_sem] max2_int min2_int max_two min_two max_three min_three max_four min_four   -- for this text's walks alone
set_option linter.unusedVariables false
set_option linter.unusedSimpArgs false

/-! ### spec_KeysOf: function 42 -/
def spec_KeysOf.f (k : Nat) (l0 : List (S49)) : Option (Int × List ByteArray) := (spec_TableFault.f k l0).bind fun t159 => (if t159 = 0 then ((spec_l5Keys.f k l0).bind fun t160 => (some (0, t160))) else (some (t159, ([] : List ByteArray))))
set_option maxHeartbeats 8000000 in
set_option maxRecDepth 100000 in
theorem spec_KeysOf.calls (k : Nat) (A0 : Option Addr) (c0 : Nat) (l0 : List (S49)) (r1 : Int) (r2 : List ByteArray) (w : World) (hr0 : Kd.C k49 w A0 l0.length l0) (hc0 : l0.length ≤ c0) (h : spec_KeysOf.f k l0 = some (r1, r2)) :
  Calls Try.prog 42 #[.slice A0 l0.length c0] w fun e w' => ∃ v1_ : Value, e = .returned (.agg #[.int .i64 r1, v1_]) ∧ Kd.R Kd.string 9 w' w.heap.size (fun _ => True) v1_ r2 ∧ Below w.heap.size w w' := by
 have hu63 := Try.underlying63
 have HR0 := Aside0.mk hr0
 have HC0 := Aside0.mk hc0
 clear hr0 hc0
 have HB := Aside0.mk (Below.refl w.heap.size w)
 have H : ((spec_TableFault.f k l0).bind fun t159 => (if t159 = 0 then ((spec_l5Keys.f k l0).bind fun t160 => (some (0, t160))) else (some (t159, ([] : List ByteArray))))) = some (r1, r2) := h
 clear h
 replace H := Option.bind_eq_some_iff.mp H
 obtain ⟨t159, A20, H⟩ := H
 replace H : (if t159 = 0 then ((spec_l5Keys.f k l0).bind fun t160 => (some (0, t160))) else (some (t159, ([] : List ByteArray)))) = some (r1, r2) := H
 have A2 := Aside0.mk A20
 clear A20
 by_cases c3 : t159 = 0
 ·rw [if_pos c3] at H
  have c3b0 : (t159 == 0) = true := beq_iff_eq.mpr c3
  have c3b1 : (t159 != 0) = false := bne_eq_false_iff_eq.mpr c3
  clear c3
  replace H := Option.bind_eq_some_iff.mp H
  obtain ⟨t160, A40, H⟩ := H
  replace H : (some (0, t160)) = some (r1, r2) := H
  have A4 := Aside0.mk A40
  clear A40
  simp only [Option.some.injEq, Prod.mk.injEq] at H
  obtain ⟨rfl, rfl⟩ := H
  go_enter Try.func42, Try.ntmps42
  go_wp2_with (first | ((with_reducible refine gate_dst (N := 2) rfl ?_); refine q_box (N := 2) (cs := #[.int .i64 0, .slice none 0 0]) (t := 63) ?_; intro gb158 hg w5 hbox hb; have n0_ := Aside0.mk (below_step bq hb); have n1_ := Aside0.mk (hbox); have n2_ := Aside0.mk ((q_g hg bq : w.heap.size ≤ gb158)); have n3_ := Aside0.mk ((q_g hg bq : w.heap.size ≤ gb158)); revert n0_ n1_ n2_ n3_; clear HB; intro HB BK158 GW158 GE158; clear hb hbox hg) | ((with_reducible refine gate_callee (f := 16) rfl ?_); refine goesLq (some 5) rfl rfl Try.func16 (by kernel_rfl) rfl #[.slice A0 l0.length c0] rfl ?_; (with_reducible refine (spec_TableFault.calls k _ _ l0 t159 _ ?side1 ?side2 A2.out).mono ?_); (case side1 => exact q_c ((Kd.C_below HR0.out HB.out))); (case side2 => exact HC0.out); rintro e w6 ⟨rfl, hb⟩; refine ⟨_, rfl, ?_⟩; have n0_ := Aside0.mk (blk_below (q_b BK158.out) hb); have n1_ := Aside0.mk (below_step bq hb); revert n0_ n1_; clear BK158 HB; intro BK158 HB; (try clear hb); (try clear hb2); (try clear hk); (try clear hi)) | ((with_reducible refine gate_callee (f := 92) rfl ?_); refine goesLq (some 11) rfl rfl Try.func92 (by kernel_rfl) rfl #[.slice A0 l0.length c0] rfl ?_; (with_reducible refine (spec_l5Keys.calls k _ _ l0 t160 _ ?side1 ?side2 A4.out).mono ?_); (case side1 => exact q_c ((Kd.C_below HR0.out HB.out))); (case side2 => exact HC0.out); rintro e w7 ⟨v161, rfl, ho0, hb⟩; refine ⟨_, rfl, ?_⟩; have n0_ := Aside0.mk (Kd.R_lower ho0 (below_size bq)); have n1_ := Aside0.mk (blk_below (q_b BK158.out) hb); have n2_ := Aside0.mk (below_step bq hb); revert n0_ n1_ n2_; clear BK158 HB; intro HO162 BK158 HB; (try clear hb); (try clear hb2); (try clear hk); (try clear hi); (try clear ho0); obtain ⟨Ao8, co8, eo8⟩ := Kd.R_slice HO162.out; subst eo8; obtain ⟨hcz9_0, hcz9_1, hfz9_0, hfz9_1⟩ := q_2 BK158.out))
  refine bodyPost_ret (results_cell_row rfl _ _ gb158 63 #[.int .i64 0, .slice Ao8 t160.length co8] (0, 0) _ rfl (by (with_reducible repeat (first | refine blk_drewN ?_ _ | refine blk_drew ?_ | refine blk_alloc ?_ _)); refine blk_put (cs := #[.int .i64 0, .slice none 0 0]) ?_ 1 _ rfl; (with_reducible repeat (first | refine blk_drewN ?_ _ | refine blk_drew ?_ | refine blk_alloc ?_ _)); refine blk_put (cs := #[.int .i64 0, .slice none 0 0]) ?_ 0 _ rfl; (with_reducible repeat (first | refine blk_drewN ?_ _ | refine blk_drew ?_ | refine blk_alloc ?_ _)); exact BK158.out) Try.underlying63 rfl (by kernel_rfl)) rfl ?_
  exact ⟨_, q_e, by (with_reducible repeat (first | apply Kd.R_alloc | apply Kd.R_drewN | apply Kd.R_drew)); exact Kd.R_mono (Kd.R_far (p := ⟨gb158, 1, none⟩) (Kd.R_far (p := ⟨gb158, 0, none⟩) (Kd.R_types HO162.out BK158.out (by decide)) (fun _ hk => hk.2) (.int .i64 0)) (fun _ hk => hk.2) (.slice Ao8 t160.length co8)) (fun _ hk => trivial), bq⟩
 ·rw [if_neg c3] at H
  have c3b0 : (t159 == 0) = false := beq_eq_false_iff_ne.mpr c3
  have c3b1 : (t159 != 0) = true := bne_iff_ne.mpr c3
  simp only [Option.some.injEq, Prod.mk.injEq] at H
  obtain ⟨rfl, rfl⟩ := H
  go_enter Try.func42, Try.ntmps42
  go_wp2_with (first | ((with_reducible refine gate_dst (N := 2) rfl ?_); refine q_box (N := 2) (cs := #[.int .i64 0, .slice none 0 0]) (t := 63) ?_; intro gb158 hg w10 hbox hb; have n0_ := Aside0.mk (below_step bq hb); have n1_ := Aside0.mk (hbox); have n2_ := Aside0.mk ((q_g hg bq : w.heap.size ≤ gb158)); have n3_ := Aside0.mk ((q_g hg bq : w.heap.size ≤ gb158)); revert n0_ n1_ n2_ n3_; clear HB; intro HB BK158 GW158 GE158; clear hb hbox hg) | ((with_reducible refine gate_callee (f := 16) rfl ?_); refine goesLq (some 5) rfl rfl Try.func16 (by kernel_rfl) rfl #[.slice A0 l0.length c0] rfl ?_; (with_reducible refine (spec_TableFault.calls k _ _ l0 t159 _ ?side1 ?side2 A2.out).mono ?_); (case side1 => exact q_c ((Kd.C_below HR0.out HB.out))); (case side2 => exact HC0.out); rintro e w11 ⟨rfl, hb⟩; refine ⟨_, rfl, ?_⟩; have n0_ := Aside0.mk (blk_below (q_b BK158.out) hb); have n1_ := Aside0.mk (below_step bq hb); revert n0_ n1_; clear BK158 HB; intro BK158 HB; (try clear hb); (try clear hb2); (try clear hk); (try clear hi); obtain ⟨hcz12_0, hcz12_1, hfz12_0, hfz12_1⟩ := q_2 BK158.out))
  refine bodyPost_ret (results_cell_row rfl _ _ gb158 63 #[.int .i64 t159, .slice none 0 0] (0, 0) _ rfl (by (with_reducible repeat (first | refine blk_drewN ?_ _ | refine blk_drew ?_ | refine blk_alloc ?_ _)); refine blk_put (cs := #[.int .i64 t159, .slice none 0 0]) ?_ 1 _ rfl; (with_reducible repeat (first | refine blk_drewN ?_ _ | refine blk_drew ?_ | refine blk_alloc ?_ _)); refine blk_put (cs := #[.int .i64 0, .slice none 0 0]) ?_ 0 _ rfl; (with_reducible repeat (first | refine blk_drewN ?_ _ | refine blk_drew ?_ | refine blk_alloc ?_ _)); exact BK158.out) Try.underlying63 rfl (by kernel_rfl)) rfl ?_
  exact ⟨_, q_e, by first | exact Kd.R_nil _ _ _ _ _ | exact Kd.N_nil _ _ _ _ _ | exact Kd.V_nil _ _ _ _ _ | exact Kd.Q_nil _ _ _ _ _ | exact Kd.S_nil _ _ _ _ _, bq⟩

/-! ### slices_Compact_string: function 118 -/
theorem clear_event {α : Type} {enc : α → Value} {h1 : ∀ x, (enc x).oneCell' = true} {P : Program} {ops : Array Oper} {rest : List Oper} {o : Oper} {a : Act} {Q : Exit → Act → World → Prop} {W : World} (hgd : o.guard = none) (s : Operand) (t e : TypeId) (z : Value)
    (ho : o.op = .call { callee := .builtin .clear, args := #[s], argTypes := #[t] }) (ht : P.underlying t = some (.slice e)) (hv : ∀ w, (zeroValue e).run P w = .ok z w) (hz : z.cells = #[z]) (hz1 : z.oneCell' = true)
    {ad : Addr} {A : Option Addr} {n m c c2 : Nat} {k : Int} {base : Nat} {ok : Nat → Prop} {xs : List α} (HO : (Kd.scalar enc h1).R e W base ok (.slice (some ad) n c) xs) (hn : n = xs.length) (hk0 : 0 ≤ k) (hk : k < (xs.length : Int)) (hA : A = (if c = k.toNat then some ad else (some ad).map (·.add (k.toNat * 1)))) (hm : m = xs.length - k.toNat) (hs : a.eval s = .slice A m c2)
    (h : ∀ w1, (Kd.scalar enc h1).R e w1 base ok (.slice (some ad) k.toNat c) (xs.take k.toNat) → W.grownBy w1 (Value.slice (some ad) n c).ownBlock → wpList P ops Q rest (a.put o.dst (.tuple #[])) w1) : wpList P ops Q (o :: rest) a W := by
  subst hn
  have hkn : k.toNat < xs.length := by omega
  obtain ⟨hl, hr⟩ := Kd.own_of_R HO
  rcases hr with ⟨hr, _⟩ | ⟨g, cap, cur, he, hg, hh, hc1, hc2, hc3, hc4⟩
  · cases hr
  · injection he with e1 e2 e3
    injection e1 with e1
    subst e1
    subst e3
    have hne : ¬ (c = k.toNat) := by omega
    rw [if_neg hne] at hA
    subst hm
    have hcs : c * 1 = c := Nat.mul_one _
    rw [hcs] at hc3
    have hA2 : A = some ⟨g, k.toNat, none⟩ := by rw [hA]; simp [Addr.add]; omega
    have hcell : ∀ j, j < xs.length - k.toNat → (W.cell? ⟨g, k.toNat + j, none⟩).isSome = true := fun j hj => by
      rw [cell_of_row W g (k.toNat + j) cur e (0, 0) hh, Array.getElem?_eq_getElem (by omega)]
      rfl
    have hfr : ∀ j, j < xs.length - k.toNat → W.frozen? ⟨g, k.toNat + j, none⟩ = false := fun j _ => blk_frozen hh _
    have hrun := fun ty => Lib.run_clear_slice (P := P) W t e ty z ht hv hz hz1 g k.toNat (xs.length - k.toNat) c2 (by omega) hcell hfr
    have hrun2 : (execOp a.eval o).run P W = .ok (.value (.tuple #[])) (W.setCells g k.toNat (List.replicate (xs.length - k.toNat) z)) := by
      obtain ⟨dst_, op_, ty_, pos_, after_, guard_⟩ := o
      simp only at ho
      subst ho
      have hb := hrun ty_
      rw [BigFrame.execOp_builtin, BigFrame.builtin_clear]
      simp [hs, hA2, hb, Result.andThen]
    refine Kd.event_run hgd hrun2 (h _ ?_ ?_)
    · obtain ⟨cur', h3, h4, h5⟩ := setCells_row (List.replicate (xs.length - k.toNat) z) k.toNat W cur hh (by simp; omega)
      refine Kd.R_of_own ⟨by simp [encs], Or.inr ⟨g, c, cur', by rw [List.length_take, Nat.min_eq_left (Nat.le_of_lt hkn)], hg, h3, by rw [List.length_take]; omega, hc2, by omega, ?_⟩⟩ HO.1
      have e5 : (xs.take k.toNat).length * 1 = k.toNat := by rw [List.length_take]; omega
      rw [e5, h5]
      have e6 : (cur.toList.take k.toNat).length = k.toNat := by rw [List.length_take]; simp; omega
      rw [List.append_assoc, List.take_append_of_le_length (by rw [e6]; exact Nat.le_refl _), List.take_of_length_le (by rw [e6]; exact Nat.le_refl _)]
      have e7 := congrArg (List.take k.toNat) hc4
      rw [List.take_take, Nat.mul_one, Nat.min_eq_left (Nat.le_of_lt hkn)] at e7
      rw [e7]
      unfold encs
      rw [List.map_take]
    · obtain ⟨s1, s2, s3, s4⟩ := setCells_same g (List.replicate (xs.length - k.toNat) z) k.toNat W
      refine ⟨s1, s2, s3, Nat.le_of_eq s4.symm, fun i _ hi => setCells_far _ _ i (fun e_ => hi (by rw [e_]; rfl))⟩
theorem cut_at {α : Type} {enc : α → Value} {h1 : ∀ x, (enc x).oneCell' = true} (dflt : α) {W : World} {e : TypeId} {ad : Addr} {A : Option Addr} {n m c : Nat} {k : Int} {base : Nat} {ok : Nat → Prop} {xs : List α} (HO : (Kd.scalar enc h1).R e W base ok (.slice (some ad) n c) xs) (hA : A = (if c = k.toNat then some ad else (some ad).map (·.add (k.toNat * 1)))) (hm : m = n - k.toNat) (i : Int) (h0 : 0 ≤ i) (hi : i < (m : Int)) :
    ∃ ad2, A = some ad2 ∧ W.cell? (ad2.add i.toNat) = some (enc (rdOf dflt xs ((xs.length : Int) - (m : Int) + i))) := by
  have hn := (Kd.R_reads' HO).1
  subst hn
  obtain ⟨hl, hr⟩ := Kd.own_of_R HO
  rcases hr with ⟨hr, _⟩ | ⟨g, cap, cur, he, hg, hh, hc1, hc2, hc3, hc4⟩
  · cases hr
  · injection he with e1 e2 e3
    injection e1 with e1
    subst e1
    subst e3
    have hne : ¬ (c = k.toNat) := by omega
    rw [if_neg hne] at hA
    refine ⟨_, hA, ?_⟩
    have hj : k.toNat + i.toNat < xs.length := by omega
    have e2 : ((xs.length : Int) - (m : Int) + i).toNat = k.toNat + i.toNat := by omega
    have e3 : (({ block := g, off := 0 } : Addr).add (k.toNat * 1)).add i.toNat = ⟨g, k.toNat + i.toNat, none⟩ := by
      rw [Addr.add_lit, Addr.add_lit, show 0 + k.toNat * 1 + i.toNat = k.toNat + i.toNat by omega]
    rw [e3, cell_of_row W g _ cur e (0, 0) hh]
    have e4 : cur[k.toNat + i.toNat]? = (encs enc xs)[k.toNat + i.toNat]? := by
      rw [← hc4, List.getElem?_take_of_lt (by omega), Array.getElem?_toList]
    rw [e4]
    unfold encs rdOf
    rw [List.getElem?_map, e2, List.getD_eq_getElem?_getD, List.getElem?_eq_getElem hj]
    rfl
mutual
def slices_Compact_string.l0 : Nat → List ByteArray → Int → Option (List ByteArray)
  | 0, _, _ => none
  | k + 1, x0, x3 => if x3 < (x0.length : Int) then (if 0 ≤ x3 then (if 0 ≤ (wrap64 (x3 - 1)) then (if (wrap64 (x3 - 1)) < (x0.length : Int) then (if (rdOf ByteArray.empty x0 x3).toList = (rdOf ByteArray.empty x0 (wrap64 (x3 - 1))).toList then (if x3 ≤ (x0.length : Int) then (slices_Compact_string.l1 k x0 x3 (x0.drop (x3 : Int).toNat) 1) else (none)) else (slices_Compact_string.l0 k x0 (wrap64 (x3 + 1)))) else (none)) else (none)) else (none)) else (some x0)
def slices_Compact_string.l1 : Nat → List ByteArray → Int → List ByteArray → Int → Option (List ByteArray)
  | 0, _, _, _, _ => none
  | k + 1, x0, x3, x4, x5 => if x5 < (x4.length : Int) then (if 0 ≤ x5 then (if 0 ≤ (wrap64 (x5 - 1)) then (if (wrap64 (x5 - 1)) < (x4.length : Int) then (if (rdOf ByteArray.empty x0 ((x0.length : Int) - (x4.length : Int) + x5)).toList = (rdOf ByteArray.empty x0 ((x0.length : Int) - (x4.length : Int) + (wrap64 (x5 - 1)))).toList then (slices_Compact_string.l1 k x0 x3 x4 (wrap64 (x5 + 1))) else (if 0 ≤ x3 then (if x3 < (x0.length : Int) then (slices_Compact_string.l1 k (x0.set (x3 : Int).toNat (rdOf ByteArray.empty x0 ((x0.length : Int) - (x4.length : Int) + x5))) (wrap64 (x3 + 1)) x4 (wrap64 (x5 + 1))) else (none)) else (none))) else (none)) else (none)) else (none)) else (if x3 < (x0.length : Int) then (if 0 ≤ x3 then (if x3 ≤ (x0.length : Int) then (some (x0.take (x3 : Int).toNat)) else (none)) else (none)) else (none))
end
def slices_Compact_string.f (k : Nat) (l0 : List ByteArray) : Option (List ByteArray) := if (l0.length : Int) < 2 then (some l0) else (slices_Compact_string.l0 k l0 1)
set_option maxHeartbeats 8000000 in
set_option maxRecDepth 100000 in
theorem slices_Compact_string.calls (k : Nat) (P0_ : Nat → Prop) (u9000_ : Value) (l0 : List ByteArray) (r : List ByteArray) (w0 w : World) (hB : Below w0.heap.size w0 w) (ho0 : Kd.R Kd.string 9 w w0.heap.size P0_ u9000_ l0) (h : slices_Compact_string.f k l0 = some r) :
  Calls Try.prog 118 #[u9000_] w fun e w' => ∃ v0_ : Value, e = .returned (v0_) ∧ Kd.R Kd.string 9 w' w0.heap.size (fun k_ => (P0_ k_ ∨ w.heap.size ≤ k_)) v0_ r ∧ Below w0.heap.size w0 w' ∧ Kept w w' (fun k_ => P0_ k_) := by
 have HO0 := Aside0.mk (show Kd.R Kd.string 9 w w0.heap.size (fun k_ => (P0_ k_ ∨ w.heap.size ≤ k_)) u9000_ l0 from Kd.R_mono ho0 (fun k_ hk => (.inl hk)))
 have HK := Aside0.mk (Kept.refl w (fun k_ => P0_ k_))
 have HW0 := Aside0.mk hB.size
 have HB := Aside0.mk hB
 clear hB
 have H : (if (l0.length : Int) < 2 then (some l0) else (slices_Compact_string.l0 k l0 1)) = some r := h
 clear h
 by_cases c2 : (l0.length : Int) < 2
 ·rw [if_pos c2] at H
  have c2b0 := decide_eq_true c2
  have c2b1 : decide (l0.length < 2) = true := decide_eq_true (by omega)
  clear c2
  obtain rfl := Option.some.inj H
  obtain ⟨Ao3, co3, eo3⟩ := Kd.R_slice HO0.out
  subst eo3
  go_enter Try.func118, Try.ntmps118
  go_wp2
  repeat (go_quiet (fail); try go_wp2)
  go_ret
  exact ⟨_, q_e, q_r (HO0.out), bq, q_k⟩
 ·rw [if_neg c2] at H
  have c2b0 := decide_eq_false c2
  have c2b1 : decide (l0.length < 2) = false := decide_eq_false (by omega)
  clear c2
  have H' := Aside0.mk H
  clear H
  obtain ⟨go_, co4, eo4, gb_, gl_, cl_, HG_⟩ := Kd.R_form HO0.out (by have h_ := of_decide_eq_false c2b1; omega)
  clear gb_ gl_ HG_ cl_
  subst eo4
  go_enter Try.func118, Try.ntmps118
  go_wp2
  repeat (go_quiet (fail); try go_wp2)
  go_loopg [3] k (fun kq v3 w' => ∃ (x0_1 : List ByteArray) (x3_1 : Int), v3 = .int .i64 x3_1 ∧ Aside0 (slices_Compact_string.l0 kq x0_1 x3_1 = some r) ∧ Aside0 (kq ≤ k) ∧ Aside0 (Kd.R Kd.string 9 w' w0.heap.size (fun k_ => (P0_ k_ ∨ w.heap.size ≤ k_)) (.slice (some ⟨go_, 0, none⟩) l0.length co4) x0_1) ∧ Aside0 (Kept w w' (fun k_ => P0_ k_)) ∧ Aside0 (Below w0.heap.size w0 w'))
  case atStart => exact ⟨(l0), (1), q_i, H', ⟨Nat.le_refl _⟩, ⟨q_r (HO0.out)⟩, ⟨q_k⟩, ⟨bq⟩⟩
  case round =>
   clear H'
   (try clear c1); (try clear c2); (try clear c2b0); (try clear c2b1); (try clear p2)
   obtain ⟨x0_1, x3_1, rfl, HA, HK1, HO_0, HK, HB⟩ := hrel
   have hl0_1 := (Kd.R_reads' HO_0.out).1
   rw [hl0_1] at HO_0
   (try simp only [hl0_1])
   cases gk with
   | zero => exact absurd HA.out (by simp [slices_Compact_string.l0])
   | succ k1 =>
    have H := HA.out
    clear HA
    simp only [slices_Compact_string.l0] at H
    by_cases c5 : x3_1 < (x0_1.length : Int)
    ·rw [if_pos c5] at H
     have c5b0 := decide_eq_true c5
     clear c5
     by_cases c6 : 0 ≤ x3_1
     ·rw [if_pos c6] at H
      have c6b0 := decide_eq_true c6
      clear c6
      obtain ⟨ji7, hji7⟩ : ∃ j_ : Int, (wrap64 (x3_1 - 1)) = j_ := ⟨_, rfl⟩
      replace H : (if 0 ≤ (ji7) then (if (ji7) < (x0_1.length : Int) then (if (rdOf ByteArray.empty x0_1 x3_1).toList = (rdOf ByteArray.empty x0_1 (ji7)).toList then (if x3_1 ≤ (x0_1.length : Int) then (slices_Compact_string.l1 k1 x0_1 x3_1 (x0_1.drop (x3_1 : Int).toNat) 1) else (none)) else (slices_Compact_string.l0 k1 x0_1 (wrap64 (x3_1 + 1)))) else (none)) else (none)) = some r := by first | (rw [hji7] at H; exact H) | (simp only [hji7] at H ⊢; exact H)
      have hji7w : (IntKind.i64.wrap (x3_1 - 1)) = ji7 := (i64_w _).trans hji7
      by_cases c8 : 0 ≤ (ji7)
      ·rw [if_pos c8] at H
       have c8b0 := decide_eq_true c8
       clear c8
       by_cases c9 : (ji7) < (x0_1.length : Int)
       ·rw [if_pos c9] at H
        have c9b0 := decide_eq_true c9
        clear c9
        by_cases c10 : (rdOf ByteArray.empty x0_1 x3_1).toList = (rdOf ByteArray.empty x0_1 (ji7)).toList
        ·rw [if_pos c10] at H
         have c10b0 : ((rdOf ByteArray.empty x0_1 x3_1).toList == (rdOf ByteArray.empty x0_1 (ji7)).toList) = true := beq_iff_eq.mpr c10
         have c10b1 : ((rdOf ByteArray.empty x0_1 x3_1).toList != (rdOf ByteArray.empty x0_1 (ji7)).toList) = false := bne_eq_false_iff_eq.mpr c10
         clear c10
         have c11b0 := eq_true (q_d : 0 ≤ x3_1)
         by_cases c12 : x3_1 ≤ (x0_1.length : Int)
         ·rw [if_pos c12] at H
          have c12b0 := eq_true c12
          have c12b1 := decide_eq_true c12
          clear c12
          obtain ⟨y165, hy165⟩ : ∃ y_ : List ByteArray, y_ = (x0_1.drop (x3_1 : Int).toNat) := ⟨_, rfl⟩
          replace H : (slices_Compact_string.l1 k1 x0_1 x3_1 y165 1) = some r := q_h hy165 H
          have Ny165 := Aside0.mk hy165
          clear hy165
          have H' := Aside0.mk H
          clear H
          have p163 : 0 ≤ (x3_1 : Int) := q_d
          have q163 : x3_1 < (x0_1.length : Int) := q_d
          obtain ⟨adq_, e163, hx163_0⟩ := Kd.at_string (Kd.R_reads' HO_0.out).2.2 x3_1 p163 q163
          cases e163
          (try simp only [add_plain] at hx163_0)
          replace p163 := eq_true p163
          replace q163 := eq_true q163
          have p164 : 0 ≤ ((ji7) : Int) := q_d
          have q164 : (ji7) < (x0_1.length : Int) := q_d
          obtain ⟨ad164, e164, hx164_0⟩ := Kd.at_string (Kd.R_reads' HO_0.out).2.2 (ji7) p164 q164
          cases e164
          (try simp only [add_plain] at hx164_0)
          replace p164 := eq_true p164
          replace q164 := eq_true q164
          have q13 : (x3_1 : Int) ≤ ((x0_1.length : Int) : Int) := q_d
          obtain ⟨i013, hi013, _, hsz13, _⟩ := info_parts info9
          have hroom13 : x0_1.length ≤ co4 := (Kd.R_reads' HO_0.out).2.1
          have hC13 : Kd.C Kd.string _ (some ⟨go_, 0, none⟩) x0_1.length x0_1 := (Kd.R_reads' HO_0.out).2.2
          have q013 : (0 : Int) ≤ (x3_1 : Int) := q_d
          have hcut13 := cut_from (P := Try.prog) 61 9 .i64 Try.underlying61 hi013 1 hsz13 (some ⟨go_, 0, none⟩) x0_1.length co4 x3_1 q013 q13
          have hr13 := Kd.C_drop (m := (x3_1 : Int).toNat) (c := co4) hC13 (by omega) hroom13
          obtain ⟨A13, hA13⟩ : ∃ A1, A1 = (if co4 = (x3_1 : Int).toNat then (some ⟨go_, 0, none⟩) else ((some ⟨go_, 0, none⟩) : Option Addr).map (·.add ((x3_1 : Int).toNat * 1))) := ⟨_, rfl⟩
          obtain ⟨c13, hc13⟩ : ∃ c1, c1 = co4 - (x3_1 : Int).toNat := ⟨_, rfl⟩
          have hy13 : y165.length = x0_1.length - (x3_1 : Int).toNat := (by rw [Ny165.out, List.length_drop] <;> omega)
          rw [show (x0_1).drop (x3_1 : Int).toNat = y165 from Ny165.out.symm] at hr13
          replace hr13 : Kd.C Kd.string _ A13 y165.length y165 := (by rw [hA13]; exact hr13)
          rw [← hy13, ← hA13, ← hc13] at hcut13
          have HR168 := Aside0.mk hr13
          have HC168 := Aside0.mk (show y165.length ≤ c13 from by rw [hy13, hc13]; exact Nat.sub_le_sub_right hroom13 _)
          clear hr13 hC13 hroom13 hi013 hsz13 hc13
          have KY13 := Aside0.mk hy13
          have KA13 := Aside0.mk hA13
          clear hy13 hA13
          have KL13 := Aside0.mk (show (x3_1 : Int).toNat ≤ x0_1.length from by omega)
          replace q13 := eq_true q13
          go_wp2
          repeat (go_quiet (fail); try go_wp2)
          go_loopg [3, 5] k1 (fun kq v3 v5 w' => ∃ (x0_2 : List ByteArray) (x3_2 : Int) (x5_2 : Int), v3 = .int .i64 x3_2 ∧ v5 = .int .i64 x5_2 ∧ Aside0 (slices_Compact_string.l1 kq x0_2 x3_2 y165 x5_2 = some r) ∧ Aside0 (kq ≤ k1) ∧ Aside0 (Kd.R Kd.string 9 w' w0.heap.size (fun k_ => (P0_ k_ ∨ w.heap.size ≤ k_)) (.slice (some ⟨go_, 0, none⟩) x0_1.length co4) x0_2) ∧ Aside0 (Kept w w' (fun k_ => P0_ k_)) ∧ Aside0 (Below w0.heap.size w0 w'))
          case atStart => exact ⟨(x0_1), (x3_1), (1), q_i, q_i, H', ⟨Nat.le_refl _⟩, ⟨by (try simp only [hl0_1]); (with_reducible repeat (first | apply Kd.R_alloc | apply Kd.R_drewN | apply Kd.R_drew)); exact HO_0.out⟩, ⟨q_k⟩, ⟨bq⟩⟩
          case round =>
           clear H'
           (try clear c1); (try clear p1); (try clear q1); (try clear hx1); (try clear c2); (try clear c2b0); (try clear c2b1); (try clear p2); (try clear c5); (try clear c5b0); (try clear c6); (try clear c6b0)
           (try clear p6); (try clear c8); (try clear c8b0); (try clear c9); (try clear c9b0); (try clear c10); (try clear c10b0); (try clear c10b1); (try clear c11); (try clear c11b0); (try clear c12)
           (try clear c12b0); (try clear c12b1); (try clear c13); (try clear q13); (try clear hx163_0); (try clear hx164_0); (try clear p163); (try clear p164); (try clear p2); (try clear q013); (try clear q13)
           (try clear q163); (try clear q164)
           obtain ⟨x0_2, x3_2, x5_2, rfl, rfl, HA, HK2, HO_0, HK, HB⟩ := hrel
           have hl0_2 := (Kd.R_reads' HO_0.out).1
           rw [hl0_2] at HO_0
           (try simp only [hl0_2])
           cases gk with
           | zero => exact absurd HA.out (by simp [slices_Compact_string.l1])
           | succ k2 =>
            have H := HA.out
            clear HA
            simp only [slices_Compact_string.l1] at H
            by_cases c14 : x5_2 < (y165.length : Int)
            ·rw [if_pos c14] at H
             have c14b0 := decide_eq_true c14
             clear c14
             by_cases c15 : 0 ≤ x5_2
             ·rw [if_pos c15] at H
              have c15b0 := decide_eq_true c15
              clear c15
              obtain ⟨ji16, hji16⟩ : ∃ j_ : Int, (wrap64 (x5_2 - 1)) = j_ := ⟨_, rfl⟩
              replace H : (if 0 ≤ (ji16) then (if (ji16) < (y165.length : Int) then (if (rdOf ByteArray.empty x0_2 ((x0_2.length : Int) - (y165.length : Int) + x5_2)).toList = (rdOf ByteArray.empty x0_2 ((x0_2.length : Int) - (y165.length : Int) + (ji16))).toList then (slices_Compact_string.l1 k2 x0_2 x3_2 y165 (wrap64 (x5_2 + 1))) else (if 0 ≤ x3_2 then (if x3_2 < (x0_2.length : Int) then (slices_Compact_string.l1 k2 (x0_2.set (x3_2 : Int).toNat (rdOf ByteArray.empty x0_2 ((x0_2.length : Int) - (y165.length : Int) + x5_2))) (wrap64 (x3_2 + 1)) y165 (wrap64 (x5_2 + 1))) else (none)) else (none))) else (none)) else (none)) = some r := by first | (rw [hji16] at H; exact H) | (simp only [hji16] at H ⊢; exact H)
              have hji16w : (IntKind.i64.wrap (x5_2 - 1)) = ji16 := (i64_w _).trans hji16
              by_cases c17 : 0 ≤ (ji16)
              ·rw [if_pos c17] at H
               have c17b0 := decide_eq_true c17
               clear c17
               by_cases c18 : (ji16) < (y165.length : Int)
               ·rw [if_pos c18] at H
                have c18b0 := decide_eq_true c18
                clear c18
                obtain ⟨rv1_, hrv1_⟩ : ∃ v_, v_ = (rdOf ByteArray.empty x0_2 ((x0_2.length : Int) - (y165.length : Int) + x5_2)) := ⟨_, rfl⟩
                rw [← hrv1_] at H
                have RV1_ := Aside0.mk hrv1_
                clear hrv1_
                obtain ⟨rv2_, hrv2_⟩ : ∃ v_, v_ = (rdOf ByteArray.empty x0_2 ((x0_2.length : Int) - (y165.length : Int) + (ji16))) := ⟨_, rfl⟩
                rw [← hrv2_] at H
                have RV2_ := Aside0.mk hrv2_
                clear hrv2_
                by_cases c19 : rv1_.toList = rv2_.toList
                ·rw [if_pos c19] at H
                 have c19b0 : (rv1_.toList == rv2_.toList) = true := beq_iff_eq.mpr c19
                 have c19b1 : (rv1_.toList != rv2_.toList) = false := bne_eq_false_iff_eq.mpr c19
                 clear c19
                 have H' := Aside0.mk H
                 clear H
                 have p169 : 0 ≤ (x5_2 : Int) := q_d
                 have q169 : x5_2 < (y165.length : Int) := q_d
                 obtain ⟨ad169, e169, hx169_0⟩ := cut_at ByteArray.empty HO_0.out KA13.out (KY13.out.trans (by have h1_ := hl0_1; have h2_ := hl0_2; omega)) x5_2 p169 q169
                 rw [← RV1_.out] at hx169_0
                 cases e169
                 replace p169 := eq_true p169
                 replace q169 := eq_true q169
                 have p170 : 0 ≤ ((ji16) : Int) := q_d
                 have q170 : (ji16) < (y165.length : Int) := q_d
                 obtain ⟨ad170, e170, hx170_0⟩ := cut_at ByteArray.empty HO_0.out KA13.out (KY13.out.trans (by have h1_ := hl0_1; have h2_ := hl0_2; omega)) (ji16) p170 q170
                 rw [← RV2_.out] at hx170_0
                 obtain rfl : ad169 = ad170 := (by injection e170)
                 replace p170 := eq_true p170
                 replace q170 := eq_true q170
                 go_wp2
                 repeat (go_quiet (fail); try go_wp2)
                 (try simp only [← hl0_2])
                 go_roundg k2
                 case measure => have := HK1.out; have := HK2.out; omega
                 case rel => exact ⟨(x0_2), (x3_2), (wrap64 (x5_2 + 1)), q_i, q_i, H', ⟨by have := HK1.out; have := HK2.out; omega⟩, ⟨by (try simp only [hl0_1]); (try simp only [hl0_2]); (with_reducible repeat (first | apply Kd.R_alloc | apply Kd.R_drewN | apply Kd.R_drew)); exact HO_0.out⟩, ⟨q_k⟩, ⟨bq⟩⟩
                ·rw [if_neg c19] at H
                 have c19b0 : (rv1_.toList == rv2_.toList) = false := beq_eq_false_iff_ne.mpr c19
                 have c19b1 : (rv1_.toList != rv2_.toList) = true := bne_iff_ne.mpr c19
                 by_cases c20 : 0 ≤ x3_2
                 ·rw [if_pos c20] at H
                  have c20b0 := decide_eq_true c20
                  clear c20
                  by_cases c21 : x3_2 < (x0_2.length : Int)
                  ·rw [if_pos c21] at H
                   have c21b0 := decide_eq_true c21
                   clear c21
                   obtain ⟨y172, hy172⟩ : ∃ y_ : List ByteArray, y_ = (x0_2.set (x3_2 : Int).toNat rv1_) := ⟨_, rfl⟩
                   replace H : (slices_Compact_string.l1 k2 y172 (wrap64 (x3_2 + 1)) y165 (wrap64 (x5_2 + 1))) = some r := q_h hy172 H
                   have Ny172 := Aside0.mk hy172
                   clear hy172
                   have H' := Aside0.mk H
                   clear H
                   have p169 : 0 ≤ (x5_2 : Int) := q_d
                   have q169 : x5_2 < (y165.length : Int) := q_d
                   obtain ⟨ad169, e169, hx169_0⟩ := cut_at ByteArray.empty HO_0.out KA13.out (KY13.out.trans (by have h1_ := hl0_1; have h2_ := hl0_2; omega)) x5_2 p169 q169
                   rw [← RV1_.out] at hx169_0
                   cases e169
                   replace p169 := eq_true p169
                   replace q169 := eq_true q169
                   have p170 : 0 ≤ ((ji16) : Int) := q_d
                   have q170 : (ji16) < (y165.length : Int) := q_d
                   obtain ⟨ad170, e170, hx170_0⟩ := cut_at ByteArray.empty HO_0.out KA13.out (KY13.out.trans (by have h1_ := hl0_1; have h2_ := hl0_2; omega)) (ji16) p170 q170
                   rw [← RV2_.out] at hx170_0
                   obtain rfl : ad169 = ad170 := (by injection e170)
                   replace p170 := eq_true p170
                   replace q170 := eq_true q170
                   have p171 : 0 ≤ (x5_2 : Int) := q_d
                   have q171 : x5_2 < (y165.length : Int) := q_d
                   obtain ⟨ad171, e171, hx171_0⟩ := cut_at ByteArray.empty HO_0.out KA13.out (KY13.out.trans (by have h1_ := hl0_1; have h2_ := hl0_2; omega)) x5_2 p171 q171
                   rw [← RV1_.out] at hx171_0
                   obtain rfl : ad169 = ad171 := (by injection e171)
                   replace p171 := eq_true p171
                   replace q171 := eq_true q171
                   have p22 : 0 ≤ (x3_2 : Int) := q_d
                   have q22 : (x3_2 : Int) < ((x0_2.length : Int) : Int) := q_d
                   obtain ⟨go22, co22, eo22, gb22, gl22, cl22, HG22⟩ := Kd.R_form HO_0.out (by omega)
                   (first | cases eo22 | (injection eo22 with ea_ en_ ec_; (first | subst ea_ | (injection ea_ with ea_; subst ea_)); subst ec_; clear en_))
                   have GB22 := Aside0.mk gb22
                   have GG22 := Aside0.mk HG22
                   clear gb22 gl22 HG22
                   have HMgo22 := Aside0.mk (show (P0_ go_ ∨ w.heap.size ≤ go_) from (HO_0.out.1 _ rfl))
                   (first | simp only [add_plain] at hx163_0 | skip)
                   (first | simp only [add_plain] at hx164_0 | skip)
                   obtain ⟨hx22_0, hf22_0⟩ := Kd.R_celln (⟨#[]⟩ : ByteArray) HO_0.out (x3_2 : Int) p22 q22
                   replace p22 := eq_true p22
                   replace q22 := eq_true q22
                   have HP23 := Kd.R_putg HO_0.out (x3_2 : Int) rv1_
                   go_wp2_with (first | ((with_reducible refine gate_store (t := 9) (p := 51) rfl ?_); (try (rw [drewN_self wr]; generalize hq_ : World.drewN wr _ = wr; have n0_ := Aside0.mk (Kd.R_at hq_ HO_0.out); have n1_ := Aside0.mk (kept_at hq_ HK.out); have n2_ := Aside0.mk (below_at hq_ HB.out); clear hq_ HO_0 HK HB; revert n0_ n1_ n2_; intro HO_0 HK HB; (try (have HP23 := Kd.R_putg HO_0.out (x3_2 : Int) rv1_)); (try (obtain ⟨hxn_, hfn_⟩ := Kd.R_celln (⟨#[]⟩ : ByteArray) HO_0.out (x3_2 : Int) q_d q_d)))); refine store_event (t := 9) (p := 51) (v := ?vo_w24) (w1 := (wr.setCell ⟨go_, (x3_2 : Int).toNat, none⟩ (.string rv1_))) ?hg ?ho ?hn ?hr ?_; (case ho => rfl); (case hg => rfl); (case hn => rfl); (case hr => first | (go_simp; done) | (go_simp; rfl)); intro w24 hw; have hg : wr.grownBy w24 (some go_) := (by rw [hw]; exact HP23.2); have hp_ : Kd.R Kd.string 9 w24 w0.heap.size (fun k_ => (P0_ k_ ∨ w.heap.size ≤ k_)) (.slice (some ⟨go_, 0, none⟩) x0_2.length co4) y172 := (by rw [hw, Ny172.out]; exact HP23.1); clear HP23; have n0_ := Aside0.mk (hp_); have n1_ := Aside0.mk ((by rw [hw]; exact below_set (HB.out) GB22.out : Below w0.heap.size w0 w24)); have n2_ := Aside0.mk (Kept.of_grown (S := (fun k_ => P0_ k_)) hg q_k (fun k_ e_ => (HO_0.out.1 k_ e_))); revert n0_ n1_ n2_; clear HO_0 HB HK; intro HO_0 HB HK; clear hg hw hp_))
                   repeat (go_quiet (first | ((with_reducible refine gate_store (t := 9) (p := 51) rfl ?_); (try (rw [drewN_self wr]; generalize hq_ : World.drewN wr _ = wr; have n0_ := Aside0.mk (Kd.R_at hq_ HO_0.out); have n1_ := Aside0.mk (kept_at hq_ HK.out); have n2_ := Aside0.mk (below_at hq_ HB.out); clear hq_ HO_0 HK HB; revert n0_ n1_ n2_; intro HO_0 HK HB; (try (have HP23 := Kd.R_putg HO_0.out (x3_2 : Int) rv1_)); (try (obtain ⟨hxn_, hfn_⟩ := Kd.R_celln (⟨#[]⟩ : ByteArray) HO_0.out (x3_2 : Int) q_d q_d)))); refine store_event (t := 9) (p := 51) (v := ?vo_w24) (w1 := (wr.setCell ⟨go_, (x3_2 : Int).toNat, none⟩ (.string rv1_))) ?hg ?ho ?hn ?hr ?_; (case ho => rfl); (case hg => rfl); (case hn => rfl); (case hr => first | (go_simp; done) | (go_simp; rfl)); intro w24 hw; have hg : wr.grownBy w24 (some go_) := (by rw [hw]; exact HP23.2); have hp_ : Kd.R Kd.string 9 w24 w0.heap.size (fun k_ => (P0_ k_ ∨ w.heap.size ≤ k_)) (.slice (some ⟨go_, 0, none⟩) x0_2.length co4) y172 := (by rw [hw, Ny172.out]; exact HP23.1); clear HP23; have n0_ := Aside0.mk (hp_); have n1_ := Aside0.mk ((by rw [hw]; exact below_set (HB.out) GB22.out : Below w0.heap.size w0 w24)); have n2_ := Aside0.mk (Kept.of_grown (S := (fun k_ => P0_ k_)) hg q_k (fun k_ e_ => (HO_0.out.1 k_ e_))); revert n0_ n1_ n2_; clear HO_0 HB HK; intro HO_0 HB HK; clear hg hw hp_)); try go_wp2_with (first | ((with_reducible refine gate_store (t := 9) (p := 51) rfl ?_); (try (rw [drewN_self wr]; generalize hq_ : World.drewN wr _ = wr; have n0_ := Aside0.mk (Kd.R_at hq_ HO_0.out); have n1_ := Aside0.mk (kept_at hq_ HK.out); have n2_ := Aside0.mk (below_at hq_ HB.out); clear hq_ HO_0 HK HB; revert n0_ n1_ n2_; intro HO_0 HK HB; (try (have HP23 := Kd.R_putg HO_0.out (x3_2 : Int) rv1_)); (try (obtain ⟨hxn_, hfn_⟩ := Kd.R_celln (⟨#[]⟩ : ByteArray) HO_0.out (x3_2 : Int) q_d q_d)))); refine store_event (t := 9) (p := 51) (v := ?vo_w24) (w1 := (wr.setCell ⟨go_, (x3_2 : Int).toNat, none⟩ (.string rv1_))) ?hg ?ho ?hn ?hr ?_; (case ho => rfl); (case hg => rfl); (case hn => rfl); (case hr => first | (go_simp; done) | (go_simp; rfl)); intro w24 hw; have hg : wr.grownBy w24 (some go_) := (by rw [hw]; exact HP23.2); have hp_ : Kd.R Kd.string 9 w24 w0.heap.size (fun k_ => (P0_ k_ ∨ w.heap.size ≤ k_)) (.slice (some ⟨go_, 0, none⟩) x0_2.length co4) y172 := (by rw [hw, Ny172.out]; exact HP23.1); clear HP23; have n0_ := Aside0.mk (hp_); have n1_ := Aside0.mk ((by rw [hw]; exact below_set (HB.out) GB22.out : Below w0.heap.size w0 w24)); have n2_ := Aside0.mk (Kept.of_grown (S := (fun k_ => P0_ k_)) hg q_k (fun k_ e_ => (HO_0.out.1 k_ e_))); revert n0_ n1_ n2_; clear HO_0 HB HK; intro HO_0 HB HK; clear hg hw hp_)))
                   (try simp only [← hl0_2])
                   go_roundg k2
                   case measure => have := HK1.out; have := HK2.out; omega
                   case rel => exact ⟨(y172), (wrap64 (x3_2 + 1)), (wrap64 (x5_2 + 1)), q_i, q_i, H', ⟨by have := HK1.out; have := HK2.out; omega⟩, ⟨by (try simp only [hl0_1]); (try simp only [hl0_2]); (with_reducible repeat (first | apply Kd.R_alloc | apply Kd.R_drewN | apply Kd.R_drew)); exact HO_0.out⟩, ⟨q_k⟩, ⟨bq⟩⟩
                  ·rw [if_neg c21] at H
                   exact absurd H (by simp)
                 ·rw [if_neg c20] at H
                  exact absurd H (by simp)
               ·rw [if_neg c18] at H
                exact absurd H (by simp)
              ·rw [if_neg c17] at H
               exact absurd H (by simp)
             ·rw [if_neg c15] at H
              exact absurd H (by simp)
            ·rw [if_neg c14] at H
             have c14b0 := decide_eq_false c14
             clear c14
             have cq_ : x3_2 < (x0_2.length : Int) := by
              by_cases h_ : x3_2 < (x0_2.length : Int)
              ·exact h_
              ·rw [if_neg h_] at H
               exact absurd H (by simp)
             rw [if_pos cq_] at H
             have CQ_ := Aside0.mk cq_
             clear cq_
             by_cases c25 : 0 ≤ x3_2
             ·rw [if_pos c25] at H
              have c25b0 := eq_true c25
              have c25b1 := decide_eq_true c25
              clear c25
              by_cases c26 : x3_2 ≤ (x0_2.length : Int)
              ·rw [if_pos c26] at H
               have c26b0 := eq_true c26
               have c26b1 := decide_eq_true c26
               clear c26
               obtain ⟨y173, hy173⟩ : ∃ y_ : List ByteArray, y_ = (x0_2.drop (x3_2 : Int).toNat) := ⟨_, rfl⟩
               replace H : (some (x0_2.take (x3_2 : Int).toNat)) = some r := q_h hy173 H
               have Ny173 := Aside0.mk hy173
               clear hy173
               have c27b0 := eq_true (q_d : x3_2 ≤ (x0_2.length : Int))
               obtain ⟨y177, hy177⟩ : ∃ y_ : List ByteArray, y_ = (x0_2.take (x3_2 : Int).toNat) := ⟨_, rfl⟩
               replace H : (some y177) = some r := q_h hy177 H
               have Ny177 := Aside0.mk hy177
               clear hy177
               obtain rfl := Option.some.inj H
               have q28 : (x3_2 : Int) ≤ ((x0_2.length : Int) : Int) := q_d
               obtain ⟨i028, hi028, _, hsz28, _⟩ := info_parts info9
               have hroom28 : x0_2.length ≤ co4 := (Kd.R_reads' HO_0.out).2.1
               have hC28 : Kd.C Kd.string _ (some ⟨go_, 0, none⟩) x0_2.length x0_2 := (Kd.R_reads' HO_0.out).2.2
               have q028 : (0 : Int) ≤ (x3_2 : Int) := q_d
               have hcut28 := cut_from (P := Try.prog) 61 9 .i64 Try.underlying61 hi028 1 hsz28 (some ⟨go_, 0, none⟩) x0_2.length co4 x3_2 q028 q28
               have hr28 := Kd.C_drop (m := (x3_2 : Int).toNat) (c := co4) hC28 (by omega) hroom28
               obtain ⟨A28, hA28⟩ : ∃ A1, A1 = (if co4 = (x3_2 : Int).toNat then (some ⟨go_, 0, none⟩) else ((some ⟨go_, 0, none⟩) : Option Addr).map (·.add ((x3_2 : Int).toNat * 1))) := ⟨_, rfl⟩
               obtain ⟨c28, hc28⟩ : ∃ c1, c1 = co4 - (x3_2 : Int).toNat := ⟨_, rfl⟩
               have hy28 : y173.length = x0_2.length - (x3_2 : Int).toNat := (by rw [Ny173.out, List.length_drop] <;> omega)
               rw [show (x0_2).drop (x3_2 : Int).toNat = y173 from Ny173.out.symm] at hr28
               replace hr28 : Kd.C Kd.string _ A28 y173.length y173 := (by rw [hA28]; exact hr28)
               rw [← hy28, ← hA28, ← hc28] at hcut28
               have HR176 := Aside0.mk hr28
               have HC176 := Aside0.mk (show y173.length ≤ c28 from by rw [hy28, hc28]; exact Nat.sub_le_sub_right hroom28 _)
               clear hr28 hC28 hroom28 hi028 hsz28 hc28
               have KY28 := Aside0.mk hy28
               have KA28 := Aside0.mk hA28
               clear hy28 hA28
               have KL28 := Aside0.mk (show (x3_2 : Int).toNat ≤ x0_2.length from by omega)
               replace q28 := eq_true q28
               have q29 : (x3_2 : Int) ≤ ((x0_2.length : Int) : Int) := q_d
               obtain ⟨i029, hi029, _, hsz29, _⟩ := info_parts info9
               have hcut29 := cut_to (P := Try.prog) 61 9 .i64 Try.underlying61 hi029 (some ⟨go_, 0, none⟩) x0_2.length co4 x3_2 q_d q29 (Kd.R_reads' HO_0.out).2.1
               have hy29 : y177.length = (x3_2 : Int).toNat := (by rw [Ny177.out, List.length_take]; omega)
               rw [← hy29] at hcut29
               have KW_ := Aside0.mk hy29
               clear hy29 hi029 hsz29
               replace q29 := eq_true q29
               have c0q_ := Aside0.mk (decide_eq_true (show (0 : Int) ≤ x3_2 from q_d))
               go_wp2_with (first | ((with_reducible refine gate_builtin (b := .clear) (xs := #[.tmp 56]) rfl ?_); refine clear_event rfl (.tmp 56) 61 9 (.string ⟨#[]⟩) rfl Try.underlying61 (fun w_ => by kernel_rfl) rfl rfl (q_r (HO_0.out)) (by first | rfl | exact hl0_2 | omega) (k := x3_2) (of_decide_eq_true c0q_.out) CQ_.out KA28.out (KY28.out.trans (by first | rfl | omega)) rfl ?_; intro wc_ hc_ hgc_; have n0_ := Aside0.mk (show Kd.R Kd.string 9 wc_ w0.heap.size _ (.slice _ y177.length _) y177 from (by rw [show y177 = _ from Ny177.out, show List.length (List.take _ _) = (x3_2 : Int).toNat from (by rw [← show y177 = _ from Ny177.out]; exact KW_.out)]; exact hc_)); have n1_ := Aside0.mk (show Below w0.heap.size w0 wc_ from Below.grown (B := w0.heap.size) (a := w0) bq hgc_ (below_size bq) (fun k_ hk_ => Kd.R_base HO_0.out k_ hk_)); have n2_ := Aside0.mk (show Kept w wc_ (fun k_ => P0_ k_) from Kept.of_grown (S := (fun k_ => P0_ k_)) hgc_ q_k (fun k_ e_ => (HO_0.out.1 k_ e_))); clear HO_0 HB HK; have HO179 := n0_; have HB := n1_; have HK := n2_; clear n0_ n1_ n2_ hc_ hgc_))
               repeat (go_quiet (first | ((with_reducible refine gate_builtin (b := .clear) (xs := #[.tmp 56]) rfl ?_); refine clear_event rfl (.tmp 56) 61 9 (.string ⟨#[]⟩) rfl Try.underlying61 (fun w_ => by kernel_rfl) rfl rfl (q_r (HO_0.out)) (by first | rfl | exact hl0_2 | omega) (k := x3_2) (of_decide_eq_true c0q_.out) CQ_.out KA28.out (KY28.out.trans (by first | rfl | omega)) rfl ?_; intro wc_ hc_ hgc_; have n0_ := Aside0.mk (show Kd.R Kd.string 9 wc_ w0.heap.size _ (.slice _ y177.length _) y177 from (by rw [show y177 = _ from Ny177.out, show List.length (List.take _ _) = (x3_2 : Int).toNat from (by rw [← show y177 = _ from Ny177.out]; exact KW_.out)]; exact hc_)); have n1_ := Aside0.mk (show Below w0.heap.size w0 wc_ from Below.grown (B := w0.heap.size) (a := w0) bq hgc_ (below_size bq) (fun k_ hk_ => Kd.R_base HO_0.out k_ hk_)); have n2_ := Aside0.mk (show Kept w wc_ (fun k_ => P0_ k_) from Kept.of_grown (S := (fun k_ => P0_ k_)) hgc_ q_k (fun k_ e_ => (HO_0.out.1 k_ e_))); clear HO_0 HB HK; have HO179 := n0_; have HB := n1_; have HK := n2_; clear n0_ n1_ n2_ hc_ hgc_)); try go_wp2_with (first | ((with_reducible refine gate_builtin (b := .clear) (xs := #[.tmp 56]) rfl ?_); refine clear_event rfl (.tmp 56) 61 9 (.string ⟨#[]⟩) rfl Try.underlying61 (fun w_ => by kernel_rfl) rfl rfl (q_r (HO_0.out)) (by first | rfl | exact hl0_2 | omega) (k := x3_2) (of_decide_eq_true c0q_.out) CQ_.out KA28.out (KY28.out.trans (by first | rfl | omega)) rfl ?_; intro wc_ hc_ hgc_; have n0_ := Aside0.mk (show Kd.R Kd.string 9 wc_ w0.heap.size _ (.slice _ y177.length _) y177 from (by rw [show y177 = _ from Ny177.out, show List.length (List.take _ _) = (x3_2 : Int).toNat from (by rw [← show y177 = _ from Ny177.out]; exact KW_.out)]; exact hc_)); have n1_ := Aside0.mk (show Below w0.heap.size w0 wc_ from Below.grown (B := w0.heap.size) (a := w0) bq hgc_ (below_size bq) (fun k_ hk_ => Kd.R_base HO_0.out k_ hk_)); have n2_ := Aside0.mk (show Kept w wc_ (fun k_ => P0_ k_) from Kept.of_grown (S := (fun k_ => P0_ k_)) hgc_ q_k (fun k_ e_ => (HO_0.out.1 k_ e_))); clear HO_0 HB HK; have HO179 := n0_; have HB := n1_; have HK := n2_; clear n0_ n1_ n2_ hc_ hgc_)))
               go_ret
               exact ⟨_, by first | rfl | (simp [errW_none, errW_some] <;> rfl) | (simp only [← hji7]; first | rfl | (simp [errW_none, errW_some] <;> rfl)) | (simp [*, errW_none, errW_some] <;> rfl), q_r (HO179.out), bq, q_k⟩
              ·rw [if_neg c26] at H
               exact absurd H (by simp)
             ·rw [if_neg c25] at H
              exact absurd H (by simp)
         ·rw [if_neg c12] at H
          exact absurd H (by simp)
        ·rw [if_neg c10] at H
         have c10b0 : ((rdOf ByteArray.empty x0_1 x3_1).toList == (rdOf ByteArray.empty x0_1 (ji7)).toList) = false := beq_eq_false_iff_ne.mpr c10
         have c10b1 : ((rdOf ByteArray.empty x0_1 x3_1).toList != (rdOf ByteArray.empty x0_1 (ji7)).toList) = true := bne_iff_ne.mpr c10
         have H' := Aside0.mk H
         clear H
         have p163 : 0 ≤ (x3_1 : Int) := q_d
         have q163 : x3_1 < (x0_1.length : Int) := q_d
         obtain ⟨adq_, e163, hx163_0⟩ := Kd.at_string (Kd.R_reads' HO_0.out).2.2 x3_1 p163 q163
         cases e163
         (try simp only [add_plain] at hx163_0)
         replace p163 := eq_true p163
         replace q163 := eq_true q163
         have p164 : 0 ≤ ((ji7) : Int) := q_d
         have q164 : (ji7) < (x0_1.length : Int) := q_d
         obtain ⟨ad164, e164, hx164_0⟩ := Kd.at_string (Kd.R_reads' HO_0.out).2.2 (ji7) p164 q164
         cases e164
         (try simp only [add_plain] at hx164_0)
         replace p164 := eq_true p164
         replace q164 := eq_true q164
         go_wp2
         repeat (go_quiet (fail); try go_wp2)
         (try simp only [← hl0_1])
         go_roundg k1
         case measure => have := HK1.out; omega
         case rel => exact ⟨(x0_1), (wrap64 (x3_1 + 1)), q_i, H', ⟨by have := HK1.out; omega⟩, ⟨by (try simp only [hl0_1]); (with_reducible repeat (first | apply Kd.R_alloc | apply Kd.R_drewN | apply Kd.R_drew)); exact HO_0.out⟩, ⟨q_k⟩, ⟨bq⟩⟩
       ·rw [if_neg c9] at H
        exact absurd H (by simp)
      ·rw [if_neg c8] at H
       exact absurd H (by simp)
     ·rw [if_neg c6] at H
      exact absurd H (by simp)
    ·rw [if_neg c5] at H
     have c5b0 := decide_eq_false c5
     clear c5
     obtain rfl := Option.some.inj H
     go_wp2
     repeat (go_quiet (fail); try go_wp2)
     go_ret
     exact ⟨_, q_e, q_r (HO_0.out), bq, q_k⟩

/-! ### impl_keysOf: function 93 -/
def impl_keysOf.l0 : Nat → List ByteArray → List (S49) → Int → Int → Option (List ByteArray)
  | 0, _, _, _, _ => none
  | k + 1, x3, x7, x8, x9 => if x9 < x8 then (if 0 ≤ x9 then (if x9 < (x7.length : Int) then (if x3.length < 8796093022208 then (impl_keysOf.l0 k (x3 ++ [(rd_T49 x7 x9).f0]) x7 x8 (wrap64 (x9 + 1))) else (none)) else (none)) else (none)) else ((slices_Compact_string.f k x3).bind fun t188 => (some t188))
def impl_keysOf.f (k : Nat) (l0 : List (S49)) : Option (List ByteArray) := impl_keysOf.l0 k (([] : List ByteArray)) l0 (l0.length : Int) 0
set_option maxHeartbeats 8000000 in
set_option maxRecDepth 100000 in
theorem impl_keysOf.calls (k : Nat) (A0 : Option Addr) (c0 : Nat) (l0 : List (S49)) (r : List ByteArray) (w : World) (hr0 : Kd.C k49 w A0 l0.length l0) (hc0 : l0.length ≤ c0) (h : impl_keysOf.f k l0 = some r) :
  Calls Try.prog 93 #[.slice A0 l0.length c0] w fun e w' => ∃ v0_ : Value, e = .returned (v0_) ∧ Kd.R Kd.string 9 w' w.heap.size (fun _ => True) v0_ r ∧ Below w.heap.size w w' := by
 have hu49 := Try.underlying49
 have HR0 := Aside0.mk hr0
 have HC0 := Aside0.mk hc0
 clear hr0 hc0
 have HB := Aside0.mk (Below.refl w.heap.size w)
 have H : (impl_keysOf.l0 k (([] : List ByteArray)) l0 (l0.length : Int) 0) = some r := h
 clear h
 obtain ⟨y180, hy180⟩ : ∃ y_ : List ByteArray, y_ = (([] : List ByteArray)) := ⟨_, rfl⟩
 replace H : (impl_keysOf.l0 k y180 l0 (l0.length : Int) 0) = some r := q_h hy180 H
 have Ny180 := Aside0.mk hy180
 clear hy180
 have H' := Aside0.mk H
 clear H
 go_enter Try.func93, Try.ntmps93
 go_wp2_with (first | ((with_reducible refine gate_dst (N := 6) rfl ?_); refine Kd.R_lit Kd.string _ 9 ?hg (N := 6) ?hd (xs := ([] : List ByteArray)) (inner := []) (ok := fun _ => True) (okp := fun _ => True) ?hr ?hp (fun _ hk => hk) trivial (Below.refl _ _) (Nat.le_refl _) (by simp) ?_; (case hd => rfl); (case hg => rfl); (case hr => first | (go_simp; done) | (go_simp; rfl)); (case hp => exact (Reps.none _ _)); intro v181 w2 ho3 hb hg_ hnew_; clear hg_ hnew_; (first | rw [← Ny180.out] at ho3 | (simp only [Int.reduceToNat] at ho3; rw [← Ny180.out] at ho3)); have n0_ := Aside0.mk (Kd.R_lower ho3 (below_size bq)); have n1_ := Aside0.mk (below_step bq hb); revert n0_ n1_; clear HB; intro HO182 HB; clear hb ho3))
 go_loopg [3, 9] k (fun kq v3 v9 w' => ∃ (x3_1 : List ByteArray) (x9_1 : Int), v9 = .int .i64 x9_1 ∧ Aside0 (impl_keysOf.l0 kq x3_1 l0 (l0.length : Int) x9_1 = some r) ∧ Aside0 (kq ≤ k) ∧ Aside0 (Kd.R Kd.string 9 w' w.heap.size (fun _ => True) v3 x3_1) ∧ Aside0 (Below w.heap.size w w'))
 case atStart => exact ⟨(y180), (0), q_i, H', ⟨Nat.le_refl _⟩, ⟨q_r (HO182.out)⟩, ⟨bq⟩⟩
 case round =>
  clear H'
  (try clear p2)
  obtain ⟨x3_1, x9_1, rfl, HA, HK1, HO_3, HB⟩ := hrel
  cases gk with
  | zero => exact absurd HA.out (by simp [impl_keysOf.l0])
  | succ k1 =>
   have H := HA.out
   clear HA
   simp only [impl_keysOf.l0] at H
   by_cases c4 : x9_1 < (l0.length : Int)
   ·rw [if_pos c4] at H
    have c4b0 := decide_eq_true c4
    clear c4
    by_cases c5 : 0 ≤ x9_1
    ·rw [if_pos c5] at H
     have c5b0 := decide_eq_true c5
     clear c5
     by_cases c6 : x9_1 < (l0.length : Int)
     ·rw [if_pos c6] at H
      have c6b0 := decide_eq_true c6
      clear c6
      by_cases c7 : x3_1.length < 8796093022208
      ·rw [if_pos c7] at H
       have LMc7 := Aside0.mk c7
       clear c7
       obtain ⟨y185, hy185⟩ : ∃ y_ : List ByteArray, y_ = (x3_1 ++ [(rd_T49 l0 x9_1).f0]) := ⟨_, rfl⟩
       replace H : (impl_keysOf.l0 k1 y185 l0 (l0.length : Int) (wrap64 (x9_1 + 1))) = some r := q_h hy185 H
       have Ny185 := Aside0.mk hy185
       clear hy185
       have H' := Aside0.mk H
       clear H
       have p183 : 0 ≤ (x9_1 : Int) := q_d
       have q183 : x9_1 < (l0.length : Int) := q_d
       obtain ⟨ad183, e183, hx183_0, hx183_1, hx183_2, hx183_3⟩ := at_T49 HR0.out x9_1 p183 q183
       cases e183
       replace hx183_0 := q_x HB.out hx183_0
       replace hx183_1 := q_x HB.out hx183_1
       replace hx183_2 := q_x HB.out hx183_2
       replace hx183_3 := q_x HB.out hx183_3
       replace p183 := eq_true p183
       replace q183 := eq_true q183
       go_wp2_with (first | ((with_reducible refine gate_dst (N := 5) rfl ?_); refine q_box (N := 5) (cs := #[.string (⟨#[]⟩ : ByteArray), .int .i64 0, .string (⟨#[]⟩ : ByteArray), .bool false]) (t := 49) ?_; intro gb184 hg w8 hbox hb; have n0_ := Aside0.mk (Kd.R_below (q_r (HO_3.out)) hb); have n1_ := Aside0.mk (below_step bq hb); have n2_ := Aside0.mk (hbox); have n3_ := Aside0.mk ((q_g hg bq : w.heap.size ≤ gb184)); have n4_ := Aside0.mk ((q_g hg bq : w.heap.size ≤ gb184)); revert n0_ n1_ n2_ n3_ n4_; clear HO_3 HB; intro HO_3 HB BK184 GW184 GE184; clear hb hbox hg; obtain ⟨hcz9_0, hcz9_1, hcz9_2, hcz9_3, hfz9_0, hfz9_1, hfz9_2, hfz9_3⟩ := q_4 BK184.out) | ((with_reducible refine gate_builtin (b := .append) (xs := #[.tmp 13, .tmp 16]) rfl ?_); at_builtin; refine Kd.R_append Kd.string (w0 := w) w.heap.size rfl (.tmp 13) (.tmp 16) 61 9 (.string ⟨#[]⟩) 16 rfl Try.underlying61 info9 rfl (by decide) (by omega) u3 x3_1 ((rd_T49 l0 x9_1).f0) [.string ((rd_T49 l0 x9_1).f0)] (fun _ => True) (fun _ => False) rfl (by first | (go_simp; done) | (go_simp; rfl)) ?aP (fun _ hk => hk.elim) ?aF ?aO ?aB ?aS ?aL ?_; (case aP => exact rfl); (case aB => exact bq); (case aF => exact (fun _ _ => trivial)); (case aO => exact (by (with_reducible repeat (first | apply Kd.R_alloc | apply Kd.R_drewN | apply Kd.R_drew)); exact Kd.R_mono (Kd.R_far (p := ⟨gb184, 3, none⟩) (Kd.R_far (p := ⟨gb184, 2, none⟩) (Kd.R_far (p := ⟨gb184, 1, none⟩) (Kd.R_far (p := ⟨gb184, 0, none⟩) (Kd.R_types HO_3.out BK184.out (by decide)) (fun _ hk => hk.2) (.string ((rd_T49 l0 x9_1).f0))) (fun _ hk => hk.2) (.int .i64 ((rd_T49 l0 x9_1).f1))) (fun _ hk => hk.2) (.string ((rd_T49 l0 x9_1).f2))) (fun _ hk => hk.2) (.bool ((rd_T49 l0 x9_1).f3))) (fun _ hk => trivial))); (case aS => exact (below_size bq)); (case aL => have := LMc7.out; omega); intro v186 w10 ho hb hg hat; rw [← Ny185.out] at ho; have n0_ := Aside0.mk (blk_grown (g := gb184) (o := .cells #[.string ((rd_T49 l0 x9_1).f0), .int .i64 ((rd_T49 l0 x9_1).f1), .string ((rd_T49 l0 x9_1).f2), .bool ((rd_T49 l0 x9_1).f3)] 49 (0, 0)) (by (with_reducible repeat (first | refine blk_drewN ?_ _ | refine blk_drew ?_ | refine blk_alloc ?_ _)); refine blk_put (cs := #[.string ((rd_T49 l0 x9_1).f0), .int .i64 ((rd_T49 l0 x9_1).f1), .string ((rd_T49 l0 x9_1).f2), .bool false]) ?_ 3 _ rfl; (with_reducible repeat (first | refine blk_drewN ?_ _ | refine blk_drew ?_ | refine blk_alloc ?_ _)); refine blk_put (cs := #[.string ((rd_T49 l0 x9_1).f0), .int .i64 ((rd_T49 l0 x9_1).f1), .string (⟨#[]⟩ : ByteArray), .bool false]) ?_ 2 _ rfl; (with_reducible repeat (first | refine blk_drewN ?_ _ | refine blk_drew ?_ | refine blk_alloc ?_ _)); refine blk_put (cs := #[.string ((rd_T49 l0 x9_1).f0), .int .i64 0, .string (⟨#[]⟩ : ByteArray), .bool false]) ?_ 1 _ rfl; (with_reducible repeat (first | refine blk_drewN ?_ _ | refine blk_drew ?_ | refine blk_alloc ?_ _)); refine blk_put (cs := #[.string (⟨#[]⟩ : ByteArray), .int .i64 0, .string (⟨#[]⟩ : ByteArray), .bool false]) ?_ 0 _ rfl; (with_reducible repeat (first | refine blk_drewN ?_ _ | refine blk_drew ?_ | refine blk_alloc ?_ _)); exact BK184.out) hg (Kd.R_ne HO_3.out BK184.out (by decide))); have n1_ := Aside0.mk (hb); have n2_ := Aside0.mk (ho); revert n0_ n1_ n2_; clear BK184 HB HO_3; intro BK184 HB HO187; clear ho hb hg hat))
       go_roundg k1
       case measure => have := HK1.out; omega
       case rel => exact ⟨(y185), (wrap64 (x9_1 + 1)), q_i, H', ⟨by have := HK1.out; omega⟩, ⟨q_r (HO187.out)⟩, ⟨bq⟩⟩
      ·rw [if_neg c7] at H
       exact absurd H (by simp)
     ·rw [if_neg c6] at H
      exact absurd H (by simp)
    ·rw [if_neg c5] at H
     exact absurd H (by simp)
   ·rw [if_neg c4] at H
    have c4b0 := decide_eq_false c4
    clear c4
    replace H := Option.bind_eq_some_iff.mp H
    obtain ⟨t188, A110, H⟩ := H
    replace H : (some t188) = some r := H
    have A11 := Aside0.mk A110
    clear A110
    obtain rfl := Option.some.inj H
    obtain ⟨Ao12, co12, eo12⟩ := Kd.R_slice HO_3.out
    subst eo12
    go_wp2_with (first | ((with_reducible refine gate_callee (f := 118) rfl ?_); refine goesLq (some 20) rfl rfl Try.func118 (by kernel_rfl) rfl #[.slice Ao12 x3_1.length co12] rfl ?_; (with_reducible refine (slices_Compact_string.calls k1 (fun k_ => some k_ = (.slice Ao12 x3_1.length co12 : Value).ownBlock) (.slice Ao12 x3_1.length co12) x3_1 t188 w _ ?side1 ?side2 A11.out).mono ?_); (case side1 => repeat (first | (with_reducible first | exact HB.out | apply below_alloc | apply pw_below_drewN | apply below_drew1) | exact HB.out)); (case side2 => exact Kd.R_tight rfl HO_3.out); rintro e w13 ⟨v189, rfl, ho0, hb, hkp⟩; refine ⟨_, rfl, ?_⟩; have n0_ := Aside0.mk (Kd.R_mono (ok' := fun k_ => True) ho0 (fun k_ hk_ => trivial)); have n1_ := Aside0.mk (hb); revert n0_ n1_; clear HB HO_3; intro HO190 HB; (try clear hb); (try clear hkp); (try clear ho0)))
    go_ret
    exact ⟨_, q_e, q_r (HO190.out), bq⟩

/-! ### impl_KeysOf: function 43 -/
def impl_KeysOf.f (k : Nat) (l0 : List (S49)) : Option (Int × List ByteArray) := (impl_TableFault.f k l0).bind fun t192 => (if t192 = 0 then ((impl_keysOf.f k l0).bind fun t193 => (some (0, t193))) else (some (t192, ([] : List ByteArray))))
set_option maxHeartbeats 8000000 in
set_option maxRecDepth 100000 in
theorem impl_KeysOf.calls (k : Nat) (A0 : Option Addr) (c0 : Nat) (l0 : List (S49)) (r1 : Int) (r2 : List ByteArray) (w : World) (hr0 : Kd.C k49 w A0 l0.length l0) (hc0 : l0.length ≤ c0) (h : impl_KeysOf.f k l0 = some (r1, r2)) :
  Calls Try.prog 43 #[.slice A0 l0.length c0] w fun e w' => ∃ v1_ : Value, e = .returned (.agg #[.int .i64 r1, v1_]) ∧ Kd.R Kd.string 9 w' w.heap.size (fun _ => True) v1_ r2 ∧ Below w.heap.size w w' := by
 have hu63 := Try.underlying63
 have HR0 := Aside0.mk hr0
 have HC0 := Aside0.mk hc0
 clear hr0 hc0
 have HB := Aside0.mk (Below.refl w.heap.size w)
 have H : ((impl_TableFault.f k l0).bind fun t192 => (if t192 = 0 then ((impl_keysOf.f k l0).bind fun t193 => (some (0, t193))) else (some (t192, ([] : List ByteArray))))) = some (r1, r2) := h
 clear h
 replace H := Option.bind_eq_some_iff.mp H
 obtain ⟨t192, A20, H⟩ := H
 replace H : (if t192 = 0 then ((impl_keysOf.f k l0).bind fun t193 => (some (0, t193))) else (some (t192, ([] : List ByteArray)))) = some (r1, r2) := H
 have A2 := Aside0.mk A20
 clear A20
 by_cases c3 : t192 = 0
 ·rw [if_pos c3] at H
  have c3b0 : (t192 == 0) = true := beq_iff_eq.mpr c3
  have c3b1 : (t192 != 0) = false := bne_eq_false_iff_eq.mpr c3
  clear c3
  replace H := Option.bind_eq_some_iff.mp H
  obtain ⟨t193, A40, H⟩ := H
  replace H : (some (0, t193)) = some (r1, r2) := H
  have A4 := Aside0.mk A40
  clear A40
  simp only [Option.some.injEq, Prod.mk.injEq] at H
  obtain ⟨rfl, rfl⟩ := H
  go_enter Try.func43, Try.ntmps43
  go_wp2_with (first | ((with_reducible refine gate_dst (N := 2) rfl ?_); refine q_box (N := 2) (cs := #[.int .i64 0, .slice none 0 0]) (t := 63) ?_; intro gb191 hg w5 hbox hb; have n0_ := Aside0.mk (below_step bq hb); have n1_ := Aside0.mk (hbox); have n2_ := Aside0.mk ((q_g hg bq : w.heap.size ≤ gb191)); have n3_ := Aside0.mk ((q_g hg bq : w.heap.size ≤ gb191)); revert n0_ n1_ n2_ n3_; clear HB; intro HB BK191 GW191 GE191; clear hb hbox hg) | ((with_reducible refine gate_callee (f := 18) rfl ?_); refine goesLq (some 5) rfl rfl Try.func18 (by kernel_rfl) rfl #[.slice A0 l0.length c0] rfl ?_; (with_reducible refine (impl_TableFault.calls k _ _ l0 t192 _ ?side1 ?side2 A2.out).mono ?_); (case side1 => exact q_c ((Kd.C_below HR0.out HB.out))); (case side2 => exact HC0.out); rintro e w6 ⟨rfl, hb⟩; refine ⟨_, rfl, ?_⟩; have n0_ := Aside0.mk (blk_below (q_b BK191.out) hb); have n1_ := Aside0.mk (below_step bq hb); revert n0_ n1_; clear BK191 HB; intro BK191 HB; (try clear hb); (try clear hb2); (try clear hk); (try clear hi)) | ((with_reducible refine gate_callee (f := 93) rfl ?_); refine goesLq (some 11) rfl rfl Try.func93 (by kernel_rfl) rfl #[.slice A0 l0.length c0] rfl ?_; (with_reducible refine (impl_keysOf.calls k _ _ l0 t193 _ ?side1 ?side2 A4.out).mono ?_); (case side1 => exact q_c ((Kd.C_below HR0.out HB.out))); (case side2 => exact HC0.out); rintro e w7 ⟨v194, rfl, ho0, hb⟩; refine ⟨_, rfl, ?_⟩; have n0_ := Aside0.mk (Kd.R_lower ho0 (below_size bq)); have n1_ := Aside0.mk (blk_below (q_b BK191.out) hb); have n2_ := Aside0.mk (below_step bq hb); revert n0_ n1_ n2_; clear BK191 HB; intro HO195 BK191 HB; (try clear hb); (try clear hb2); (try clear hk); (try clear hi); (try clear ho0); obtain ⟨Ao8, co8, eo8⟩ := Kd.R_slice HO195.out; subst eo8; obtain ⟨hcz9_0, hcz9_1, hfz9_0, hfz9_1⟩ := q_2 BK191.out))
  refine bodyPost_ret (results_cell_row rfl _ _ gb191 63 #[.int .i64 0, .slice Ao8 t193.length co8] (0, 0) _ rfl (by (with_reducible repeat (first | refine blk_drewN ?_ _ | refine blk_drew ?_ | refine blk_alloc ?_ _)); refine blk_put (cs := #[.int .i64 0, .slice none 0 0]) ?_ 1 _ rfl; (with_reducible repeat (first | refine blk_drewN ?_ _ | refine blk_drew ?_ | refine blk_alloc ?_ _)); refine blk_put (cs := #[.int .i64 0, .slice none 0 0]) ?_ 0 _ rfl; (with_reducible repeat (first | refine blk_drewN ?_ _ | refine blk_drew ?_ | refine blk_alloc ?_ _)); exact BK191.out) Try.underlying63 rfl (by kernel_rfl)) rfl ?_
  exact ⟨_, q_e, by (with_reducible repeat (first | apply Kd.R_alloc | apply Kd.R_drewN | apply Kd.R_drew)); exact Kd.R_mono (Kd.R_far (p := ⟨gb191, 1, none⟩) (Kd.R_far (p := ⟨gb191, 0, none⟩) (Kd.R_types HO195.out BK191.out (by decide)) (fun _ hk => hk.2) (.int .i64 0)) (fun _ hk => hk.2) (.slice Ao8 t193.length co8)) (fun _ hk => trivial), bq⟩
 ·rw [if_neg c3] at H
  have c3b0 : (t192 == 0) = false := beq_eq_false_iff_ne.mpr c3
  have c3b1 : (t192 != 0) = true := bne_iff_ne.mpr c3
  simp only [Option.some.injEq, Prod.mk.injEq] at H
  obtain ⟨rfl, rfl⟩ := H
  go_enter Try.func43, Try.ntmps43
  go_wp2_with (first | ((with_reducible refine gate_dst (N := 2) rfl ?_); refine q_box (N := 2) (cs := #[.int .i64 0, .slice none 0 0]) (t := 63) ?_; intro gb191 hg w10 hbox hb; have n0_ := Aside0.mk (below_step bq hb); have n1_ := Aside0.mk (hbox); have n2_ := Aside0.mk ((q_g hg bq : w.heap.size ≤ gb191)); have n3_ := Aside0.mk ((q_g hg bq : w.heap.size ≤ gb191)); revert n0_ n1_ n2_ n3_; clear HB; intro HB BK191 GW191 GE191; clear hb hbox hg) | ((with_reducible refine gate_callee (f := 18) rfl ?_); refine goesLq (some 5) rfl rfl Try.func18 (by kernel_rfl) rfl #[.slice A0 l0.length c0] rfl ?_; (with_reducible refine (impl_TableFault.calls k _ _ l0 t192 _ ?side1 ?side2 A2.out).mono ?_); (case side1 => exact q_c ((Kd.C_below HR0.out HB.out))); (case side2 => exact HC0.out); rintro e w11 ⟨rfl, hb⟩; refine ⟨_, rfl, ?_⟩; have n0_ := Aside0.mk (blk_below (q_b BK191.out) hb); have n1_ := Aside0.mk (below_step bq hb); revert n0_ n1_; clear BK191 HB; intro BK191 HB; (try clear hb); (try clear hb2); (try clear hk); (try clear hi); obtain ⟨hcz12_0, hcz12_1, hfz12_0, hfz12_1⟩ := q_2 BK191.out))
  refine bodyPost_ret (results_cell_row rfl _ _ gb191 63 #[.int .i64 t192, .slice none 0 0] (0, 0) _ rfl (by (with_reducible repeat (first | refine blk_drewN ?_ _ | refine blk_drew ?_ | refine blk_alloc ?_ _)); refine blk_put (cs := #[.int .i64 t192, .slice none 0 0]) ?_ 1 _ rfl; (with_reducible repeat (first | refine blk_drewN ?_ _ | refine blk_drew ?_ | refine blk_alloc ?_ _)); refine blk_put (cs := #[.int .i64 0, .slice none 0 0]) ?_ 0 _ rfl; (with_reducible repeat (first | refine blk_drewN ?_ _ | refine blk_drew ?_ | refine blk_alloc ?_ _)); exact BK191.out) Try.underlying63 rfl (by kernel_rfl)) rfl ?_
  exact ⟨_, q_e, by first | exact Kd.R_nil _ _ _ _ _ | exact Kd.N_nil _ _ _ _ _ | exact Kd.V_nil _ _ _ _ _ | exact Kd.Q_nil _ _ _ _ _ | exact Kd.S_nil _ _ _ _ _, bq⟩

/-- A state of type 129 at block g of W; what its slices lead to came in by w0. -/
def IsS129 (w0 W : World) (g : Nat) (f0 : List Int) (f1 : Int) : Prop := ∃ A0 c0, W.heap[g]? = some (.cells #[.slice A0 f0.length c0, .int .i64 f1] 129 (0, 0)) ∧ w0.heap.size ≤ g ∧ Kd.C (Kd.int .u8) w0 A0 f0.length f0
theorem IsS129.grown {w0 W : World} {g : Nat} {f0 : List Int} {f1 : Int} {W1 : World} {row : Option Nat} (h : IsS129 w0 W g f0 f1) (hw : W.grownBy W1 row) (hne : some g ≠ row) : IsS129 w0 W1 g f0 f1 := by
  obtain ⟨A0, c0, hb, hg, hr0⟩ := h
  exact ⟨A0, c0, blk_grown hb hw hne, hg, hr0⟩
theorem IsS129.own_neN {w0 W : World} {g : Nat} {f0 : List Int} {f1 : Int} {α : Type} {d : Kd α} {e : Nat} {base : Nat} {ok : Nat → Prop} {v : Value} {xs : List α} (h : IsS129 w0 W g f0 f1) (ho : Kd.N d e W base ok v xs) (ht : e ≠ 129) : some g ≠ v.ownBlock := by
  obtain ⟨A0, c0, hb, hg, hr0⟩ := h
  exact Kd.N_ne ho hb ht
theorem IsS129.fresh {w0 W : World} {g : Nat} {f0 : List Int} {f1 : Int} (h : IsS129 w0 W g f0 f1) : ∀ k, W.heap.size ≤ k → k ≠ g := by
  obtain ⟨A0, c0, hb, hg, hr0⟩ := h
  exact Kd.freshB hb
theorem IsS129.kept {w0 W : World} {g : Nat} {f0 : List Int} {f1 : Int} {W1 : World} {S : Nat → Prop} (h : IsS129 w0 W g f0 f1) (hk : Kept W W1 S) (hne : ¬ S g) : IsS129 w0 W1 g f0 f1 := by
  obtain ⟨A0, c0, hb, hg, hr0⟩ := h
  exact ⟨A0, c0, blk_kept hb hk hne, hg, hr0⟩
theorem IsS129.below {w0 W : World} {g : Nat} {f0 : List Int} {f1 : Int} {W1 : World} (h : IsS129 w0 W g f0 f1) (hw : Below W.heap.size W W1) : IsS129 w0 W1 g f0 f1 := h.grown (grown_of_below hw none) (by simp)
theorem IsS129.alloc {w0 W : World} {g : Nat} {f0 : List Int} {f1 : Int} (h : IsS129 w0 W g f0 f1) (o : Obj) : IsS129 w0 (W.alloc o) g f0 f1 := h.below (below_alloc (Below.refl _ _) o)
theorem IsS129.drewN {w0 W : World} {g : Nat} {f0 : List Int} {f1 : Int} (h : IsS129 w0 W g f0 f1) (m : Nat) : IsS129 w0 (W.drewN m) g f0 f1 := h
theorem IsS129.drew {w0 W : World} {g : Nat} {f0 : List Int} {f1 : Int} (h : IsS129 w0 W g f0 f1) : IsS129 w0 W.drew g f0 f1 := h
theorem IsS129.at_ {w0 W : World} {g : Nat} {f0 : List Int} {f1 : Int} {w' : World} {m : Nat} (hq : W.drewN m = w') (h : IsS129 w0 W g f0 f1) : IsS129 w0 w' g f0 f1 := by subst hq; exact IsS129.drewN h m
theorem IsS129.apart {w0 W : World} {g : Nat} {f0 : List Int} {f1 : Int} {α : Type} {d : Kd α} {e : Nat} {base : Nat} {ok : Nat → Prop} {v : Value} {xs : List α} (h : IsS129 w0 W g f0 f1) (ho : d.R e W base ok v xs) (ht : ∀ q, q ∈ e :: d.E → q ≠ 129) : d.R e W base (fun k => ok k ∧ k ≠ g) v xs := by
  obtain ⟨A0, c0, hb, hg, hr0⟩ := h
  exact Kd.R_types ho hb ht
theorem IsS129.own_ne {w0 W : World} {g : Nat} {f0 : List Int} {f1 : Int} {α : Type} {d : Kd α} {e : Nat} {base : Nat} {ok : Nat → Prop} {v : Value} {xs : List α} (h : IsS129 w0 W g f0 f1) (ho : d.R e W base ok v xs) (ht : e ≠ 129) : some g ≠ v.ownBlock := by
  obtain ⟨A0, c0, hb, hg, hr0⟩ := h
  exact Kd.R_ne ho hb ht
theorem IsS129.apartQ {w0 W : World} {g : Nat} {f0 : List Int} {f1 : Int} {α : Type} {d : Kd α} {e : Nat} {base : Nat} {ok : Nat → Prop} {v : Value} {xs : List α} (h : IsS129 w0 W g f0 f1) (ho : d.Q e W base ok v xs) (ht : ∀ q, q ∈ e :: d.E → q ≠ 129) : d.Q e W base (fun k => ok k ∧ k ≠ g) v xs := by
  obtain ⟨A0, c0, hb, hg, hr0⟩ := h
  exact Kd.Q_types ho hb ht
theorem IsS129.own_neQ {w0 W : World} {g : Nat} {f0 : List Int} {f1 : Int} {α : Type} {d : Kd α} {e : Nat} {base : Nat} {ok : Nat → Prop} {v : Value} {xs : List α} (h : IsS129 w0 W g f0 f1) (ho : d.Q e W base ok v xs) (ht : e ≠ 129) : some g ≠ v.ownBlock := by
  obtain ⟨A0, c0, hb, hg, hr0⟩ := h
  exact Kd.Q_ne ho hb ht
theorem IsS129.apartS {w0 W : World} {g : Nat} {f0 : List Int} {f1 : Int} {α : Type} {d : Kd α} {e : Nat} {base : Nat} {ok : Nat → Prop} {v : Value} {xs : List α} (h : IsS129 w0 W g f0 f1) (ho : d.S e W base ok v xs) (ht : ∀ q, q ∈ e :: d.E → q ≠ 129) : d.S e W base (fun k => ok k ∧ k ≠ g) v xs := by
  obtain ⟨A0, c0, hb, hg, hr0⟩ := h
  exact Kd.S_types ho hb ht
theorem IsS129.own_neS {w0 W : World} {g : Nat} {f0 : List Int} {f1 : Int} {α : Type} {d : Kd α} {e : Nat} {base : Nat} {ok : Nat → Prop} {v : Value} {xs : List α} (h : IsS129 w0 W g f0 f1) (ho : d.S e W base ok v xs) (ht : e ≠ 129) : some g ≠ v.ownBlock := by
  obtain ⟨A0, c0, hb, hg, hr0⟩ := h
  exact Kd.S_ne ho hb ht
theorem IsS129.lt {w0 W : World} {g : Nat} {f0 : List Int} {f1 : Int} (h : IsS129 w0 W g f0 f1) : g < W.heap.size := by
  obtain ⟨A0, c0, hb, hg, hr0⟩ := h
  exact blk_lt hb
theorem IsS129.ge {w0 W : World} {g : Nat} {f0 : List Int} {f1 : Int} (h : IsS129 w0 W g f0 f1) : w0.heap.size ≤ g := by
  obtain ⟨A0, c0, hb, hg, hr0⟩ := h
  exact hg
theorem IsS129.ne_blk {w0 W : World} {g : Nat} {f0 : List Int} {f1 : Int} {a : Nat} {cs : Array Value} {t : TypeId} {fr : Nat × Nat} (h : IsS129 w0 W g f0 f1) (hb2 : W.heap[a]? = some (.cells cs t fr)) (ht : t ≠ 129) : g ≠ a := by
  obtain ⟨A0, c0, hb, hg, hr0⟩ := h
  rintro rfl
  rw [hb] at hb2
  injection hb2 with hb2
  injection hb2 with _ ht2
  exact ht ht2.symm
theorem IsS129.far {w0 W : World} {g : Nat} {f0 : List Int} {f1 : Int} {p : Addr} (h : IsS129 w0 W g f0 f1) (hne : g ≠ p.block) (u : Value) : IsS129 w0 (W.setCell p u) g f0 f1 := by
  obtain ⟨A0, c0, hb, hg, hr0⟩ := h
  exact ⟨A0, c0, blk_far hb hne u, hg, hr0⟩
theorem cellS129_0 {W : World} {g : Nat} {A0 : Option Addr} {c0 : Nat} {f0 : List Int} {f1 : Int} (h : W.heap[g]? = some (.cells #[.slice A0 f0.length c0, .int .i64 f1] 129 (0, 0))) : W.cell? ⟨g, 0, none⟩ = some (.slice A0 f0.length c0) := (blk_cell h 0).trans rfl
theorem cellS129_1 {W : World} {g : Nat} {A0 : Option Addr} {c0 : Nat} {f0 : List Int} {f1 : Int} (h : W.heap[g]? = some (.cells #[.slice A0 f0.length c0, .int .i64 f1] 129 (0, 0))) : W.cell? ⟨g, 1, none⟩ = some (.int .i64 f1) := (blk_cell h 1).trans rfl
theorem IsS129.set_1 {w0 W : World} {g : Nat} {f0 : List Int} {f1 : Int} (h : IsS129 w0 W g f0 f1) (x : Int) : IsS129 w0 (W.setCell ⟨g, 1, none⟩ (.int .i64 x)) g f0 x := by
  obtain ⟨A0, c0, hb, hg, hr0⟩ := h
  exact ⟨A0, c0, by simpa using blk_set hb 1 (.int .i64 x), hg, hr0⟩
theorem IsS129.new (w0 W : World) (A0 : Option Addr) (c0 : Nat) (f0 : List Int) (f1 : Int) (hB : Below w0.heap.size w0 W) (hr0 : Kd.C (Kd.int .u8) w0 A0 f0.length f0) : IsS129 w0 (W.alloc (.cells #[.slice A0 f0.length c0, .int .i64 f1] 129)) W.heap.size f0 f1 := ⟨A0, c0, by simpa using heap_alloc_new W _, hB.size, hr0⟩

/-! ### spec_l1Source: function 81 -/
def spec_l1Source.f (l0 : List Int) : Option (List Int × Int) := some (l0, 0)
set_option maxHeartbeats 8000000 in
set_option maxRecDepth 100000 in
theorem spec_l1Source.calls (A0 : Option Addr) (c0 : Nat) (l0 : List Int) (r1 : List Int) (r2 : Int) (w0 w : World) (hB : Below w0.heap.size w0 w) (hr0 : Kd.C (Kd.int .u8) w0 A0 l0.length l0) (hc0 : l0.length ≤ c0) (h : spec_l1Source.f l0 = some (r1, r2)) :
  Calls Try.prog 81 #[.slice A0 l0.length c0] w fun e w' => ∃ g_ : Nat, e = .returned (.pointer (some ⟨g_, 0, none⟩)) ∧ IsS129 w0 w' g_ r1 r2 ∧ Below w0.heap.size w0 w' ∧ Below w.heap.size w w' := by
 have hu129 := Try.underlying129
 have HR0 := Aside0.mk hr0
 have HC0 := Aside0.mk hc0
 clear hr0 hc0
 have HBW := Aside0.mk (Below.refl w.heap.size w)
 have HW0 := Aside0.mk hB.size
 have HB := Aside0.mk hB
 clear hB
 have H : (some (l0, 0)) = some (r1, r2) := h
 clear h
 simp only [Option.some.injEq, Prod.mk.injEq] at H
 obtain ⟨rfl, rfl⟩ := H
 go_enter Try.func81, Try.ntmps81
 go_wp2_with (first | ((with_reducible refine gate_dst (N := 5) rfl ?_); refine q_box (N := 5) (cs := #[.slice A0 l0.length c0, .int .i64 0]) (t := 129) ?_; intro gb196 hg w2 hbox hb; have n0_ := Aside0.mk (below_step HBW.out hb); have n1_ := Aside0.mk (below_step bq hb); have n2_ := Aside0.mk (hbox); have n3_ := Aside0.mk ((by rw [hg]; exact (below_size (by repeat (first | (with_reducible first | exact HBW.out | apply below_alloc | apply pw_below_drewN | apply below_drew1) | exact HBW.out))) : w.heap.size ≤ gb196)); have n4_ := Aside0.mk ((Nat.le_trans HW0.out (by rw [hg]; exact (below_size (by repeat (first | (with_reducible first | exact HBW.out | apply below_alloc | apply pw_below_drewN | apply below_drew1) | exact HBW.out))) : w.heap.size ≤ gb196) : w0.heap.size ≤ gb196)); revert n0_ n1_ n2_ n3_ n4_; clear HBW HB; intro HBW HB BK196 GW196 GE196; clear hb hbox hg))
 go_ret
 exact ⟨_, rfl, (show IsS129 w0 _ gb196 l0 0 from ⟨_, _, q_b BK196.out, GE196.out, HR0.out⟩), bq, by repeat (first | (with_reducible first | exact HBW.out | apply below_alloc | apply pw_below_drewN | apply below_drew1 | refine below_set ?_ GW196.out) | exact HBW.out)⟩

end Go.Proofs.Ytdhlcnlcpjlliaa.PFnScans
