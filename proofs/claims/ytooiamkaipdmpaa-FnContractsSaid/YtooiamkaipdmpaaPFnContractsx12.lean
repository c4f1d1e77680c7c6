/- The functions that a law reaches, each as a plain Lean function with the proof that the machine comes to its answer: written by program (the kit's print, turned by wip/gen). No conditions. -/
import Derived.Test.YtooiamkaipdmpaaPFnContractsx0
import Derived.Test.YtooiamkaipdmpaaPFnContractsx4
import Derived.Test.YtooiamkaipdmpaaPFnContractsx11
namespace Go.Proofs.Ytooiamkaipdmpaa.PFnContracts
open Go.RowKit Go.Proofs.YtooiamkaipdmpaaW.PrintWords Go.Proofs.YtooiamkaipdmpaaW.PrintLast Go.Proofs.YtooiamkaipdmpaaW.PrintMore
attribute [local go_sem] max2_int min2_int max_two min_two max_three min_three max_four min_four   -- for this text's walks alone
set_option linter.unusedVariables false
set_option linter.unusedSimpArgs false

/-! ### slices_pdqsortOrdered_int64: function 128 -/
def slices_pdqsortOrdered_int64.l0 : Nat → List Int → Int → Int → Option (List Int)
  | 0, _, _, _ => none
  | k + 1, x0, x1, x2 => if (wrap64 (x2 - x1)) ≤ 12 then ((slices_insertionSortOrdered_int64.f k x0 x1 x2).bind fun t312 => (some t312)) else (none)
def slices_pdqsortOrdered_int64.f (k : Nat) (l0 : List Int) (a1 : Int) (a2 : Int) (a3 : Int) : Option (List Int) := slices_pdqsortOrdered_int64.l0 k l0 a1 a2
set_option maxHeartbeats 8000000 in
set_option maxRecDepth 100000 in
theorem slices_pdqsortOrdered_int64.calls (k : Nat) (P0_ : Nat → Prop) (u9000_ : Value) (l0 : List Int) (a1 : Int) (a2 : Int) (a3 : Int) (r : List Int) (w0 w : World) (hB : Below w0.heap.size w0 w) (ho0 : Kd.R (Kd.int .i64) 2 w w0.heap.size P0_ u9000_ l0) (h : slices_pdqsortOrdered_int64.f k l0 a1 a2 a3 = some r) :
  Calls Try.prog 128 #[u9000_, .int .i64 a1, .int .i64 a2, .int .i64 a3] w fun e w' => e = .returned (.tuple #[]) ∧ Kd.R (Kd.int .i64) 2 w' w0.heap.size (fun k_ => (P0_ k_ ∨ w.heap.size ≤ k_)) u9000_ r ∧ Below w0.heap.size w0 w' ∧ Kept w w' (fun k_ => P0_ k_) := by
 have HO0 := Aside0.mk (show Kd.R (Kd.int .i64) 2 w w0.heap.size (fun k_ => (P0_ k_ ∨ w.heap.size ≤ k_)) u9000_ l0 from Kd.R_mono ho0 (fun k_ hk => (.inl hk)))
 have HK := Aside0.mk (Kept.refl w (fun k_ => P0_ k_))
 have HW0 := Aside0.mk hB.size
 have HB := Aside0.mk hB
 clear hB
 have H : (slices_pdqsortOrdered_int64.l0 k l0 a1 a2) = some r := h
 clear h
 have H' := Aside0.mk H
 clear H
 go_enter Try.func128, Try.ntmps128
 go_wp2
 go_loopg [1, 2] k (fun kq v1 v2 w' => ∃ (x0_1 : List Int), v1 = .int .i64 a1 ∧ v2 = .int .i64 a2 ∧ Aside0 (slices_pdqsortOrdered_int64.l0 kq x0_1 a1 a2 = some r) ∧ Aside0 (kq ≤ k) ∧ Aside0 (Kd.R (Kd.int .i64) 2 w' w0.heap.size (fun k_ => (P0_ k_ ∨ w.heap.size ≤ k_)) u9000_ x0_1) ∧ Aside0 (Kept w w' (fun k_ => P0_ k_)) ∧ Aside0 (Below w0.heap.size w0 w'))
 case atStart => exact ⟨(l0), rfl, rfl, H', ⟨Nat.le_refl _⟩, ⟨q_r (HO0.out)⟩, ⟨q_k⟩, ⟨bq⟩⟩
 case round =>
  clear H'
  (try clear c1); (try clear p2)
  obtain ⟨x0_1, rfl, rfl, HA, HK1, HO_0, HK, HB⟩ := hrel
  cases gk with
  | zero => exact absurd HA.out (by simp [slices_pdqsortOrdered_int64.l0])
  | succ k1 =>
   have H := HA.out
   clear HA
   simp only [slices_pdqsortOrdered_int64.l0] at H
   by_cases c5 : (wrap64 (a2 - a1)) ≤ 12
   ·rw [if_pos c5] at H
    have c5b0 := decide_eq_true c5
    clear c5
    replace H := Option.bind_eq_some_iff.mp H
    obtain ⟨t312, A60, H⟩ := H
    replace H : (some t312) = some r := H
    have A6 := Aside0.mk A60
    clear A60
    obtain rfl := Option.some.inj H
    obtain ⟨Ao7, co7, eo7⟩ := Kd.R_slice HO_0.out
    subst eo7
    go_wp2_with (first | ((with_reducible refine gate_callee (f := 130) rfl ?_); refine goesLq (some 27) rfl rfl Try.func130 (by kernel_rfl) rfl #[.slice Ao7 x0_1.length co7, .int .i64 a1, .int .i64 a2] rfl ?_; (with_reducible refine (slices_insertionSortOrdered_int64.calls k1 (fun k_ => some k_ = (.slice Ao7 x0_1.length co7 : Value).ownBlock) (.slice Ao7 x0_1.length co7) x0_1 a1 a2 t312 w0 _ ?side1 ?side2 A6.out).mono ?_); (case side1 => repeat (first | (with_reducible first | exact HB.out | apply below_alloc | apply pw_below_drewN | apply below_drew1) | exact HB.out)); (case side2 => exact Kd.R_tight rfl HO_0.out); rintro e w8 ⟨rfl, hy0, hb, hkp⟩; refine ⟨_, rfl, ?_⟩; have n0_ := Aside0.mk (Kd.R_reok rfl hy0 (fun k_ e_ => HO_0.out.1 k_ e_)); have n1_ := Aside0.mk (Kept.then_ (S := (fun k_ => P0_ k_)) q_k hkp (fun k_ hs_ => (fun e_ => (HO_0.out.1 k_ e_.symm)) hs_)); have n2_ := Aside0.mk (hb); revert n0_ n1_ n2_; clear HO_0 HK HB; intro HO_0 HK HB; (try clear hb); (try clear hkp); (try clear hy0)))
    first | go_end0 | ((try simp only [Exit.inBlock, Exit.then]); refine bodyPost_ret (results_none rfl _ _ _) rfl ?_)
    exact ⟨q_e, q_r (HO_0.out), bq, q_k⟩
   ·rw [if_neg c5] at H
    exact absurd H (by simp)

/-! ### slices_Sort_int64: function 123 -/
def slices_Sort_int64.f (k : Nat) (l0 : List Int) : Option (List Int) := (bits_Len.f (IntKind.u64.wrap ((l0.length : Int)))).bind fun t313 => ((slices_pdqsortOrdered_int64.f k l0 0 (l0.length : Int) t313).bind fun t314 => (some t314))
set_option maxHeartbeats 8000000 in
set_option maxRecDepth 100000 in
theorem slices_Sort_int64.calls (k : Nat) (P0_ : Nat → Prop) (u9000_ : Value) (l0 : List Int) (r : List Int) (w0 w : World) (hB : Below w0.heap.size w0 w) (ho0 : Kd.R (Kd.int .i64) 2 w w0.heap.size P0_ u9000_ l0) (h : slices_Sort_int64.f k l0 = some r) :
  Calls Try.prog 123 #[u9000_] w fun e w' => e = .returned (.tuple #[]) ∧ Kd.R (Kd.int .i64) 2 w' w0.heap.size (fun k_ => (P0_ k_ ∨ w.heap.size ≤ k_)) u9000_ r ∧ Below w0.heap.size w0 w' ∧ Kept w w' (fun k_ => P0_ k_) := by
 have HO0 := Aside0.mk (show Kd.R (Kd.int .i64) 2 w w0.heap.size (fun k_ => (P0_ k_ ∨ w.heap.size ≤ k_)) u9000_ l0 from Kd.R_mono ho0 (fun k_ hk => (.inl hk)))
 have HK := Aside0.mk (Kept.refl w (fun k_ => P0_ k_))
 have HW0 := Aside0.mk hB.size
 have HB := Aside0.mk hB
 clear hB
 have H : ((bits_Len.f (IntKind.u64.wrap ((l0.length : Int)))).bind fun t313 => ((slices_pdqsortOrdered_int64.f k l0 0 (l0.length : Int) t313).bind fun t314 => (some t314))) = some r := h
 clear h
 replace H := Option.bind_eq_some_iff.mp H
 obtain ⟨t313, A20, H⟩ := H
 replace H : ((slices_pdqsortOrdered_int64.f k l0 0 (l0.length : Int) t313).bind fun t314 => (some t314)) = some r := H
 have A2 := Aside0.mk A20
 clear A20
 replace H := Option.bind_eq_some_iff.mp H
 obtain ⟨t314, A30, H⟩ := H
 replace H : (some t314) = some r := H
 have A3 := Aside0.mk A30
 clear A30
 obtain rfl := Option.some.inj H
 obtain ⟨Ao4, co4, eo4⟩ := Kd.R_slice HO0.out
 subst eo4
 go_enter Try.func123, Try.ntmps123
 go_wp2_with (first | ((with_reducible refine gate_callee (f := 129) rfl ?_); refine goesLq (some 9) rfl rfl Try.func129 (by kernel_rfl) rfl #[.int .u64 (IntKind.u64.wrap ((l0.length : Int)))] rfl ?_; (with_reducible refine (bits_Len.calls (IntKind.u64.wrap ((l0.length : Int))) t313 _ A2.out).mono ?_); rintro e w' ⟨rfl, ⟨nd, rfl⟩⟩; refine ⟨_, rfl, ?_⟩) | ((with_reducible refine gate_callee (f := 128) rfl ?_); refine goesLq (some 10) rfl rfl Try.func128 (by kernel_rfl) rfl #[.slice Ao4 l0.length co4, .int .i64 0, .int .i64 (l0.length : Int), .int .i64 t313] rfl ?_; (with_reducible refine (slices_pdqsortOrdered_int64.calls k (fun k_ => some k_ = (.slice Ao4 l0.length co4 : Value).ownBlock) (.slice Ao4 l0.length co4) l0 0 (l0.length : Int) t313 t314 w0 _ ?side1 ?side2 A3.out).mono ?_); (case side1 => repeat (first | (with_reducible first | exact HB.out | apply below_alloc | apply pw_below_drewN | apply below_drew1) | exact HB.out)); (case side2 => exact Kd.R_tight rfl HO0.out); rintro e w5 ⟨rfl, hy0, hb, hkp⟩; refine ⟨_, rfl, ?_⟩; have n0_ := Aside0.mk (Kd.R_reok rfl hy0 (fun k_ e_ => HO0.out.1 k_ e_)); have n1_ := Aside0.mk (Kept.then_ (S := (fun k_ => P0_ k_)) q_k hkp (fun k_ hs_ => (fun e_ => (HO0.out.1 k_ e_.symm)) hs_)); have n2_ := Aside0.mk (hb); revert n0_ n1_ n2_; clear HO0 HK HB; intro HO0 HK HB; (try clear hb); (try clear hkp); (try clear hy0)))
 first | go_end0 | ((try simp only [Exit.inBlock, Exit.then]); refine bodyPost_ret (results_none rfl _ _ _) rfl ?_)
 exact ⟨q_e, q_r (HO0.out), bq, q_k⟩

/-! ### slices_Compact_int64: function 124 -/
theorem clear_event {α : Type} {enc : α → Value} {h1 : ∀ x, (enc x).oneCell' = true} {P : Program} {ops : Array Oper} {rest : List Oper} {o : Oper} {a : Act} {Q : Exit → Act → World → Prop} {W : World} (hgd : o.guard = none) (s : Operand) (t e : TypeId) (z : Value)
    (ho : o.op = .call { callee := .builtin .clear, args := #[s], argTypes := #[t] }) (ht : P.underlying t = some (.slice e)) (hv : ∀ w, (zeroValue e).run P w = .ok z w) (hz : z.cells = #[z]) (hz1 : z.oneCell' = true)
    {ad : Addr} {A : Option Addr} {n m c c2 : Nat} {k : Int} {base : Nat} {ok : Nat → Prop} {xs : List α} (HO : (Kd.scalar enc h1).R e W base ok (.slice (some ad) n c) xs) (hn : n = xs.length) (hk0 : 0 ≤ k) (hk : k < (xs.length : Int)) (hA : A = (if c = k.toNat then some ad else (some ad).map (·.add (k.toNat * 1)))) (hm : m = xs.length - k.toNat) (hs : a.eval s = .slice A m c2)
    (h : ∀ w1, (Kd.scalar enc h1).R e w1 base ok (.slice (some ad) k.toNat c) (xs.take k.toNat) → W.grownBy w1 (Value.slice (some ad) n c).ownBlock → wpList P ops Q rest (a.put o.dst (.tuple #[])) w1) : wpList P ops Q (o :: rest) a W := by
  subst hn
  have hkn : k.toNat < xs.length := by omega
  obtain ⟨hl, hr⟩ := Kd.own_of_R HO
  rcases hr with ⟨hr, _⟩ | ⟨g, cap, cur, he, hg, hh, hc1, hc2, hc3, hc4⟩
  · cases hr
  · injection he with e1 e2 e3
    injection e1 with e1
    subst e1
    subst e3
    have hne : ¬ (c = k.toNat) := by omega
    rw [if_neg hne] at hA
    subst hm
    have hcs : c * 1 = c := Nat.mul_one _
    rw [hcs] at hc3
    have hA2 : A = some ⟨g, k.toNat, none⟩ := by rw [hA]; simp [Addr.add]; omega
    have hcell : ∀ j, j < xs.length - k.toNat → (W.cell? ⟨g, k.toNat + j, none⟩).isSome = true := fun j hj => by
      rw [cell_of_row W g (k.toNat + j) cur e (0, 0) hh, Array.getElem?_eq_getElem (by omega)]
      rfl
    have hfr : ∀ j, j < xs.length - k.toNat → W.frozen? ⟨g, k.toNat + j, none⟩ = false := fun j _ => blk_frozen hh _
    have hrun := fun ty => Lib.run_clear_slice (P := P) W t e ty z ht hv hz hz1 g k.toNat (xs.length - k.toNat) c2 (by omega) hcell hfr
    have hrun2 : (execOp a.eval o).run P W = .ok (.value (.tuple #[])) (W.setCells g k.toNat (List.replicate (xs.length - k.toNat) z)) := by
      obtain ⟨dst_, op_, ty_, pos_, after_, guard_⟩ := o
      simp only at ho
      subst ho
      have hb := hrun ty_
      rw [BigFrame.execOp_builtin, BigFrame.builtin_clear]
      simp [hs, hA2, hb, Result.andThen]
    refine Kd.event_run hgd hrun2 (h _ ?_ ?_)
    · obtain ⟨cur', h3, h4, h5⟩ := setCells_row (List.replicate (xs.length - k.toNat) z) k.toNat W cur hh (by simp; omega)
      refine Kd.R_of_own ⟨by simp [encs], Or.inr ⟨g, c, cur', by rw [List.length_take, Nat.min_eq_left (Nat.le_of_lt hkn)], hg, h3, by rw [List.length_take]; omega, hc2, by omega, ?_⟩⟩ HO.1
      have e5 : (xs.take k.toNat).length * 1 = k.toNat := by rw [List.length_take]; omega
      rw [e5, h5]
      have e6 : (cur.toList.take k.toNat).length = k.toNat := by rw [List.length_take]; simp; omega
      rw [List.append_assoc, List.take_append_of_le_length (by rw [e6]; exact Nat.le_refl _), List.take_of_length_le (by rw [e6]; exact Nat.le_refl _)]
      have e7 := congrArg (List.take k.toNat) hc4
      rw [List.take_take, Nat.mul_one, Nat.min_eq_left (Nat.le_of_lt hkn)] at e7
      rw [e7]
      unfold encs
      rw [List.map_take]
    · obtain ⟨s1, s2, s3, s4⟩ := setCells_same g (List.replicate (xs.length - k.toNat) z) k.toNat W
      refine ⟨s1, s2, s3, Nat.le_of_eq s4.symm, fun i _ hi => setCells_far _ _ i (fun e_ => hi (by rw [e_]; rfl))⟩
theorem cut_at {α : Type} {enc : α → Value} {h1 : ∀ x, (enc x).oneCell' = true} (dflt : α) {W : World} {e : TypeId} {ad : Addr} {A : Option Addr} {n m c : Nat} {k : Int} {base : Nat} {ok : Nat → Prop} {xs : List α} (HO : (Kd.scalar enc h1).R e W base ok (.slice (some ad) n c) xs) (hA : A = (if c = k.toNat then some ad else (some ad).map (·.add (k.toNat * 1)))) (hm : m = n - k.toNat) (i : Int) (h0 : 0 ≤ i) (hi : i < (m : Int)) :
    ∃ ad2, A = some ad2 ∧ W.cell? (ad2.add i.toNat) = some (enc (rdOf dflt xs ((xs.length : Int) - (m : Int) + i))) := by
  have hn := (Kd.R_reads' HO).1
  subst hn
  obtain ⟨hl, hr⟩ := Kd.own_of_R HO
  rcases hr with ⟨hr, _⟩ | ⟨g, cap, cur, he, hg, hh, hc1, hc2, hc3, hc4⟩
  · cases hr
  · injection he with e1 e2 e3
    injection e1 with e1
    subst e1
    subst e3
    have hne : ¬ (c = k.toNat) := by omega
    rw [if_neg hne] at hA
    refine ⟨_, hA, ?_⟩
    have hj : k.toNat + i.toNat < xs.length := by omega
    have e2 : ((xs.length : Int) - (m : Int) + i).toNat = k.toNat + i.toNat := by omega
    have e3 : (({ block := g, off := 0 } : Addr).add (k.toNat * 1)).add i.toNat = ⟨g, k.toNat + i.toNat, none⟩ := by
      rw [Addr.add_lit, Addr.add_lit, show 0 + k.toNat * 1 + i.toNat = k.toNat + i.toNat by omega]
    rw [e3, cell_of_row W g _ cur e (0, 0) hh]
    have e4 : cur[k.toNat + i.toNat]? = (encs enc xs)[k.toNat + i.toNat]? := by
      rw [← hc4, List.getElem?_take_of_lt (by omega), Array.getElem?_toList]
    rw [e4]
    unfold encs rdOf
    rw [List.getElem?_map, e2, List.getD_eq_getElem?_getD, List.getElem?_eq_getElem hj]
    rfl
mutual
def slices_Compact_int64.l0 : Nat → List Int → Int → Option (List Int)
  | 0, _, _ => none
  | k + 1, x0, x3 => if x3 < (x0.length : Int) then (if 0 ≤ x3 then (if 0 ≤ (wrap64 (x3 - 1)) then (if (wrap64 (x3 - 1)) < (x0.length : Int) then (if (rd x0 x3) = (rd x0 (wrap64 (x3 - 1))) then (if x3 ≤ (x0.length : Int) then (slices_Compact_int64.l1 k x0 x3 (x0.drop (x3 : Int).toNat) 1) else (none)) else (slices_Compact_int64.l0 k x0 (wrap64 (x3 + 1)))) else (none)) else (none)) else (none)) else (some x0)
def slices_Compact_int64.l1 : Nat → List Int → Int → List Int → Int → Option (List Int)
  | 0, _, _, _, _ => none
  | k + 1, x0, x3, x4, x5 => if x5 < (x4.length : Int) then (if 0 ≤ x5 then (if 0 ≤ (wrap64 (x5 - 1)) then (if (wrap64 (x5 - 1)) < (x4.length : Int) then (if (rd x0 ((x0.length : Int) - (x4.length : Int) + x5)) = (rd x0 ((x0.length : Int) - (x4.length : Int) + (wrap64 (x5 - 1)))) then (slices_Compact_int64.l1 k x0 x3 x4 (wrap64 (x5 + 1))) else (if 0 ≤ x3 then (if x3 < (x0.length : Int) then (slices_Compact_int64.l1 k (x0.set (x3 : Int).toNat (rd x0 ((x0.length : Int) - (x4.length : Int) + x5))) (wrap64 (x3 + 1)) x4 (wrap64 (x5 + 1))) else (none)) else (none))) else (none)) else (none)) else (none)) else (if x3 < (x0.length : Int) then (if 0 ≤ x3 then (if x3 ≤ (x0.length : Int) then (some (x0.take (x3 : Int).toNat)) else (none)) else (none)) else (none))
end
def slices_Compact_int64.f (k : Nat) (l0 : List Int) : Option (List Int) := if (l0.length : Int) < 2 then (some l0) else (slices_Compact_int64.l0 k l0 1)
set_option maxHeartbeats 8000000 in
set_option maxRecDepth 100000 in
theorem slices_Compact_int64.calls (k : Nat) (P0_ : Nat → Prop) (u9000_ : Value) (l0 : List Int) (r : List Int) (w0 w : World) (hB : Below w0.heap.size w0 w) (ho0 : Kd.R (Kd.int .i64) 2 w w0.heap.size P0_ u9000_ l0) (h : slices_Compact_int64.f k l0 = some r) :
  Calls Try.prog 124 #[u9000_] w fun e w' => ∃ v0_ : Value, e = .returned (v0_) ∧ Kd.R (Kd.int .i64) 2 w' w0.heap.size (fun k_ => (P0_ k_ ∨ w.heap.size ≤ k_)) v0_ r ∧ Below w0.heap.size w0 w' ∧ Kept w w' (fun k_ => P0_ k_) := by
 have HO0 := Aside0.mk (show Kd.R (Kd.int .i64) 2 w w0.heap.size (fun k_ => (P0_ k_ ∨ w.heap.size ≤ k_)) u9000_ l0 from Kd.R_mono ho0 (fun k_ hk => (.inl hk)))
 have HK := Aside0.mk (Kept.refl w (fun k_ => P0_ k_))
 have HW0 := Aside0.mk hB.size
 have HB := Aside0.mk hB
 clear hB
 have H : (if (l0.length : Int) < 2 then (some l0) else (slices_Compact_int64.l0 k l0 1)) = some r := h
 clear h
 by_cases c2 : (l0.length : Int) < 2
 ·rw [if_pos c2] at H
  have c2b0 := decide_eq_true c2
  have c2b1 : decide (l0.length < 2) = true := decide_eq_true (by omega)
  clear c2
  obtain rfl := Option.some.inj H
  obtain ⟨Ao3, co3, eo3⟩ := Kd.R_slice HO0.out
  subst eo3
  go_enter Try.func124, Try.ntmps124
  go_wp2
  repeat (go_quiet (fail); try go_wp2)
  go_ret
  exact ⟨_, q_e, q_r (HO0.out), bq, q_k⟩
 ·rw [if_neg c2] at H
  have c2b0 := decide_eq_false c2
  have c2b1 : decide (l0.length < 2) = false := decide_eq_false (by omega)
  clear c2
  have H' := Aside0.mk H
  clear H
  obtain ⟨go_, co4, eo4, gb_, gl_, cl_, HG_⟩ := Kd.R_form HO0.out (by have h_ := of_decide_eq_false c2b1; omega)
  clear gb_ gl_ HG_ cl_
  subst eo4
  go_enter Try.func124, Try.ntmps124
  go_wp2
  repeat (go_quiet (fail); try go_wp2)
  go_loopg [3] k (fun kq v3 w' => ∃ (x0_1 : List Int) (x3_1 : Int), v3 = .int .i64 x3_1 ∧ Aside0 (slices_Compact_int64.l0 kq x0_1 x3_1 = some r) ∧ Aside0 (kq ≤ k) ∧ Aside0 (Kd.R (Kd.int .i64) 2 w' w0.heap.size (fun k_ => (P0_ k_ ∨ w.heap.size ≤ k_)) (.slice (some ⟨go_, 0, none⟩) l0.length co4) x0_1) ∧ Aside0 (Kept w w' (fun k_ => P0_ k_)) ∧ Aside0 (Below w0.heap.size w0 w'))
  case atStart => exact ⟨(l0), (1), q_i, H', ⟨Nat.le_refl _⟩, ⟨q_r (HO0.out)⟩, ⟨q_k⟩, ⟨bq⟩⟩
  case round =>
   clear H'
   (try clear c1); (try clear c2); (try clear c2b0); (try clear c2b1); (try clear p2)
   obtain ⟨x0_1, x3_1, rfl, HA, HK1, HO_0, HK, HB⟩ := hrel
   have hl0_1 := (Kd.R_reads' HO_0.out).1
   rw [hl0_1] at HO_0
   (try simp only [hl0_1])
   cases gk with
   | zero => exact absurd HA.out (by simp [slices_Compact_int64.l0])
   | succ k1 =>
    have H := HA.out
    clear HA
    simp only [slices_Compact_int64.l0] at H
    by_cases c5 : x3_1 < (x0_1.length : Int)
    ·rw [if_pos c5] at H
     have c5b0 := decide_eq_true c5
     clear c5
     by_cases c6 : 0 ≤ x3_1
     ·rw [if_pos c6] at H
      have c6b0 := decide_eq_true c6
      clear c6
      obtain ⟨ji7, hji7⟩ : ∃ j_ : Int, (wrap64 (x3_1 - 1)) = j_ := ⟨_, rfl⟩
      replace H : (if 0 ≤ (ji7) then (if (ji7) < (x0_1.length : Int) then (if (rd x0_1 x3_1) = (rd x0_1 (ji7)) then (if x3_1 ≤ (x0_1.length : Int) then (slices_Compact_int64.l1 k1 x0_1 x3_1 (x0_1.drop (x3_1 : Int).toNat) 1) else (none)) else (slices_Compact_int64.l0 k1 x0_1 (wrap64 (x3_1 + 1)))) else (none)) else (none)) = some r := by first | (rw [hji7] at H; exact H) | (simp only [hji7] at H ⊢; exact H)
      have hji7w : (IntKind.i64.wrap (x3_1 - 1)) = ji7 := (i64_w _).trans hji7
      by_cases c8 : 0 ≤ (ji7)
      ·rw [if_pos c8] at H
       have c8b0 := decide_eq_true c8
       clear c8
       by_cases c9 : (ji7) < (x0_1.length : Int)
       ·rw [if_pos c9] at H
        have c9b0 := decide_eq_true c9
        clear c9
        by_cases c10 : (rd x0_1 x3_1) = (rd x0_1 (ji7))
        ·rw [if_pos c10] at H
         have c10b0 : ((rd x0_1 x3_1) == (rd x0_1 (ji7))) = true := beq_iff_eq.mpr c10
         have c10b1 : ((rd x0_1 x3_1) != (rd x0_1 (ji7))) = false := bne_eq_false_iff_eq.mpr c10
         clear c10
         have c11b0 := eq_true (q_d : 0 ≤ x3_1)
         by_cases c12 : x3_1 ≤ (x0_1.length : Int)
         ·rw [if_pos c12] at H
          have c12b0 := eq_true c12
          have c12b1 := decide_eq_true c12
          clear c12
          obtain ⟨y317, hy317⟩ : ∃ y_ : List Int, y_ = (x0_1.drop (x3_1 : Int).toNat) := ⟨_, rfl⟩
          replace H : (slices_Compact_int64.l1 k1 x0_1 x3_1 y317 1) = some r := q_h hy317 H
          have Ny317 := Aside0.mk hy317
          clear hy317
          have H' := Aside0.mk H
          clear H
          have p315 : 0 ≤ (x3_1 : Int) := q_d
          have q315 : x3_1 < (x0_1.length : Int) := q_d
          obtain ⟨adq_, e315, hx315_0⟩ := Kd.at_int (Kd.R_reads' HO_0.out).2.2 x3_1 p315 q315
          cases e315
          (try simp only [add_plain] at hx315_0)
          replace p315 := eq_true p315
          replace q315 := eq_true q315
          have p316 : 0 ≤ ((ji7) : Int) := q_d
          have q316 : (ji7) < (x0_1.length : Int) := q_d
          obtain ⟨ad316, e316, hx316_0⟩ := Kd.at_int (Kd.R_reads' HO_0.out).2.2 (ji7) p316 q316
          cases e316
          (try simp only [add_plain] at hx316_0)
          replace p316 := eq_true p316
          replace q316 := eq_true q316
          have q13 : (x3_1 : Int) ≤ ((x0_1.length : Int) : Int) := q_d
          obtain ⟨i013, hi013, _, hsz13, _⟩ := info_parts info2
          have hroom13 : x0_1.length ≤ co4 := (Kd.R_reads' HO_0.out).2.1
          have hC13 : Kd.C (Kd.int .i64) _ (some ⟨go_, 0, none⟩) x0_1.length x0_1 := (Kd.R_reads' HO_0.out).2.2
          have q013 : (0 : Int) ≤ (x3_1 : Int) := q_d
          have hcut13 := cut_from (P := Try.prog) 81 2 .i64 Try.underlying81 hi013 1 hsz13 (some ⟨go_, 0, none⟩) x0_1.length co4 x3_1 q013 q13
          have hr13 := Kd.C_drop (m := (x3_1 : Int).toNat) (c := co4) hC13 (by omega) hroom13
          obtain ⟨A13, hA13⟩ : ∃ A1, A1 = (if co4 = (x3_1 : Int).toNat then (some ⟨go_, 0, none⟩) else ((some ⟨go_, 0, none⟩) : Option Addr).map (·.add ((x3_1 : Int).toNat * 1))) := ⟨_, rfl⟩
          obtain ⟨c13, hc13⟩ : ∃ c1, c1 = co4 - (x3_1 : Int).toNat := ⟨_, rfl⟩
          have hy13 : y317.length = x0_1.length - (x3_1 : Int).toNat := (by rw [Ny317.out, List.length_drop] <;> omega)
          rw [show (x0_1).drop (x3_1 : Int).toNat = y317 from Ny317.out.symm] at hr13
          replace hr13 : Kd.C (Kd.int .i64) _ A13 y317.length y317 := (by rw [hA13]; exact hr13)
          rw [← hy13, ← hA13, ← hc13] at hcut13
          have HR320 := Aside0.mk hr13
          have HC320 := Aside0.mk (show y317.length ≤ c13 from by rw [hy13, hc13]; exact Nat.sub_le_sub_right hroom13 _)
          clear hr13 hC13 hroom13 hi013 hsz13 hc13
          have KY13 := Aside0.mk hy13
          have KA13 := Aside0.mk hA13
          clear hy13 hA13
          have KL13 := Aside0.mk (show (x3_1 : Int).toNat ≤ x0_1.length from by omega)
          replace q13 := eq_true q13
          go_wp2
          repeat (go_quiet (fail); try go_wp2)
          go_loopg [3, 5] k1 (fun kq v3 v5 w' => ∃ (x0_2 : List Int) (x3_2 : Int) (x5_2 : Int), v3 = .int .i64 x3_2 ∧ v5 = .int .i64 x5_2 ∧ Aside0 (slices_Compact_int64.l1 kq x0_2 x3_2 y317 x5_2 = some r) ∧ Aside0 (kq ≤ k1) ∧ Aside0 (Kd.R (Kd.int .i64) 2 w' w0.heap.size (fun k_ => (P0_ k_ ∨ w.heap.size ≤ k_)) (.slice (some ⟨go_, 0, none⟩) x0_1.length co4) x0_2) ∧ Aside0 (Kept w w' (fun k_ => P0_ k_)) ∧ Aside0 (Below w0.heap.size w0 w'))
          case atStart => exact ⟨(x0_1), (x3_1), (1), q_i, q_i, H', ⟨Nat.le_refl _⟩, ⟨by (try simp only [hl0_1]); (with_reducible repeat (first | apply Kd.R_alloc | apply Kd.R_drewN | apply Kd.R_drew)); exact HO_0.out⟩, ⟨q_k⟩, ⟨bq⟩⟩
          case round =>
           clear H'
           (try clear c1); (try clear q1); (try clear c2); (try clear c2b0); (try clear c2b1); (try clear p2); (try clear p3); (try clear q3); (try clear hx3); (try clear c5); (try clear c5b0); (try clear c6)
           (try clear c6b0); (try clear p6); (try clear c8); (try clear c8b0); (try clear c9); (try clear c9b0); (try clear c10); (try clear c10b0); (try clear c10b1); (try clear c11); (try clear c11b0)
           (try clear c12); (try clear c12b0); (try clear c12b1); (try clear c13); (try clear q13); (try clear hx315_0); (try clear hx316_0); (try clear p2); (try clear p315); (try clear p316); (try clear q013)
           (try clear q13); (try clear q315); (try clear q316)
           obtain ⟨x0_2, x3_2, x5_2, rfl, rfl, HA, HK2, HO_0, HK, HB⟩ := hrel
           have hl0_2 := (Kd.R_reads' HO_0.out).1
           rw [hl0_2] at HO_0
           (try simp only [hl0_2])
           cases gk with
           | zero => exact absurd HA.out (by simp [slices_Compact_int64.l1])
           | succ k2 =>
            have H := HA.out
            clear HA
            simp only [slices_Compact_int64.l1] at H
            by_cases c14 : x5_2 < (y317.length : Int)
            ·rw [if_pos c14] at H
             have c14b0 := decide_eq_true c14
             clear c14
             by_cases c15 : 0 ≤ x5_2
             ·rw [if_pos c15] at H
              have c15b0 := decide_eq_true c15
              clear c15
              obtain ⟨ji16, hji16⟩ : ∃ j_ : Int, (wrap64 (x5_2 - 1)) = j_ := ⟨_, rfl⟩
              replace H : (if 0 ≤ (ji16) then (if (ji16) < (y317.length : Int) then (if (rd x0_2 ((x0_2.length : Int) - (y317.length : Int) + x5_2)) = (rd x0_2 ((x0_2.length : Int) - (y317.length : Int) + (ji16))) then (slices_Compact_int64.l1 k2 x0_2 x3_2 y317 (wrap64 (x5_2 + 1))) else (if 0 ≤ x3_2 then (if x3_2 < (x0_2.length : Int) then (slices_Compact_int64.l1 k2 (x0_2.set (x3_2 : Int).toNat (rd x0_2 ((x0_2.length : Int) - (y317.length : Int) + x5_2))) (wrap64 (x3_2 + 1)) y317 (wrap64 (x5_2 + 1))) else (none)) else (none))) else (none)) else (none)) = some r := by first | (rw [hji16] at H; exact H) | (simp only [hji16] at H ⊢; exact H)
              have hji16w : (IntKind.i64.wrap (x5_2 - 1)) = ji16 := (i64_w _).trans hji16
              by_cases c17 : 0 ≤ (ji16)
              ·rw [if_pos c17] at H
               have c17b0 := decide_eq_true c17
               clear c17
               by_cases c18 : (ji16) < (y317.length : Int)
               ·rw [if_pos c18] at H
                have c18b0 := decide_eq_true c18
                clear c18
                obtain ⟨rv1_, hrv1_⟩ : ∃ v_, v_ = (rd x0_2 ((x0_2.length : Int) - (y317.length : Int) + x5_2)) := ⟨_, rfl⟩
                rw [← hrv1_] at H
                have RV1_ := Aside0.mk hrv1_
                clear hrv1_
                obtain ⟨rv2_, hrv2_⟩ : ∃ v_, v_ = (rd x0_2 ((x0_2.length : Int) - (y317.length : Int) + (ji16))) := ⟨_, rfl⟩
                rw [← hrv2_] at H
                have RV2_ := Aside0.mk hrv2_
                clear hrv2_
                by_cases c19 : rv1_ = rv2_
                ·rw [if_pos c19] at H
                 have c19b0 : (rv1_ == rv2_) = true := beq_iff_eq.mpr c19
                 have c19b1 : (rv1_ != rv2_) = false := bne_eq_false_iff_eq.mpr c19
                 clear c19
                 have H' := Aside0.mk H
                 clear H
                 have p321 : 0 ≤ (x5_2 : Int) := q_d
                 have q321 : x5_2 < (y317.length : Int) := q_d
                 obtain ⟨ad321, e321, hx321_0⟩ := cut_at 0 HO_0.out KA13.out (KY13.out.trans (by have h1_ := hl0_1; have h2_ := hl0_2; omega)) x5_2 p321 q321
                 change _ = some (Value.int IntKind.i64 (rd x0_2 _)) at hx321_0
                 rw [← RV1_.out] at hx321_0
                 cases e321
                 replace p321 := eq_true p321
                 replace q321 := eq_true q321
                 have p322 : 0 ≤ ((ji16) : Int) := q_d
                 have q322 : (ji16) < (y317.length : Int) := q_d
                 obtain ⟨ad322, e322, hx322_0⟩ := cut_at 0 HO_0.out KA13.out (KY13.out.trans (by have h1_ := hl0_1; have h2_ := hl0_2; omega)) (ji16) p322 q322
                 change _ = some (Value.int IntKind.i64 (rd x0_2 _)) at hx322_0
                 rw [← RV2_.out] at hx322_0
                 obtain rfl : ad321 = ad322 := (by injection e322)
                 replace p322 := eq_true p322
                 replace q322 := eq_true q322
                 go_wp2
                 repeat (go_quiet (fail); try go_wp2)
                 (try simp only [← hl0_2])
                 go_roundg k2
                 case measure => have := HK1.out; have := HK2.out; omega
                 case rel => exact ⟨(x0_2), (x3_2), (wrap64 (x5_2 + 1)), q_i, q_i, H', ⟨by have := HK1.out; have := HK2.out; omega⟩, ⟨by (try simp only [hl0_1]); (try simp only [hl0_2]); (with_reducible repeat (first | apply Kd.R_alloc | apply Kd.R_drewN | apply Kd.R_drew)); exact HO_0.out⟩, ⟨q_k⟩, ⟨bq⟩⟩
                ·rw [if_neg c19] at H
                 have c19b0 : (rv1_ == rv2_) = false := beq_eq_false_iff_ne.mpr c19
                 have c19b1 : (rv1_ != rv2_) = true := bne_iff_ne.mpr c19
                 by_cases c20 : 0 ≤ x3_2
                 ·rw [if_pos c20] at H
                  have c20b0 := decide_eq_true c20
                  clear c20
                  by_cases c21 : x3_2 < (x0_2.length : Int)
                  ·rw [if_pos c21] at H
                   have c21b0 := decide_eq_true c21
                   clear c21
                   obtain ⟨y324, hy324⟩ : ∃ y_ : List Int, y_ = (x0_2.set (x3_2 : Int).toNat rv1_) := ⟨_, rfl⟩
                   replace H : (slices_Compact_int64.l1 k2 y324 (wrap64 (x3_2 + 1)) y317 (wrap64 (x5_2 + 1))) = some r := q_h hy324 H
                   have Ny324 := Aside0.mk hy324
                   clear hy324
                   have H' := Aside0.mk H
                   clear H
                   have p321 : 0 ≤ (x5_2 : Int) := q_d
                   have q321 : x5_2 < (y317.length : Int) := q_d
                   obtain ⟨ad321, e321, hx321_0⟩ := cut_at 0 HO_0.out KA13.out (KY13.out.trans (by have h1_ := hl0_1; have h2_ := hl0_2; omega)) x5_2 p321 q321
                   change _ = some (Value.int IntKind.i64 (rd x0_2 _)) at hx321_0
                   rw [← RV1_.out] at hx321_0
                   cases e321
                   replace p321 := eq_true p321
                   replace q321 := eq_true q321
                   have p322 : 0 ≤ ((ji16) : Int) := q_d
                   have q322 : (ji16) < (y317.length : Int) := q_d
                   obtain ⟨ad322, e322, hx322_0⟩ := cut_at 0 HO_0.out KA13.out (KY13.out.trans (by have h1_ := hl0_1; have h2_ := hl0_2; omega)) (ji16) p322 q322
                   change _ = some (Value.int IntKind.i64 (rd x0_2 _)) at hx322_0
                   rw [← RV2_.out] at hx322_0
                   obtain rfl : ad321 = ad322 := (by injection e322)
                   replace p322 := eq_true p322
                   replace q322 := eq_true q322
                   have p323 : 0 ≤ (x5_2 : Int) := q_d
                   have q323 : x5_2 < (y317.length : Int) := q_d
                   obtain ⟨ad323, e323, hx323_0⟩ := cut_at 0 HO_0.out KA13.out (KY13.out.trans (by have h1_ := hl0_1; have h2_ := hl0_2; omega)) x5_2 p323 q323
                   change _ = some (Value.int IntKind.i64 (rd x0_2 _)) at hx323_0
                   rw [← RV1_.out] at hx323_0
                   obtain rfl : ad321 = ad323 := (by injection e323)
                   replace p323 := eq_true p323
                   replace q323 := eq_true q323
                   have p22 : 0 ≤ (x3_2 : Int) := q_d
                   have q22 : (x3_2 : Int) < ((x0_2.length : Int) : Int) := q_d
                   obtain ⟨go22, co22, eo22, gb22, gl22, cl22, HG22⟩ := Kd.R_form HO_0.out (by omega)
                   (first | cases eo22 | (injection eo22 with ea_ en_ ec_; (first | subst ea_ | (injection ea_ with ea_; subst ea_)); subst ec_; clear en_))
                   have GB22 := Aside0.mk gb22
                   have GG22 := Aside0.mk HG22
                   clear gb22 gl22 HG22
                   have HMgo22 := Aside0.mk (show (P0_ go_ ∨ w.heap.size ≤ go_) from (HO_0.out.1 _ rfl))
                   (first | simp only [add_plain] at hx315_0 | skip)
                   (first | simp only [add_plain] at hx316_0 | skip)
                   obtain ⟨hx22_0, hf22_0⟩ := Kd.R_celln 0 HO_0.out (x3_2 : Int) p22 q22
                   replace p22 := eq_true p22
                   replace q22 := eq_true q22
                   have HP23 := Kd.R_putg HO_0.out (x3_2 : Int) rv1_
                   go_wp2_with (first | ((with_reducible refine gate_store (t := 2) (p := 51) rfl ?_); (try (rw [drewN_self wr]; generalize hq_ : World.drewN wr _ = wr; have n0_ := Aside0.mk (Kd.R_at hq_ HO_0.out); have n1_ := Aside0.mk (kept_at hq_ HK.out); have n2_ := Aside0.mk (below_at hq_ HB.out); clear hq_ HO_0 HK HB; revert n0_ n1_ n2_; intro HO_0 HK HB; (try (have HP23 := Kd.R_putg HO_0.out (x3_2 : Int) rv1_)); (try (obtain ⟨hxn_, hfn_⟩ := Kd.R_celln 0 HO_0.out (x3_2 : Int) q_d q_d)))); refine store_event (t := 2) (p := 51) (v := ?vo_w24) (w1 := (wr.setCell ⟨go_, (x3_2 : Int).toNat, none⟩ (.int .i64 rv1_))) ?hg ?ho ?hn ?hr ?_; (case ho => rfl); (case hg => rfl); (case hn => rfl); (case hr => first | (go_simp; done) | (go_simp; rfl)); intro w24 hw; have hg : wr.grownBy w24 (some go_) := (by rw [hw]; exact HP23.2); have hp_ : Kd.R (Kd.int .i64) 2 w24 w0.heap.size (fun k_ => (P0_ k_ ∨ w.heap.size ≤ k_)) (.slice (some ⟨go_, 0, none⟩) x0_2.length co4) y324 := (by rw [hw, Ny324.out]; exact HP23.1); clear HP23; have n0_ := Aside0.mk (hp_); have n1_ := Aside0.mk ((by rw [hw]; exact below_set (HB.out) GB22.out : Below w0.heap.size w0 w24)); have n2_ := Aside0.mk (Kept.of_grown (S := (fun k_ => P0_ k_)) hg q_k (fun k_ e_ => (HO_0.out.1 k_ e_))); revert n0_ n1_ n2_; clear HO_0 HB HK; intro HO_0 HB HK; clear hg hw hp_))
                   repeat (go_quiet (first | ((with_reducible refine gate_store (t := 2) (p := 51) rfl ?_); (try (rw [drewN_self wr]; generalize hq_ : World.drewN wr _ = wr; have n0_ := Aside0.mk (Kd.R_at hq_ HO_0.out); have n1_ := Aside0.mk (kept_at hq_ HK.out); have n2_ := Aside0.mk (below_at hq_ HB.out); clear hq_ HO_0 HK HB; revert n0_ n1_ n2_; intro HO_0 HK HB; (try (have HP23 := Kd.R_putg HO_0.out (x3_2 : Int) rv1_)); (try (obtain ⟨hxn_, hfn_⟩ := Kd.R_celln 0 HO_0.out (x3_2 : Int) q_d q_d)))); refine store_event (t := 2) (p := 51) (v := ?vo_w24) (w1 := (wr.setCell ⟨go_, (x3_2 : Int).toNat, none⟩ (.int .i64 rv1_))) ?hg ?ho ?hn ?hr ?_; (case ho => rfl); (case hg => rfl); (case hn => rfl); (case hr => first | (go_simp; done) | (go_simp; rfl)); intro w24 hw; have hg : wr.grownBy w24 (some go_) := (by rw [hw]; exact HP23.2); have hp_ : Kd.R (Kd.int .i64) 2 w24 w0.heap.size (fun k_ => (P0_ k_ ∨ w.heap.size ≤ k_)) (.slice (some ⟨go_, 0, none⟩) x0_2.length co4) y324 := (by rw [hw, Ny324.out]; exact HP23.1); clear HP23; have n0_ := Aside0.mk (hp_); have n1_ := Aside0.mk ((by rw [hw]; exact below_set (HB.out) GB22.out : Below w0.heap.size w0 w24)); have n2_ := Aside0.mk (Kept.of_grown (S := (fun k_ => P0_ k_)) hg q_k (fun k_ e_ => (HO_0.out.1 k_ e_))); revert n0_ n1_ n2_; clear HO_0 HB HK; intro HO_0 HB HK; clear hg hw hp_)); try go_wp2_with (first | ((with_reducible refine gate_store (t := 2) (p := 51) rfl ?_); (try (rw [drewN_self wr]; generalize hq_ : World.drewN wr _ = wr; have n0_ := Aside0.mk (Kd.R_at hq_ HO_0.out); have n1_ := Aside0.mk (kept_at hq_ HK.out); have n2_ := Aside0.mk (below_at hq_ HB.out); clear hq_ HO_0 HK HB; revert n0_ n1_ n2_; intro HO_0 HK HB; (try (have HP23 := Kd.R_putg HO_0.out (x3_2 : Int) rv1_)); (try (obtain ⟨hxn_, hfn_⟩ := Kd.R_celln 0 HO_0.out (x3_2 : Int) q_d q_d)))); refine store_event (t := 2) (p := 51) (v := ?vo_w24) (w1 := (wr.setCell ⟨go_, (x3_2 : Int).toNat, none⟩ (.int .i64 rv1_))) ?hg ?ho ?hn ?hr ?_; (case ho => rfl); (case hg => rfl); (case hn => rfl); (case hr => first | (go_simp; done) | (go_simp; rfl)); intro w24 hw; have hg : wr.grownBy w24 (some go_) := (by rw [hw]; exact HP23.2); have hp_ : Kd.R (Kd.int .i64) 2 w24 w0.heap.size (fun k_ => (P0_ k_ ∨ w.heap.size ≤ k_)) (.slice (some ⟨go_, 0, none⟩) x0_2.length co4) y324 := (by rw [hw, Ny324.out]; exact HP23.1); clear HP23; have n0_ := Aside0.mk (hp_); have n1_ := Aside0.mk ((by rw [hw]; exact below_set (HB.out) GB22.out : Below w0.heap.size w0 w24)); have n2_ := Aside0.mk (Kept.of_grown (S := (fun k_ => P0_ k_)) hg q_k (fun k_ e_ => (HO_0.out.1 k_ e_))); revert n0_ n1_ n2_; clear HO_0 HB HK; intro HO_0 HB HK; clear hg hw hp_)))
                   (try simp only [← hl0_2])
                   go_roundg k2
                   case measure => have := HK1.out; have := HK2.out; omega
                   case rel => exact ⟨(y324), (wrap64 (x3_2 + 1)), (wrap64 (x5_2 + 1)), q_i, q_i, H', ⟨by have := HK1.out; have := HK2.out; omega⟩, ⟨by (try simp only [hl0_1]); (try simp only [hl0_2]); (with_reducible repeat (first | apply Kd.R_alloc | apply Kd.R_drewN | apply Kd.R_drew)); exact HO_0.out⟩, ⟨q_k⟩, ⟨bq⟩⟩
                  ·rw [if_neg c21] at H
                   exact absurd H (by simp)
                 ·rw [if_neg c20] at H
                  exact absurd H (by simp)
               ·rw [if_neg c18] at H
                exact absurd H (by simp)
              ·rw [if_neg c17] at H
               exact absurd H (by simp)
             ·rw [if_neg c15] at H
              exact absurd H (by simp)
            ·rw [if_neg c14] at H
             have c14b0 := decide_eq_false c14
             clear c14
             have cq_ : x3_2 < (x0_2.length : Int) := by
              by_cases h_ : x3_2 < (x0_2.length : Int)
              ·exact h_
              ·rw [if_neg h_] at H
               exact absurd H (by simp)
             rw [if_pos cq_] at H
             have CQ_ := Aside0.mk cq_
             clear cq_
             by_cases c25 : 0 ≤ x3_2
             ·rw [if_pos c25] at H
              have c25b0 := eq_true c25
              have c25b1 := decide_eq_true c25
              clear c25
              by_cases c26 : x3_2 ≤ (x0_2.length : Int)
              ·rw [if_pos c26] at H
               have c26b0 := eq_true c26
               have c26b1 := decide_eq_true c26
               clear c26
               obtain ⟨y325, hy325⟩ : ∃ y_ : List Int, y_ = (x0_2.drop (x3_2 : Int).toNat) := ⟨_, rfl⟩
               replace H : (some (x0_2.take (x3_2 : Int).toNat)) = some r := q_h hy325 H
               have Ny325 := Aside0.mk hy325
               clear hy325
               have c27b0 := eq_true (q_d : x3_2 ≤ (x0_2.length : Int))
               obtain ⟨y329, hy329⟩ : ∃ y_ : List Int, y_ = (x0_2.take (x3_2 : Int).toNat) := ⟨_, rfl⟩
               replace H : (some y329) = some r := q_h hy329 H
               have Ny329 := Aside0.mk hy329
               clear hy329
               obtain rfl := Option.some.inj H
               have q28 : (x3_2 : Int) ≤ ((x0_2.length : Int) : Int) := q_d
               obtain ⟨i028, hi028, _, hsz28, _⟩ := info_parts info2
               have hroom28 : x0_2.length ≤ co4 := (Kd.R_reads' HO_0.out).2.1
               have hC28 : Kd.C (Kd.int .i64) _ (some ⟨go_, 0, none⟩) x0_2.length x0_2 := (Kd.R_reads' HO_0.out).2.2
               have q028 : (0 : Int) ≤ (x3_2 : Int) := q_d
               have hcut28 := cut_from (P := Try.prog) 81 2 .i64 Try.underlying81 hi028 1 hsz28 (some ⟨go_, 0, none⟩) x0_2.length co4 x3_2 q028 q28
               have hr28 := Kd.C_drop (m := (x3_2 : Int).toNat) (c := co4) hC28 (by omega) hroom28
               obtain ⟨A28, hA28⟩ : ∃ A1, A1 = (if co4 = (x3_2 : Int).toNat then (some ⟨go_, 0, none⟩) else ((some ⟨go_, 0, none⟩) : Option Addr).map (·.add ((x3_2 : Int).toNat * 1))) := ⟨_, rfl⟩
               obtain ⟨c28, hc28⟩ : ∃ c1, c1 = co4 - (x3_2 : Int).toNat := ⟨_, rfl⟩
               have hy28 : y325.length = x0_2.length - (x3_2 : Int).toNat := (by rw [Ny325.out, List.length_drop] <;> omega)
               rw [show (x0_2).drop (x3_2 : Int).toNat = y325 from Ny325.out.symm] at hr28
               replace hr28 : Kd.C (Kd.int .i64) _ A28 y325.length y325 := (by rw [hA28]; exact hr28)
               rw [← hy28, ← hA28, ← hc28] at hcut28
               have HR328 := Aside0.mk hr28
               have HC328 := Aside0.mk (show y325.length ≤ c28 from by rw [hy28, hc28]; exact Nat.sub_le_sub_right hroom28 _)
               clear hr28 hC28 hroom28 hi028 hsz28 hc28
               have KY28 := Aside0.mk hy28
               have KA28 := Aside0.mk hA28
               clear hy28 hA28
               have KL28 := Aside0.mk (show (x3_2 : Int).toNat ≤ x0_2.length from by omega)
               replace q28 := eq_true q28
               have q29 : (x3_2 : Int) ≤ ((x0_2.length : Int) : Int) := q_d
               obtain ⟨i029, hi029, _, hsz29, _⟩ := info_parts info2
               have hcut29 := cut_to (P := Try.prog) 81 2 .i64 Try.underlying81 hi029 (some ⟨go_, 0, none⟩) x0_2.length co4 x3_2 q_d q29 (Kd.R_reads' HO_0.out).2.1
               have hy29 : y329.length = (x3_2 : Int).toNat := (by rw [Ny329.out, List.length_take]; omega)
               rw [← hy29] at hcut29
               have KW_ := Aside0.mk hy29
               clear hy29 hi029 hsz29
               replace q29 := eq_true q29
               have c0q_ := Aside0.mk (decide_eq_true (show (0 : Int) ≤ x3_2 from q_d))
               go_wp2_with (first | ((with_reducible refine gate_builtin (b := .clear) (xs := #[.tmp 56]) rfl ?_); refine clear_event rfl (.tmp 56) 81 2 (.int .i64 0) rfl Try.underlying81 (fun w_ => by kernel_rfl) rfl rfl (q_r (HO_0.out)) (by first | rfl | exact hl0_2 | omega) (k := x3_2) (of_decide_eq_true c0q_.out) CQ_.out KA28.out (KY28.out.trans (by first | rfl | omega)) rfl ?_; intro wc_ hc_ hgc_; have n0_ := Aside0.mk (show Kd.R (Kd.int .i64) 2 wc_ w0.heap.size _ (.slice _ y329.length _) y329 from (by rw [show y329 = _ from Ny329.out, show List.length (List.take _ _) = (x3_2 : Int).toNat from (by rw [← show y329 = _ from Ny329.out]; exact KW_.out)]; exact hc_)); have n1_ := Aside0.mk (show Below w0.heap.size w0 wc_ from Below.grown (B := w0.heap.size) (a := w0) bq hgc_ (below_size bq) (fun k_ hk_ => Kd.R_base HO_0.out k_ hk_)); have n2_ := Aside0.mk (show Kept w wc_ (fun k_ => P0_ k_) from Kept.of_grown (S := (fun k_ => P0_ k_)) hgc_ q_k (fun k_ e_ => (HO_0.out.1 k_ e_))); clear HO_0 HB HK; have HO331 := n0_; have HB := n1_; have HK := n2_; clear n0_ n1_ n2_ hc_ hgc_))
               repeat (go_quiet (first | ((with_reducible refine gate_builtin (b := .clear) (xs := #[.tmp 56]) rfl ?_); refine clear_event rfl (.tmp 56) 81 2 (.int .i64 0) rfl Try.underlying81 (fun w_ => by kernel_rfl) rfl rfl (q_r (HO_0.out)) (by first | rfl | exact hl0_2 | omega) (k := x3_2) (of_decide_eq_true c0q_.out) CQ_.out KA28.out (KY28.out.trans (by first | rfl | omega)) rfl ?_; intro wc_ hc_ hgc_; have n0_ := Aside0.mk (show Kd.R (Kd.int .i64) 2 wc_ w0.heap.size _ (.slice _ y329.length _) y329 from (by rw [show y329 = _ from Ny329.out, show List.length (List.take _ _) = (x3_2 : Int).toNat from (by rw [← show y329 = _ from Ny329.out]; exact KW_.out)]; exact hc_)); have n1_ := Aside0.mk (show Below w0.heap.size w0 wc_ from Below.grown (B := w0.heap.size) (a := w0) bq hgc_ (below_size bq) (fun k_ hk_ => Kd.R_base HO_0.out k_ hk_)); have n2_ := Aside0.mk (show Kept w wc_ (fun k_ => P0_ k_) from Kept.of_grown (S := (fun k_ => P0_ k_)) hgc_ q_k (fun k_ e_ => (HO_0.out.1 k_ e_))); clear HO_0 HB HK; have HO331 := n0_; have HB := n1_; have HK := n2_; clear n0_ n1_ n2_ hc_ hgc_)); try go_wp2_with (first | ((with_reducible refine gate_builtin (b := .clear) (xs := #[.tmp 56]) rfl ?_); refine clear_event rfl (.tmp 56) 81 2 (.int .i64 0) rfl Try.underlying81 (fun w_ => by kernel_rfl) rfl rfl (q_r (HO_0.out)) (by first | rfl | exact hl0_2 | omega) (k := x3_2) (of_decide_eq_true c0q_.out) CQ_.out KA28.out (KY28.out.trans (by first | rfl | omega)) rfl ?_; intro wc_ hc_ hgc_; have n0_ := Aside0.mk (show Kd.R (Kd.int .i64) 2 wc_ w0.heap.size _ (.slice _ y329.length _) y329 from (by rw [show y329 = _ from Ny329.out, show List.length (List.take _ _) = (x3_2 : Int).toNat from (by rw [← show y329 = _ from Ny329.out]; exact KW_.out)]; exact hc_)); have n1_ := Aside0.mk (show Below w0.heap.size w0 wc_ from Below.grown (B := w0.heap.size) (a := w0) bq hgc_ (below_size bq) (fun k_ hk_ => Kd.R_base HO_0.out k_ hk_)); have n2_ := Aside0.mk (show Kept w wc_ (fun k_ => P0_ k_) from Kept.of_grown (S := (fun k_ => P0_ k_)) hgc_ q_k (fun k_ e_ => (HO_0.out.1 k_ e_))); clear HO_0 HB HK; have HO331 := n0_; have HB := n1_; have HK := n2_; clear n0_ n1_ n2_ hc_ hgc_)))
               go_ret
               exact ⟨_, by first | rfl | (simp [errW_none, errW_some] <;> rfl) | (simp only [← hji7]; first | rfl | (simp [errW_none, errW_some] <;> rfl)) | (simp [*, errW_none, errW_some] <;> rfl), q_r (HO331.out), bq, q_k⟩
              ·rw [if_neg c26] at H
               exact absurd H (by simp)
             ·rw [if_neg c25] at H
              exact absurd H (by simp)
         ·rw [if_neg c12] at H
          exact absurd H (by simp)
        ·rw [if_neg c10] at H
         have c10b0 : ((rd x0_1 x3_1) == (rd x0_1 (ji7))) = false := beq_eq_false_iff_ne.mpr c10
         have c10b1 : ((rd x0_1 x3_1) != (rd x0_1 (ji7))) = true := bne_iff_ne.mpr c10
         have H' := Aside0.mk H
         clear H
         have p315 : 0 ≤ (x3_1 : Int) := q_d
         have q315 : x3_1 < (x0_1.length : Int) := q_d
         obtain ⟨adq_, e315, hx315_0⟩ := Kd.at_int (Kd.R_reads' HO_0.out).2.2 x3_1 p315 q315
         cases e315
         (try simp only [add_plain] at hx315_0)
         replace p315 := eq_true p315
         replace q315 := eq_true q315
         have p316 : 0 ≤ ((ji7) : Int) := q_d
         have q316 : (ji7) < (x0_1.length : Int) := q_d
         obtain ⟨ad316, e316, hx316_0⟩ := Kd.at_int (Kd.R_reads' HO_0.out).2.2 (ji7) p316 q316
         cases e316
         (try simp only [add_plain] at hx316_0)
         replace p316 := eq_true p316
         replace q316 := eq_true q316
         go_wp2
         repeat (go_quiet (fail); try go_wp2)
         (try simp only [← hl0_1])
         go_roundg k1
         case measure => have := HK1.out; omega
         case rel => exact ⟨(x0_1), (wrap64 (x3_1 + 1)), q_i, H', ⟨by have := HK1.out; omega⟩, ⟨by (try simp only [hl0_1]); (with_reducible repeat (first | apply Kd.R_alloc | apply Kd.R_drewN | apply Kd.R_drew)); exact HO_0.out⟩, ⟨q_k⟩, ⟨bq⟩⟩
       ·rw [if_neg c9] at H
        exact absurd H (by simp)
      ·rw [if_neg c8] at H
       exact absurd H (by simp)
     ·rw [if_neg c6] at H
      exact absurd H (by simp)
    ·rw [if_neg c5] at H
     have c5b0 := decide_eq_false c5
     clear c5
     obtain rfl := Option.some.inj H
     go_wp2
     repeat (go_quiet (fail); try go_wp2)
     go_ret
     exact ⟨_, q_e, q_r (HO_0.out), bq, q_k⟩

/-! ### impl_shardsOf: function 101 -/
def impl_shardsOf.l0 : Nat → List Int → List (S89) → Int → Int → Option (List Int)
  | 0, _, _, _, _ => none
  | k + 1, x3, x8, x9, x10 => if x10 < x9 then (if 0 ≤ x10 then (if x10 < (x8.length : Int) then (if x3.length < 17592186044416 then (impl_shardsOf.l0 k (x3 ++ [(rd_T89 x8 x10).f0]) x8 x9 (wrap64 (x10 + 1))) else (none)) else (none)) else (none)) else ((slices_Sort_int64.f k x3).bind fun t341 => ((slices_Compact_int64.f k t341).bind fun t342 => (some t342)))
def impl_shardsOf.f (k : Nat) (a0_0 : Int) (l0_1 : List (S89)) : Option (List Int) := impl_shardsOf.l0 k (([] : List Int)) l0_1 (l0_1.length : Int) 0
set_option maxHeartbeats 8000000 in
set_option maxRecDepth 100000 in
theorem impl_shardsOf.calls (k : Nat) (a0_0 : Int) (A0_1 : Option Addr) (c0_1 : Nat) (l0_1 : List (S89)) (r : List Int) (w : World) (hr0_1 : Kd.C k89 w A0_1 l0_1.length l0_1) (hc0_1 : l0_1.length ≤ c0_1) (h : impl_shardsOf.f k a0_0 l0_1 = some r) :
  Calls Try.prog 101 #[.agg #[.int .i64 a0_0, .slice A0_1 l0_1.length c0_1]] w fun e w' => ∃ v0_ : Value, e = .returned (v0_) ∧ Kd.R (Kd.int .i64) 2 w' w.heap.size (fun _ => True) v0_ r ∧ Below w.heap.size w w' := by
 have hu36 := Try.underlying36
 have hu89 := Try.underlying89
 have HR0_1 := Aside0.mk hr0_1
 have HC0_1 := Aside0.mk hc0_1
 clear hr0_1 hc0_1
 have HB := Aside0.mk (Below.refl w.heap.size w)
 have H : (impl_shardsOf.l0 k (([] : List Int)) l0_1 (l0_1.length : Int) 0) = some r := h
 clear h
 obtain ⟨y333, hy333⟩ : ∃ y_ : List Int, y_ = (([] : List Int)) := ⟨_, rfl⟩
 replace H : (impl_shardsOf.l0 k y333 l0_1 (l0_1.length : Int) 0) = some r := q_h hy333 H
 have Ny333 := Aside0.mk hy333
 clear hy333
 have H' := Aside0.mk H
 clear H
 go_enter Try.func101, Try.ntmps101
 go_wp2_with (first | ((with_reducible refine gate_dst (N := 1) rfl ?_); refine q_box (N := 1) (cs := #[.int .i64 a0_0, .slice A0_1 l0_1.length c0_1]) (t := 36) ?_; intro gb332 hg w2 hbox hb; have n0_ := Aside0.mk (below_step bq hb); have n1_ := Aside0.mk (hbox); have n2_ := Aside0.mk ((q_g hg bq : w.heap.size ≤ gb332)); have n3_ := Aside0.mk ((q_g hg bq : w.heap.size ≤ gb332)); revert n0_ n1_ n2_ n3_; clear HB; intro HB BK332 GW332 GE332; clear hb hbox hg) | ((with_reducible refine gate_dst (N := 6) rfl ?_); refine Kd.R_lit (Kd.int .i64) _ 2 ?hg (N := 6) ?hd (xs := ([] : List Int)) (inner := []) (ok := fun _ => True) (okp := fun _ => True) ?hr ?hp (fun _ hk => hk) trivial (Below.refl _ _) (Nat.le_refl _) (by simp) ?_; (case hd => rfl); (case hg => rfl); (case hr => first | (go_simp; done) | (go_simp; rfl)); (case hp => exact (Reps.none _ _)); intro v334 w3 ho4 hb hg_ hnew_; clear hg_ hnew_; (first | rw [← Ny333.out] at ho4 | (simp only [Int.reduceToNat] at ho4; rw [← Ny333.out] at ho4)); have n0_ := Aside0.mk (Kd.R_lower ho4 (below_size bq)); have n1_ := Aside0.mk (blk_below (q_b BK332.out) hb); have n2_ := Aside0.mk (below_step bq hb); revert n0_ n1_ n2_; clear BK332 HB; intro HO335 BK332 HB; clear hb ho4; obtain ⟨hcz5_0, hcz5_1, hfz5_0, hfz5_1⟩ := q_2 BK332.out))
 go_loopg [3, 10] k (fun kq v3 v10 w' => ∃ (x3_1 : List Int) (x10_1 : Int), v10 = .int .i64 x10_1 ∧ Aside0 (impl_shardsOf.l0 kq x3_1 l0_1 (l0_1.length : Int) x10_1 = some r) ∧ Aside0 (kq ≤ k) ∧ Aside0 (Kd.R (Kd.int .i64) 2 w' w.heap.size (fun _ => True) v3 x3_1) ∧ Aside0 (w'.heap[gb332]? = some (.cells #[.int .i64 a0_0, (.slice A0_1 l0_1.length c0_1)] 36 (0, 0))) ∧ Aside0 (Below w.heap.size w w'))
 case atStart => exact ⟨(y333), (0), q_i, H', ⟨Nat.le_refl _⟩, ⟨q_r (HO335.out)⟩, ⟨q_b BK332.out⟩, ⟨bq⟩⟩
 case round =>
  clear H'
  (try clear c1); (try clear p2); (try clear hcz5_0); (try clear hcz5_1); (try clear hfz5_0); (try clear hfz5_1)
  obtain ⟨x3_1, x10_1, rfl, HA, HK1, HO_3, BK332, HB⟩ := hrel
  cases gk with
  | zero => exact absurd HA.out (by simp [impl_shardsOf.l0])
  | succ k1 =>
   have H := HA.out
   clear HA
   simp only [impl_shardsOf.l0] at H
   by_cases c6 : x10_1 < (l0_1.length : Int)
   ·rw [if_pos c6] at H
    have c6b0 := decide_eq_true c6
    clear c6
    by_cases c7 : 0 ≤ x10_1
    ·rw [if_pos c7] at H
     have c7b0 := decide_eq_true c7
     clear c7
     by_cases c8 : x10_1 < (l0_1.length : Int)
     ·rw [if_pos c8] at H
      have c8b0 := decide_eq_true c8
      clear c8
      by_cases c9 : x3_1.length < 17592186044416
      ·rw [if_pos c9] at H
       have LMc9 := Aside0.mk c9
       clear c9
       obtain ⟨y338, hy338⟩ : ∃ y_ : List Int, y_ = (x3_1 ++ [(rd_T89 l0_1 x10_1).f0]) := ⟨_, rfl⟩
       replace H : (impl_shardsOf.l0 k1 y338 l0_1 (l0_1.length : Int) (wrap64 (x10_1 + 1))) = some r := q_h hy338 H
       have Ny338 := Aside0.mk hy338
       clear hy338
       have H' := Aside0.mk H
       clear H
       have p336 : 0 ≤ (x10_1 : Int) := q_d
       have q336 : x10_1 < (l0_1.length : Int) := q_d
       obtain ⟨ad336, e336, hx336_0, hx336_1, hx336_2, hx336_3⟩ := at_T89 HR0_1.out x10_1 p336 q336
       cases e336
       replace hx336_0 := q_x HB.out hx336_0
       replace hx336_1 := q_x HB.out hx336_1
       replace hx336_2 := q_x HB.out hx336_2
       replace hx336_3 := q_x HB.out hx336_3
       replace p336 := eq_true p336
       replace q336 := eq_true q336
       go_wp2_with (first | ((with_reducible refine gate_dst (N := 5) rfl ?_); refine q_box (N := 5) (cs := #[.int .i64 0, .int .i64 0, .int .i64 0, .int .i64 0]) (t := 89) ?_; intro gb337 hg w10 hbox hb; have n0_ := Aside0.mk (Kd.R_below (q_r (HO_3.out)) hb); have n1_ := Aside0.mk (blk_below (q_b BK332.out) hb); have n2_ := Aside0.mk (below_step bq hb); have n3_ := Aside0.mk (hbox); have n4_ := Aside0.mk ((q_g hg bq : w.heap.size ≤ gb337)); have n5_ := Aside0.mk ((q_g hg bq : w.heap.size ≤ gb337)); have n6_ := Aside0.mk ((q_n hg (q_b BK332.out) : gb332 ≠ gb337)); have n7_ := Aside0.mk ((q_m hg (q_b BK332.out) : gb337 ≠ gb332)); revert n0_ n1_ n2_ n3_ n4_ n5_ n6_ n7_; clear HO_3 BK332 HB; intro HO_3 BK332 HB BK337 GW337 GE337 NB332_337 NB337_332; clear hb hbox hg; have hnb11 := NB337_332.out; have hnc11 := NB332_337.out; obtain ⟨hcz12_0, hcz12_1, hcz12_2, hcz12_3, hfz12_0, hfz12_1, hfz12_2, hfz12_3⟩ := q_4 BK337.out) | ((with_reducible refine gate_builtin (b := .append) (xs := #[.tmp 14, .tmp 17]) rfl ?_); at_builtin; refine Kd.R_append (Kd.int .i64) (w0 := w) w.heap.size rfl (.tmp 14) (.tmp 17) 81 2 (.int .i64 0) 8 rfl Try.underlying81 info2 rfl (by decide) (by omega) u3 x3_1 ((rd_T89 l0_1 x10_1).f0) [.int .i64 ((rd_T89 l0_1 x10_1).f0)] (fun _ => True) (fun _ => False) rfl (by first | (go_simp; done) | (go_simp; rfl)) ?aP (fun _ hk => hk.elim) ?aF ?aO ?aB ?aS ?aL ?_; (case aP => exact rfl); (case aB => exact bq); (case aF => exact (fun _ _ => trivial)); (case aO => exact (by (with_reducible repeat (first | apply Kd.R_alloc | apply Kd.R_drewN | apply Kd.R_drew)); exact Kd.R_mono (Kd.R_far (p := ⟨gb337, 3, none⟩) (Kd.R_far (p := ⟨gb337, 2, none⟩) (Kd.R_far (p := ⟨gb337, 1, none⟩) (Kd.R_far (p := ⟨gb337, 0, none⟩) (Kd.R_types HO_3.out BK337.out (by decide)) (fun _ hk => hk.2) (.int .i64 ((rd_T89 l0_1 x10_1).f0))) (fun _ hk => hk.2) (.int .i64 ((rd_T89 l0_1 x10_1).f1))) (fun _ hk => hk.2) (.int .i64 ((rd_T89 l0_1 x10_1).f2))) (fun _ hk => hk.2) (.int .i64 ((rd_T89 l0_1 x10_1).f3))) (fun _ hk => trivial))); (case aS => exact (below_size bq)); (case aL => have := LMc9.out; omega); intro v339 w13 ho hb hg hat; rw [← Ny338.out] at ho; have n0_ := Aside0.mk (blk_grown (g := gb332) (o := .cells #[.int .i64 a0_0, .slice (some ad336) l0_1.length c0_1] 36 (0, 0)) (by (with_reducible repeat (first | refine blk_drewN ?_ _ | refine blk_drew ?_ | refine blk_alloc ?_ _)); refine blk_far ?_ NB332_337.out _; (with_reducible repeat (first | refine blk_drewN ?_ _ | refine blk_drew ?_ | refine blk_alloc ?_ _)); refine blk_far ?_ NB332_337.out _; (with_reducible repeat (first | refine blk_drewN ?_ _ | refine blk_drew ?_ | refine blk_alloc ?_ _)); refine blk_far ?_ NB332_337.out _; (with_reducible repeat (first | refine blk_drewN ?_ _ | refine blk_drew ?_ | refine blk_alloc ?_ _)); refine blk_far ?_ NB332_337.out _; (with_reducible repeat (first | refine blk_drewN ?_ _ | refine blk_drew ?_ | refine blk_alloc ?_ _)); exact BK332.out) hg (Kd.R_ne HO_3.out BK332.out (by decide))); have n1_ := Aside0.mk (blk_grown (g := gb337) (o := .cells #[.int .i64 ((rd_T89 l0_1 x10_1).f0), .int .i64 ((rd_T89 l0_1 x10_1).f1), .int .i64 ((rd_T89 l0_1 x10_1).f2), .int .i64 ((rd_T89 l0_1 x10_1).f3)] 89 (0, 0)) (by (with_reducible repeat (first | refine blk_drewN ?_ _ | refine blk_drew ?_ | refine blk_alloc ?_ _)); refine blk_put (cs := #[.int .i64 ((rd_T89 l0_1 x10_1).f0), .int .i64 ((rd_T89 l0_1 x10_1).f1), .int .i64 ((rd_T89 l0_1 x10_1).f2), .int .i64 0]) ?_ 3 _ rfl; (with_reducible repeat (first | refine blk_drewN ?_ _ | refine blk_drew ?_ | refine blk_alloc ?_ _)); refine blk_put (cs := #[.int .i64 ((rd_T89 l0_1 x10_1).f0), .int .i64 ((rd_T89 l0_1 x10_1).f1), .int .i64 0, .int .i64 0]) ?_ 2 _ rfl; (with_reducible repeat (first | refine blk_drewN ?_ _ | refine blk_drew ?_ | refine blk_alloc ?_ _)); refine blk_put (cs := #[.int .i64 ((rd_T89 l0_1 x10_1).f0), .int .i64 0, .int .i64 0, .int .i64 0]) ?_ 1 _ rfl; (with_reducible repeat (first | refine blk_drewN ?_ _ | refine blk_drew ?_ | refine blk_alloc ?_ _)); refine blk_put (cs := #[.int .i64 0, .int .i64 0, .int .i64 0, .int .i64 0]) ?_ 0 _ rfl; (with_reducible repeat (first | refine blk_drewN ?_ _ | refine blk_drew ?_ | refine blk_alloc ?_ _)); exact BK337.out) hg (Kd.R_ne HO_3.out BK337.out (by decide))); have n2_ := Aside0.mk (hb); have n3_ := Aside0.mk (ho); revert n0_ n1_ n2_ n3_; clear BK332 BK337 HB HO_3; intro BK332 BK337 HB HO340; clear ho hb hg hat))
       go_roundg k1
       case measure => have := HK1.out; omega
       case rel => exact ⟨(y338), (wrap64 (x10_1 + 1)), q_i, H', ⟨by have := HK1.out; omega⟩, ⟨q_r (HO340.out)⟩, ⟨q_b BK332.out⟩, ⟨bq⟩⟩
      ·rw [if_neg c9] at H
       exact absurd H (by simp)
     ·rw [if_neg c8] at H
      exact absurd H (by simp)
    ·rw [if_neg c7] at H
     exact absurd H (by simp)
   ·rw [if_neg c6] at H
    have c6b0 := decide_eq_false c6
    clear c6
    replace H := Option.bind_eq_some_iff.mp H
    obtain ⟨t341, A140, H⟩ := H
    replace H : ((slices_Compact_int64.f k1 t341).bind fun t342 => (some t342)) = some r := H
    have A14 := Aside0.mk A140
    clear A140
    replace H := Option.bind_eq_some_iff.mp H
    obtain ⟨t342, A150, H⟩ := H
    replace H : (some t342) = some r := H
    have A15 := Aside0.mk A150
    clear A150
    obtain rfl := Option.some.inj H
    obtain ⟨Ao16, co16, eo16⟩ := Kd.R_slice HO_3.out
    subst eo16
    go_wp2_with (first | ((with_reducible refine gate_callee (f := 123) rfl ?_); refine goesLq (some 21) rfl rfl Try.func123 (by kernel_rfl) rfl #[.slice Ao16 x3_1.length co16] rfl ?_; (with_reducible refine (slices_Sort_int64.calls k1 (fun k_ => some k_ = (.slice Ao16 x3_1.length co16 : Value).ownBlock) (.slice Ao16 x3_1.length co16) x3_1 t341 w _ ?side1 ?side2 A14.out).mono ?_); (case side1 => repeat (first | (with_reducible first | exact HB.out | apply below_alloc | apply pw_below_drewN | apply below_drew1 | refine below_set ?_ GE332.out) | exact HB.out)); (case side2 => exact Kd.R_tight rfl HO_3.out); rintro e w17 ⟨rfl, hy0, hb, hkp⟩; refine ⟨_, rfl, ?_⟩; have n0_ := Aside0.mk (Kd.R_reok rfl hy0 (fun k_ e_ => HO_3.out.1 k_ e_)); have n1_ := Aside0.mk (blk_kept kq hkp (fun hs_ => (fun e_ => (Kd.R_ne HO_3.out BK332.out (by decide)) e_) hs_)); have n2_ := Aside0.mk (hb); revert n0_ n1_ n2_; clear HO_3 BK332 HB; intro HO_3 BK332 HB; (try clear hb); (try clear hkp); (try clear hy0)) | ((with_reducible refine gate_callee (f := 124) rfl ?_); refine goesLq (some 23) rfl rfl Try.func124 (by kernel_rfl) rfl #[.slice Ao16 x3_1.length co16] rfl ?_; (with_reducible refine (slices_Compact_int64.calls k1 (fun k_ => some k_ = (.slice Ao16 x3_1.length co16 : Value).ownBlock) (.slice Ao16 x3_1.length co16) t341 t342 w _ ?side1 ?side2 A15.out).mono ?_); (case side1 => repeat (first | (with_reducible first | exact HB.out | apply below_alloc | apply pw_below_drewN | apply below_drew1 | refine below_set ?_ GE332.out) | exact HB.out)); (case side2 => exact Kd.R_tight rfl HO_3.out); rintro e w18 ⟨v343, rfl, ho0, hb, hkp⟩; refine ⟨_, rfl, ?_⟩; have n0_ := Aside0.mk (blk_kept kq hkp (fun hs_ => (fun e_ => (Kd.R_ne HO_3.out BK332.out (by decide)) e_) hs_)); have n1_ := Aside0.mk (Kd.R_mono (ok' := fun k_ => True) ho0 (fun k_ hk_ => trivial)); have n2_ := Aside0.mk (hb); revert n0_ n1_ n2_; clear BK332 HB HO_3; intro BK332 HO344 HB; (try clear hb); (try clear hkp); (try clear ho0)))
    go_ret
    exact ⟨_, q_e, q_r (HO344.out), bq⟩

/-! ### impl_ShardsOf: function 60 -/
def impl_ShardsOf.f (k : Nat) (a0_0 : Int) (l0_1 : List (S89)) : Option (Int × List Int) := (impl_ContractFault.f k a0_0 l0_1).bind fun t347 => (if t347 = 0 then ((impl_shardsOf.f k a0_0 l0_1).bind fun t348 => (some (0, t348))) else (some (t347, ([] : List Int))))
set_option maxHeartbeats 8000000 in
set_option maxRecDepth 100000 in
theorem impl_ShardsOf.calls (k : Nat) (a0_0 : Int) (A0_1 : Option Addr) (c0_1 : Nat) (l0_1 : List (S89)) (r1 : Int) (r2 : List Int) (w : World) (hr0_1 : Kd.C k89 w A0_1 l0_1.length l0_1) (hc0_1 : l0_1.length ≤ c0_1) (h : impl_ShardsOf.f k a0_0 l0_1 = some (r1, r2)) :
  Calls Try.prog 60 #[.agg #[.int .i64 a0_0, .slice A0_1 l0_1.length c0_1]] w fun e w' => ∃ v1_ : Value, e = .returned (.agg #[.int .i64 r1, v1_]) ∧ Kd.R (Kd.int .i64) 2 w' w.heap.size (fun _ => True) v1_ r2 ∧ Below w.heap.size w w' := by
 have hu36 := Try.underlying36
 have hu83 := Try.underlying83
 have HR0_1 := Aside0.mk hr0_1
 have HC0_1 := Aside0.mk hc0_1
 clear hr0_1 hc0_1
 have HB := Aside0.mk (Below.refl w.heap.size w)
 have H : ((impl_ContractFault.f k a0_0 l0_1).bind fun t347 => (if t347 = 0 then ((impl_shardsOf.f k a0_0 l0_1).bind fun t348 => (some (0, t348))) else (some (t347, ([] : List Int))))) = some (r1, r2) := h
 clear h
 replace H := Option.bind_eq_some_iff.mp H
 obtain ⟨t347, A20, H⟩ := H
 replace H : (if t347 = 0 then ((impl_shardsOf.f k a0_0 l0_1).bind fun t348 => (some (0, t348))) else (some (t347, ([] : List Int)))) = some (r1, r2) := H
 have A2 := Aside0.mk A20
 clear A20
 by_cases c3 : t347 = 0
 ·rw [if_pos c3] at H
  have c3b0 : (t347 == 0) = true := beq_iff_eq.mpr c3
  have c3b1 : (t347 != 0) = false := bne_eq_false_iff_eq.mpr c3
  clear c3
  replace H := Option.bind_eq_some_iff.mp H
  obtain ⟨t348, A40, H⟩ := H
  replace H : (some (0, t348)) = some (r1, r2) := H
  have A4 := Aside0.mk A40
  clear A40
  simp only [Option.some.injEq, Prod.mk.injEq] at H
  obtain ⟨rfl, rfl⟩ := H
  go_enter Try.func60, Try.ntmps60
  go_wp2_with (first | ((with_reducible refine gate_dst (N := 1) rfl ?_); refine q_box (N := 1) (cs := #[.int .i64 a0_0, .slice A0_1 l0_1.length c0_1]) (t := 36) ?_; intro gb345 hg w5 hbox hb; have n0_ := Aside0.mk (below_step bq hb); have n1_ := Aside0.mk (hbox); have n2_ := Aside0.mk ((q_g hg bq : w.heap.size ≤ gb345)); have n3_ := Aside0.mk ((q_g hg bq : w.heap.size ≤ gb345)); revert n0_ n1_ n2_ n3_; clear HB; intro HB BK345 GW345 GE345; clear hb hbox hg) | ((with_reducible refine gate_dst (N := 2) rfl ?_); refine q_box (N := 2) (cs := #[.int .i64 0, .slice none 0 0]) (t := 83) ?_; intro gb346 hg w6 hbox hb; have n0_ := Aside0.mk (blk_below (q_b BK345.out) hb); have n1_ := Aside0.mk (below_step bq hb); have n2_ := Aside0.mk (hbox); have n3_ := Aside0.mk ((q_g hg bq : w.heap.size ≤ gb346)); have n4_ := Aside0.mk ((q_g hg bq : w.heap.size ≤ gb346)); have n5_ := Aside0.mk ((q_n hg (q_b BK345.out) : gb345 ≠ gb346)); have n6_ := Aside0.mk ((q_m hg (q_b BK345.out) : gb346 ≠ gb345)); revert n0_ n1_ n2_ n3_ n4_ n5_ n6_; clear BK345 HB; intro BK345 HB BK346 GW346 GE346 NB345_346 NB346_345; clear hb hbox hg; have hnb7 := NB345_346.out; have hnc7 := NB346_345.out; obtain ⟨hcz8_0, hcz8_1, hfz8_0, hfz8_1⟩ := q_2 BK345.out) | ((with_reducible refine gate_callee (f := 26) rfl ?_); refine goesLq (some 5) rfl rfl Try.func26 (by kernel_rfl) rfl #[.agg #[.int .i64 a0_0, .slice A0_1 l0_1.length c0_1]] rfl ?_; (with_reducible refine (impl_ContractFault.calls k a0_0 _ _ l0_1 t347 _ ?side1 ?side2 A2.out).mono ?_); (case side1 => exact q_c ((Kd.C_below HR0_1.out HB.out))); (case side2 => exact HC0_1.out); rintro e w9 ⟨rfl, hb⟩; refine ⟨_, rfl, ?_⟩; have n0_ := Aside0.mk (blk_below (q_b BK345.out) hb); have n1_ := Aside0.mk (blk_below (q_b BK346.out) hb); have n2_ := Aside0.mk (below_step bq hb); revert n0_ n1_ n2_; clear BK345 BK346 HB; intro BK345 BK346 HB; (try clear hb); (try clear hb2); (try clear hk); (try clear hi); obtain ⟨hcz10_0, hcz10_1, hfz10_0, hfz10_1⟩ := q_2 BK345.out) | ((with_reducible refine gate_callee (f := 101) rfl ?_); refine goesLq (some 11) rfl rfl Try.func101 (by kernel_rfl) rfl #[.agg #[.int .i64 a0_0, .slice A0_1 l0_1.length c0_1]] rfl ?_; (with_reducible refine (impl_shardsOf.calls k a0_0 _ _ l0_1 t348 _ ?side1 ?side2 A4.out).mono ?_); (case side1 => exact q_c ((Kd.C_below HR0_1.out HB.out))); (case side2 => exact HC0_1.out); rintro e w11 ⟨v349, rfl, ho0, hb⟩; refine ⟨_, rfl, ?_⟩; have n0_ := Aside0.mk (Kd.R_lower ho0 (below_size bq)); have n1_ := Aside0.mk (blk_below (q_b BK345.out) hb); have n2_ := Aside0.mk (blk_below (q_b BK346.out) hb); have n3_ := Aside0.mk (below_step bq hb); revert n0_ n1_ n2_ n3_; clear BK345 BK346 HB; intro HO350 BK345 BK346 HB; (try clear hb); (try clear hb2); (try clear hk); (try clear hi); (try clear ho0); obtain ⟨Ao12, co12, eo12⟩ := Kd.R_slice HO350.out; subst eo12; obtain ⟨hcz13_0, hcz13_1, hfz13_0, hfz13_1⟩ := q_2 BK346.out))
  refine bodyPost_ret (results_cell_row rfl _ _ gb346 83 #[.int .i64 0, .slice Ao12 t348.length co12] (0, 0) _ rfl (by (with_reducible repeat (first | refine blk_drewN ?_ _ | refine blk_drew ?_ | refine blk_alloc ?_ _)); refine blk_put (cs := #[.int .i64 0, .slice none 0 0]) ?_ 1 _ rfl; (with_reducible repeat (first | refine blk_drewN ?_ _ | refine blk_drew ?_ | refine blk_alloc ?_ _)); refine blk_put (cs := #[.int .i64 0, .slice none 0 0]) ?_ 0 _ rfl; (with_reducible repeat (first | refine blk_drewN ?_ _ | refine blk_drew ?_ | refine blk_alloc ?_ _)); exact BK346.out) Try.underlying83 rfl (by kernel_rfl)) rfl ?_
  exact ⟨_, q_e, by (with_reducible repeat (first | apply Kd.R_alloc | apply Kd.R_drewN | apply Kd.R_drew)); exact Kd.R_mono (Kd.R_far (p := ⟨gb346, 1, none⟩) (Kd.R_far (p := ⟨gb346, 0, none⟩) (Kd.R_types HO350.out BK346.out (by decide)) (fun _ hk => hk.2) (.int .i64 0)) (fun _ hk => hk.2) (.slice Ao12 t348.length co12)) (fun _ hk => trivial), bq⟩
 ·rw [if_neg c3] at H
  have c3b0 : (t347 == 0) = false := beq_eq_false_iff_ne.mpr c3
  have c3b1 : (t347 != 0) = true := bne_iff_ne.mpr c3
  simp only [Option.some.injEq, Prod.mk.injEq] at H
  obtain ⟨rfl, rfl⟩ := H
  go_enter Try.func60, Try.ntmps60
  go_wp2_with (first | ((with_reducible refine gate_dst (N := 1) rfl ?_); refine q_box (N := 1) (cs := #[.int .i64 a0_0, .slice A0_1 l0_1.length c0_1]) (t := 36) ?_; intro gb345 hg w14 hbox hb; have n0_ := Aside0.mk (below_step bq hb); have n1_ := Aside0.mk (hbox); have n2_ := Aside0.mk ((q_g hg bq : w.heap.size ≤ gb345)); have n3_ := Aside0.mk ((q_g hg bq : w.heap.size ≤ gb345)); revert n0_ n1_ n2_ n3_; clear HB; intro HB BK345 GW345 GE345; clear hb hbox hg) | ((with_reducible refine gate_dst (N := 2) rfl ?_); refine q_box (N := 2) (cs := #[.int .i64 0, .slice none 0 0]) (t := 83) ?_; intro gb346 hg w15 hbox hb; have n0_ := Aside0.mk (blk_below (q_b BK345.out) hb); have n1_ := Aside0.mk (below_step bq hb); have n2_ := Aside0.mk (hbox); have n3_ := Aside0.mk ((q_g hg bq : w.heap.size ≤ gb346)); have n4_ := Aside0.mk ((q_g hg bq : w.heap.size ≤ gb346)); have n5_ := Aside0.mk ((q_n hg (q_b BK345.out) : gb345 ≠ gb346)); have n6_ := Aside0.mk ((q_m hg (q_b BK345.out) : gb346 ≠ gb345)); revert n0_ n1_ n2_ n3_ n4_ n5_ n6_; clear BK345 HB; intro BK345 HB BK346 GW346 GE346 NB345_346 NB346_345; clear hb hbox hg; have hnb16 := NB345_346.out; have hnc16 := NB346_345.out; obtain ⟨hcz17_0, hcz17_1, hfz17_0, hfz17_1⟩ := q_2 BK345.out) | ((with_reducible refine gate_callee (f := 26) rfl ?_); refine goesLq (some 5) rfl rfl Try.func26 (by kernel_rfl) rfl #[.agg #[.int .i64 a0_0, .slice A0_1 l0_1.length c0_1]] rfl ?_; (with_reducible refine (impl_ContractFault.calls k a0_0 _ _ l0_1 t347 _ ?side1 ?side2 A2.out).mono ?_); (case side1 => exact q_c ((Kd.C_below HR0_1.out HB.out))); (case side2 => exact HC0_1.out); rintro e w18 ⟨rfl, hb⟩; refine ⟨_, rfl, ?_⟩; have n0_ := Aside0.mk (blk_below (q_b BK345.out) hb); have n1_ := Aside0.mk (blk_below (q_b BK346.out) hb); have n2_ := Aside0.mk (below_step bq hb); revert n0_ n1_ n2_; clear BK345 BK346 HB; intro BK345 BK346 HB; (try clear hb); (try clear hb2); (try clear hk); (try clear hi); obtain ⟨hcz19_0, hcz19_1, hfz19_0, hfz19_1⟩ := q_2 BK346.out))
  refine bodyPost_ret (results_cell_row rfl _ _ gb346 83 #[.int .i64 t347, .slice none 0 0] (0, 0) _ rfl (by (with_reducible repeat (first | refine blk_drewN ?_ _ | refine blk_drew ?_ | refine blk_alloc ?_ _)); refine blk_put (cs := #[.int .i64 t347, .slice none 0 0]) ?_ 1 _ rfl; (with_reducible repeat (first | refine blk_drewN ?_ _ | refine blk_drew ?_ | refine blk_alloc ?_ _)); refine blk_put (cs := #[.int .i64 0, .slice none 0 0]) ?_ 0 _ rfl; (with_reducible repeat (first | refine blk_drewN ?_ _ | refine blk_drew ?_ | refine blk_alloc ?_ _)); exact BK346.out) Try.underlying83 rfl (by kernel_rfl)) rfl ?_
  exact ⟨_, q_e, by first | exact Kd.R_nil _ _ _ _ _ | exact Kd.N_nil _ _ _ _ _ | exact Kd.V_nil _ _ _ _ _ | exact Kd.Q_nil _ _ _ _ _ | exact Kd.S_nil _ _ _ _ _, bq⟩

end Go.Proofs.Ytooiamkaipdmpaa.PFnContracts
