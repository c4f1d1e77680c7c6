/- The functions that a law reaches, each as a plain Lean function with the proof that the machine comes to its answer: written by program (the kit's print, turned by wip/gen). No conditions. -/
import Derived.Test.YtooiamkaipdmpaaPFnExactShardsOfx0
import Derived.Test.YtooiamkaipdmpaaPFnExactShardsOfx3
import Derived.Test.YtooiamkaipdmpaaPFnExactShardsOfx4
namespace Go.Proofs.Ytooiamkaipdmpaa.PFnExactShardsOf
open Go.RowKit Go.Proofs.YtooiamkaipdmpaaW.PrintWords Go.Proofs.YtooiamkaipdmpaaW.PrintLast Go.Proofs.YtooiamkaipdmpaaW.PrintMore
attribute [local go_sem] max2_int min2_int max_two min_two max_three min_three max_four min_four   -- for this text's walks alone
set_option linter.unusedVariables false
set_option linter.unusedSimpArgs false

/-! ### slices_pdqsortOrdered_int64: function 128 -/
def slices_pdqsortOrdered_int64.l0 : Nat → List Int → Int → Int → Option (List Int)
  | 0, _, _, _ => none
  | k + 1, x0, x1, x2 => if (wrap64 (x2 - x1)) ≤ 12 then ((slices_insertionSortOrdered_int64.f k x0 x1 x2).bind fun t172 => (some t172)) else (none)
def slices_pdqsortOrdered_int64.f (k : Nat) (l0 : List Int) (a1 : Int) (a2 : Int) (a3 : Int) : Option (List Int) := slices_pdqsortOrdered_int64.l0 k l0 a1 a2
theorem slices_pdqsortOrdered_int64.mono_l : ∀ k, (∀ y0 y1 y2, LeO (slices_pdqsortOrdered_int64.l0 k y0 y1 y2) (slices_pdqsortOrdered_int64.l0 (k + 1) y0 y1 y2))
  | 0 => fun _ _ _ r h => by simp [slices_pdqsortOrdered_int64.l0] at h
  | k + 1 => by
    have ih0 := slices_pdqsortOrdered_int64.mono_l k
    · intro y0 y1 y2
      unfold slices_pdqsortOrdered_int64.l0
      repeat' first
      | (with_reducible exact ih0 _ _ _)
      | (with_reducible exact slices_insertionSortOrdered_int64.mono _ _ _ _)
      | (with_reducible exact LeO.refl _)
      | (with_reducible exact LeO.none _)
      | (with_reducible refine LeO.ite ?_ ?_)
      | (with_reducible refine LeO.bind ?_ (fun _ => ?_))
      | exact ih0 _ _ _
      | exact slices_insertionSortOrdered_int64.mono _ _ _ _
      | exact LeO.none _
      | refine LeO.ite ?_ ?_
      | refine LeO.bind ?_ (fun _ => ?_)
theorem slices_pdqsortOrdered_int64.mono : ∀ a0 a1 a2 a3 k, LeO (slices_pdqsortOrdered_int64.f k a0 a1 a2 a3) (slices_pdqsortOrdered_int64.f (k + 1) a0 a1 a2 a3) := by
  intro a0 a1 a2 a3 k
  have ih0 := slices_pdqsortOrdered_int64.mono_l k
  unfold slices_pdqsortOrdered_int64.f
  repeat' first
      | (with_reducible exact ih0 _ _ _)
      | (with_reducible exact slices_insertionSortOrdered_int64.mono _ _ _ _)
      | (with_reducible exact LeO.refl _)
      | (with_reducible exact LeO.none _)
      | (with_reducible refine LeO.ite ?_ ?_)
      | (with_reducible refine LeO.bind ?_ (fun _ => ?_))
      | exact ih0 _ _ _
      | exact slices_insertionSortOrdered_int64.mono _ _ _ _
      | exact LeO.none _
      | refine LeO.ite ?_ ?_
      | refine LeO.bind ?_ (fun _ => ?_)
set_option maxHeartbeats 8000000 in
set_option maxRecDepth 100000 in
theorem slices_pdqsortOrdered_int64.calls (k : Nat) (P0_ : Nat → Prop) (u9000_ : Value) (l0 : List Int) (a1 : Int) (a2 : Int) (a3 : Int) (r : List Int) (w0 w : World) (hB : Below w0.heap.size w0 w) (ho0 : Kd.R (Kd.int .i64) 2 w w0.heap.size P0_ u9000_ l0) (h : slices_pdqsortOrdered_int64.f k l0 a1 a2 a3 = some r) :
  Calls Try.prog 128 #[u9000_, .int .i64 a1, .int .i64 a2, .int .i64 a3] w fun e w' => e = .returned (.tuple #[]) ∧ Kd.R (Kd.int .i64) 2 w' w0.heap.size (fun k_ => (P0_ k_ ∨ w.heap.size ≤ k_)) u9000_ r ∧ Below w0.heap.size w0 w' ∧ Kept w w' (fun k_ => P0_ k_) := by
 have HO0 := Aside0.mk (show Kd.R (Kd.int .i64) 2 w w0.heap.size (fun k_ => (P0_ k_ ∨ w.heap.size ≤ k_)) u9000_ l0 from Kd.R_mono ho0 (fun k_ hk => (.inl hk)))
 have HK := Aside0.mk (Kept.refl w (fun k_ => P0_ k_))
 have HW0 := Aside0.mk hB.size
 have HB := Aside0.mk hB
 clear hB
 have H : (slices_pdqsortOrdered_int64.l0 k l0 a1 a2) = some r := h
 clear h
 have H' := Aside0.mk H
 clear H
 go_enter Try.func128, Try.ntmps128
 go_wp2
 go_loopg [1, 2] k (fun kq v1 v2 w' => ∃ (x0_1 : List Int), v1 = .int .i64 a1 ∧ v2 = .int .i64 a2 ∧ Aside0 (slices_pdqsortOrdered_int64.l0 kq x0_1 a1 a2 = some r) ∧ Aside0 (kq ≤ k) ∧ Aside0 (Kd.R (Kd.int .i64) 2 w' w0.heap.size (fun k_ => (P0_ k_ ∨ w.heap.size ≤ k_)) u9000_ x0_1) ∧ Aside0 (Kept w w' (fun k_ => P0_ k_)) ∧ Aside0 (Below w0.heap.size w0 w'))
 case atStart => exact ⟨(l0), rfl, rfl, H', ⟨Nat.le_refl _⟩, ⟨by (with_reducible repeat (first | apply Kd.R_alloc | apply Kd.R_drewN | apply Kd.R_drew)); exact HO0.out⟩, ⟨by repeat (first | (with_reducible first | exact HK.out | apply Kept.alloc | apply Kept.drewN | apply Kept.drew) | exact HK.out)⟩, ⟨bq⟩⟩
 case round =>
  clear H'
  (try clear c1); (try clear p2)
  obtain ⟨x0_1, rfl, rfl, HA, HK1, HO_0, HK, HB⟩ := hrel
  cases gk with
  | zero => exact absurd HA.out (by simp [slices_pdqsortOrdered_int64.l0])
  | succ k1 =>
   have H := HA.out
   clear HA
   simp only [slices_pdqsortOrdered_int64.l0] at H
   by_cases c5 : (wrap64 (a2 - a1)) ≤ 12
   ·rw [if_pos c5] at H
    have c5b0 : decide ((wrap64 (a2 - a1)) ≤ 12) = true := decide_eq_true c5
    clear c5
    replace H := Option.bind_eq_some_iff.mp H
    obtain ⟨t172, A60, H⟩ := H
    replace H : (some t172) = some r := H
    have A6 := Aside0.mk A60
    clear A60
    obtain rfl := Option.some.inj H
    obtain ⟨Ao7, co7, eo7⟩ := Kd.R_slice HO_0.out
    subst eo7
    go_wp2_with (first | ((with_reducible refine gate_callee (f := 130) rfl ?_); refine goesLq (some 27) rfl rfl Try.func130 (by kernel_rfl) rfl #[.slice Ao7 x0_1.length co7, .int .i64 a1, .int .i64 a2] rfl ?_; (with_reducible refine (slices_insertionSortOrdered_int64.calls k1 (fun k_ => some k_ = (.slice Ao7 x0_1.length co7 : Value).ownBlock) (.slice Ao7 x0_1.length co7) x0_1 a1 a2 t172 w0 _ ?side1 ?side2 A6.out).mono ?_); (case side1 => repeat (first | (with_reducible first | exact HB.out | apply below_alloc | apply pw_below_drewN | apply below_drew1) | exact HB.out)); (case side2 => exact Kd.R_tight rfl HO_0.out); rintro e w8 ⟨rfl, hy0, hb, hkp⟩; refine ⟨_, rfl, ?_⟩; have n0_ := Aside0.mk (Kd.R_reok rfl hy0 (fun k_ e_ => HO_0.out.1 k_ e_)); have n1_ := Aside0.mk (Kept.then_ (S := (fun k_ => P0_ k_)) (by repeat (first | (with_reducible first | exact HK.out | apply Kept.alloc | apply Kept.drewN | apply Kept.drew) | exact HK.out)) hkp (fun k_ hs_ => (fun e_ => (HO_0.out.1 k_ e_.symm)) hs_)); have n2_ := Aside0.mk (hb); clear HO_0; clear HK; clear HB; have HO_0 := n0_; have HK := n1_; have HB := n2_; clear n0_ n1_ n2_; (try clear hb); (try clear hkp); (try clear hy0)))
    first | go_end0 | ((try simp only [Exit.inBlock, Exit.then]); refine bodyPost_ret (results_none rfl _ _ _) rfl ?_)
    exact ⟨by first | rfl | (simp [errW_none, errW_some] <;> rfl) | (simp [*, errW_none, errW_some] <;> rfl), by (with_reducible repeat (first | apply Kd.R_alloc | apply Kd.R_drewN | apply Kd.R_drew)); exact HO_0.out, bq, by repeat (first | (with_reducible first | exact HK.out | apply Kept.alloc | apply Kept.drewN | apply Kept.drew) | exact HK.out)⟩
   ·rw [if_neg c5] at H
    exact absurd H (by simp)

/-! ### slices_Sort_int64: function 123 -/
def slices_Sort_int64.f (k : Nat) (l0 : List Int) : Option (List Int) := (bits_Len.f (IntKind.u64.wrap ((l0.length : Int)))).bind fun t173 => ((slices_pdqsortOrdered_int64.f k l0 0 (l0.length : Int) t173).bind fun t174 => (some t174))
theorem slices_Sort_int64.mono : ∀ a0 k, LeO (slices_Sort_int64.f k a0) (slices_Sort_int64.f (k + 1) a0) := by
  intro a0 k
  unfold slices_Sort_int64.f
  repeat' first
      | (with_reducible exact slices_pdqsortOrdered_int64.mono _ _ _ _ _)
      | (with_reducible exact LeO.refl _)
      | (with_reducible exact LeO.none _)
      | (with_reducible refine LeO.ite ?_ ?_)
      | (with_reducible refine LeO.bind ?_ (fun _ => ?_))
      | exact slices_pdqsortOrdered_int64.mono _ _ _ _ _
      | exact LeO.none _
      | refine LeO.ite ?_ ?_
      | refine LeO.bind ?_ (fun _ => ?_)
set_option maxHeartbeats 8000000 in
set_option maxRecDepth 100000 in
theorem slices_Sort_int64.calls (k : Nat) (P0_ : Nat → Prop) (u9000_ : Value) (l0 : List Int) (r : List Int) (w0 w : World) (hB : Below w0.heap.size w0 w) (ho0 : Kd.R (Kd.int .i64) 2 w w0.heap.size P0_ u9000_ l0) (h : slices_Sort_int64.f k l0 = some r) :
  Calls Try.prog 123 #[u9000_] w fun e w' => e = .returned (.tuple #[]) ∧ Kd.R (Kd.int .i64) 2 w' w0.heap.size (fun k_ => (P0_ k_ ∨ w.heap.size ≤ k_)) u9000_ r ∧ Below w0.heap.size w0 w' ∧ Kept w w' (fun k_ => P0_ k_) := by
 have HO0 := Aside0.mk (show Kd.R (Kd.int .i64) 2 w w0.heap.size (fun k_ => (P0_ k_ ∨ w.heap.size ≤ k_)) u9000_ l0 from Kd.R_mono ho0 (fun k_ hk => (.inl hk)))
 have HK := Aside0.mk (Kept.refl w (fun k_ => P0_ k_))
 have HW0 := Aside0.mk hB.size
 have HB := Aside0.mk hB
 clear hB
 have H : ((bits_Len.f (IntKind.u64.wrap ((l0.length : Int)))).bind fun t173 => ((slices_pdqsortOrdered_int64.f k l0 0 (l0.length : Int) t173).bind fun t174 => (some t174))) = some r := h
 clear h
 replace H := Option.bind_eq_some_iff.mp H
 obtain ⟨t173, A20, H⟩ := H
 replace H : ((slices_pdqsortOrdered_int64.f k l0 0 (l0.length : Int) t173).bind fun t174 => (some t174)) = some r := H
 have A2 := Aside0.mk A20
 clear A20
 replace H := Option.bind_eq_some_iff.mp H
 obtain ⟨t174, A30, H⟩ := H
 replace H : (some t174) = some r := H
 have A3 := Aside0.mk A30
 clear A30
 obtain rfl := Option.some.inj H
 obtain ⟨Ao4, co4, eo4⟩ := Kd.R_slice HO0.out
 subst eo4
 go_enter Try.func123, Try.ntmps123
 go_wp2_with (first | ((with_reducible refine gate_callee (f := 129) rfl ?_); refine goesLq (some 9) rfl rfl Try.func129 (by kernel_rfl) rfl #[.int .u64 (IntKind.u64.wrap ((l0.length : Int)))] rfl ?_; (with_reducible refine (bits_Len.calls (IntKind.u64.wrap ((l0.length : Int))) t173 _ A2.out).mono ?_); rintro e w' ⟨rfl, ⟨nd, rfl⟩⟩; refine ⟨_, rfl, ?_⟩) | ((with_reducible refine gate_callee (f := 128) rfl ?_); refine goesLq (some 10) rfl rfl Try.func128 (by kernel_rfl) rfl #[.slice Ao4 l0.length co4, .int .i64 0, .int .i64 (l0.length : Int), .int .i64 t173] rfl ?_; (with_reducible refine (slices_pdqsortOrdered_int64.calls k (fun k_ => some k_ = (.slice Ao4 l0.length co4 : Value).ownBlock) (.slice Ao4 l0.length co4) l0 0 (l0.length : Int) t173 t174 w0 _ ?side1 ?side2 A3.out).mono ?_); (case side1 => repeat (first | (with_reducible first | exact HB.out | apply below_alloc | apply pw_below_drewN | apply below_drew1) | exact HB.out)); (case side2 => exact Kd.R_tight rfl HO0.out); rintro e w5 ⟨rfl, hy0, hb, hkp⟩; refine ⟨_, rfl, ?_⟩; have n0_ := Aside0.mk (Kd.R_reok rfl hy0 (fun k_ e_ => HO0.out.1 k_ e_)); have n1_ := Aside0.mk (Kept.then_ (S := (fun k_ => P0_ k_)) (by repeat (first | (with_reducible first | exact HK.out | apply Kept.alloc | apply Kept.drewN | apply Kept.drew) | exact HK.out)) hkp (fun k_ hs_ => (fun e_ => (HO0.out.1 k_ e_.symm)) hs_)); have n2_ := Aside0.mk (hb); clear HO0; clear HK; clear HB; have HO0 := n0_; have HK := n1_; have HB := n2_; clear n0_ n1_ n2_; (try clear hb); (try clear hkp); (try clear hy0)))
 first | go_end0 | ((try simp only [Exit.inBlock, Exit.then]); refine bodyPost_ret (results_none rfl _ _ _) rfl ?_)
 exact ⟨by first | rfl | (simp [errW_none, errW_some] <;> rfl) | (simp [*, errW_none, errW_some] <;> rfl), by (with_reducible repeat (first | apply Kd.R_alloc | apply Kd.R_drewN | apply Kd.R_drew)); exact HO0.out, bq, by repeat (first | (with_reducible first | exact HK.out | apply Kept.alloc | apply Kept.drewN | apply Kept.drew) | exact HK.out)⟩

/-! ### slices_Compact_int64: function 124 -/
theorem clear_event {α : Type} {enc : α → Value} {h1 : ∀ x, (enc x).oneCell' = true} {P : Program} {ops : Array Oper} {rest : List Oper} {o : Oper} {a : Act} {Q : Exit → Act → World → Prop} {W : World} (hgd : o.guard = none) (s : Operand) (t e : TypeId) (z : Value)
    (ho : o.op = .call { callee := .builtin .clear, args := #[s], argTypes := #[t] }) (ht : P.underlying t = some (.slice e)) (hv : ∀ w, (zeroValue e).run P w = .ok z w) (hz : z.cells = #[z]) (hz1 : z.oneCell' = true)
    {ad : Addr} {A : Option Addr} {n m c c2 : Nat} {k : Int} {base : Nat} {ok : Nat → Prop} {xs : List α} (HO : (Kd.scalar enc h1).R e W base ok (.slice (some ad) n c) xs) (hn : n = xs.length) (hk0 : 0 ≤ k) (hk : k < (xs.length : Int)) (hA : A = (if c = k.toNat then some ad else (some ad).map (·.add (k.toNat * 1)))) (hm : m = xs.length - k.toNat) (hs : a.eval s = .slice A m c2)
    (h : ∀ w1, (Kd.scalar enc h1).R e w1 base ok (.slice (some ad) k.toNat c) (xs.take k.toNat) → W.grownBy w1 (Value.slice (some ad) n c).ownBlock → wpList P ops Q rest (a.put o.dst (.tuple #[])) w1) : wpList P ops Q (o :: rest) a W := by
  subst hn
  have hkn : k.toNat < xs.length := by omega
  obtain ⟨hl, hr⟩ := Kd.own_of_R HO
  rcases hr with ⟨hr, _⟩ | ⟨g, cap, cur, he, hg, hh, hc1, hc2, hc3, hc4⟩
  · cases hr
  · injection he with e1 e2 e3
    injection e1 with e1
    subst e1
    subst e3
    have hne : ¬ (c = k.toNat) := by omega
    rw [if_neg hne] at hA
    subst hm
    have hcs : c * 1 = c := Nat.mul_one _
    rw [hcs] at hc3
    have hA2 : A = some ⟨g, k.toNat, none⟩ := by rw [hA]; simp [Addr.add]; omega
    have hcell : ∀ j, j < xs.length - k.toNat → (W.cell? ⟨g, k.toNat + j, none⟩).isSome = true := fun j hj => by
      rw [cell_of_row W g (k.toNat + j) cur e (0, 0) hh, Array.getElem?_eq_getElem (by omega)]
      rfl
    have hfr : ∀ j, j < xs.length - k.toNat → W.frozen? ⟨g, k.toNat + j, none⟩ = false := fun j _ => blk_frozen hh _
    have hrun := fun ty => Lib.run_clear_slice (P := P) W t e ty z ht hv hz hz1 g k.toNat (xs.length - k.toNat) c2 (by omega) hcell hfr
    have hrun2 : (execOp a.eval o).run P W = .ok (.value (.tuple #[])) (W.setCells g k.toNat (List.replicate (xs.length - k.toNat) z)) := by
      obtain ⟨dst_, op_, ty_, pos_, after_, guard_⟩ := o
      simp only at ho
      subst ho
      have hb := hrun ty_
      rw [BigFrame.execOp_builtin, BigFrame.builtin_clear]
      simp [hs, hA2, hb, Result.andThen]
    refine Kd.event_run hgd hrun2 (h _ ?_ ?_)
    · obtain ⟨cur', h3, h4, h5⟩ := setCells_row (List.replicate (xs.length - k.toNat) z) k.toNat W cur hh (by simp; omega)
      refine Kd.R_of_own ⟨by simp [encs], Or.inr ⟨g, c, cur', by rw [List.length_take, Nat.min_eq_left (Nat.le_of_lt hkn)], hg, h3, by rw [List.length_take]; omega, hc2, by omega, ?_⟩⟩ HO.1
      have e5 : (xs.take k.toNat).length * 1 = k.toNat := by rw [List.length_take]; omega
      rw [e5, h5]
      have e6 : (cur.toList.take k.toNat).length = k.toNat := by rw [List.length_take]; simp; omega
      rw [List.append_assoc, List.take_append_of_le_length (by rw [e6]; exact Nat.le_refl _), List.take_of_length_le (by rw [e6]; exact Nat.le_refl _)]
      have e7 := congrArg (List.take k.toNat) hc4
      rw [List.take_take, Nat.mul_one, Nat.min_eq_left (Nat.le_of_lt hkn)] at e7
      rw [e7]
      unfold encs
      rw [List.map_take]
    · obtain ⟨s1, s2, s3, s4⟩ := setCells_same g (List.replicate (xs.length - k.toNat) z) k.toNat W
      refine ⟨s1, s2, s3, Nat.le_of_eq s4.symm, fun i _ hi => setCells_far _ _ i (fun e_ => hi (by rw [e_]; rfl))⟩
theorem cut_at {α : Type} {enc : α → Value} {h1 : ∀ x, (enc x).oneCell' = true} (dflt : α) {W : World} {e : TypeId} {ad : Addr} {A : Option Addr} {n m c : Nat} {k : Int} {base : Nat} {ok : Nat → Prop} {xs : List α} (HO : (Kd.scalar enc h1).R e W base ok (.slice (some ad) n c) xs) (hA : A = (if c = k.toNat then some ad else (some ad).map (·.add (k.toNat * 1)))) (hm : m = n - k.toNat) (i : Int) (h0 : 0 ≤ i) (hi : i < (m : Int)) :
    ∃ ad2, A = some ad2 ∧ W.cell? (ad2.add i.toNat) = some (enc (rdOf dflt xs ((xs.length : Int) - (m : Int) + i))) := by
  have hn := (Kd.R_reads' HO).1
  subst hn
  obtain ⟨hl, hr⟩ := Kd.own_of_R HO
  rcases hr with ⟨hr, _⟩ | ⟨g, cap, cur, he, hg, hh, hc1, hc2, hc3, hc4⟩
  · cases hr
  · injection he with e1 e2 e3
    injection e1 with e1
    subst e1
    subst e3
    have hne : ¬ (c = k.toNat) := by omega
    rw [if_neg hne] at hA
    refine ⟨_, hA, ?_⟩
    have hj : k.toNat + i.toNat < xs.length := by omega
    have e2 : ((xs.length : Int) - (m : Int) + i).toNat = k.toNat + i.toNat := by omega
    have e3 : (({ block := g, off := 0 } : Addr).add (k.toNat * 1)).add i.toNat = ⟨g, k.toNat + i.toNat, none⟩ := by
      rw [Addr.add_lit, Addr.add_lit, show 0 + k.toNat * 1 + i.toNat = k.toNat + i.toNat by omega]
    rw [e3, cell_of_row W g _ cur e (0, 0) hh]
    have e4 : cur[k.toNat + i.toNat]? = (encs enc xs)[k.toNat + i.toNat]? := by
      rw [← hc4, List.getElem?_take_of_lt (by omega), Array.getElem?_toList]
    rw [e4]
    unfold encs rdOf
    rw [List.getElem?_map, e2, List.getD_eq_getElem?_getD, List.getElem?_eq_getElem hj]
    rfl
mutual
def slices_Compact_int64.l0 : Nat → List Int → Int → Option (List Int)
  | 0, _, _ => none
  | k + 1, x0, x3 => if x3 < (x0.length : Int) then (if 0 ≤ x3 then (if 0 ≤ (wrap64 (x3 - 1)) then (if (wrap64 (x3 - 1)) < (x0.length : Int) then (if (rd x0 x3) = (rd x0 (wrap64 (x3 - 1))) then (if x3 ≤ (x0.length : Int) then (slices_Compact_int64.l1 k x0 x3 (x0.drop (x3 : Int).toNat) 1) else (none)) else (slices_Compact_int64.l0 k x0 (wrap64 (x3 + 1)))) else (none)) else (none)) else (none)) else (some x0)
def slices_Compact_int64.l1 : Nat → List Int → Int → List Int → Int → Option (List Int)
  | 0, _, _, _, _ => none
  | k + 1, x0, x3, x4, x5 => if x5 < (x4.length : Int) then (if 0 ≤ x5 then (if 0 ≤ (wrap64 (x5 - 1)) then (if (wrap64 (x5 - 1)) < (x4.length : Int) then (if (rd x0 ((x0.length : Int) - (x4.length : Int) + x5)) = (rd x0 ((x0.length : Int) - (x4.length : Int) + (wrap64 (x5 - 1)))) then (slices_Compact_int64.l1 k x0 x3 x4 (wrap64 (x5 + 1))) else (if 0 ≤ x3 then (if x3 < (x0.length : Int) then (slices_Compact_int64.l1 k (x0.set (x3 : Int).toNat (rd x0 ((x0.length : Int) - (x4.length : Int) + x5))) (wrap64 (x3 + 1)) x4 (wrap64 (x5 + 1))) else (none)) else (none))) else (none)) else (none)) else (none)) else (if x3 < (x0.length : Int) then (if 0 ≤ x3 then (if x3 ≤ (x0.length : Int) then (some (x0.take (x3 : Int).toNat)) else (none)) else (none)) else (none))
end
def slices_Compact_int64.f (k : Nat) (l0 : List Int) : Option (List Int) := if (l0.length : Int) < 2 then (some l0) else (slices_Compact_int64.l0 k l0 1)
theorem slices_Compact_int64.mono_l : ∀ k, (∀ y0 y1, LeO (slices_Compact_int64.l0 k y0 y1) (slices_Compact_int64.l0 (k + 1) y0 y1)) ∧ (∀ y0 y1 y2 y3, LeO (slices_Compact_int64.l1 k y0 y1 y2 y3) (slices_Compact_int64.l1 (k + 1) y0 y1 y2 y3))
  | 0 => ⟨fun _ _ r h => by simp [slices_Compact_int64.l0] at h, fun _ _ _ _ r h => by simp [slices_Compact_int64.l1] at h⟩
  | k + 1 => by
    obtain ⟨ih0, ih1⟩ := slices_Compact_int64.mono_l k
    refine ⟨?_, ?_⟩
    · intro y0 y1
      unfold slices_Compact_int64.l0
      repeat' first
      | (with_reducible exact ih0 _ _)
      | (with_reducible exact ih1 _ _ _ _)
      | (with_reducible exact LeO.refl _)
      | (with_reducible exact LeO.none _)
      | (with_reducible refine LeO.ite ?_ ?_)
      | (with_reducible refine LeO.bind ?_ (fun _ => ?_))
      | exact ih0 _ _
      | exact ih1 _ _ _ _
      | exact LeO.none _
      | refine LeO.ite ?_ ?_
      | refine LeO.bind ?_ (fun _ => ?_)
    · intro y0 y1 y2 y3
      unfold slices_Compact_int64.l1
      repeat' first
      | (with_reducible exact ih0 _ _)
      | (with_reducible exact ih1 _ _ _ _)
      | (with_reducible exact LeO.refl _)
      | (with_reducible exact LeO.none _)
      | (with_reducible refine LeO.ite ?_ ?_)
      | (with_reducible refine LeO.bind ?_ (fun _ => ?_))
      | exact ih0 _ _
      | exact ih1 _ _ _ _
      | exact LeO.none _
      | refine LeO.ite ?_ ?_
      | refine LeO.bind ?_ (fun _ => ?_)
theorem slices_Compact_int64.mono : ∀ a0 k, LeO (slices_Compact_int64.f k a0) (slices_Compact_int64.f (k + 1) a0) := by
  intro a0 k
  obtain ⟨ih0, ih1⟩ := slices_Compact_int64.mono_l k
  unfold slices_Compact_int64.f
  repeat' first
      | (with_reducible exact ih0 _ _)
      | (with_reducible exact ih1 _ _ _ _)
      | (with_reducible exact LeO.refl _)
      | (with_reducible exact LeO.none _)
      | (with_reducible refine LeO.ite ?_ ?_)
      | (with_reducible refine LeO.bind ?_ (fun _ => ?_))
      | exact ih0 _ _
      | exact ih1 _ _ _ _
      | exact LeO.none _
      | refine LeO.ite ?_ ?_
      | refine LeO.bind ?_ (fun _ => ?_)
set_option maxHeartbeats 8000000 in
set_option maxRecDepth 100000 in
theorem slices_Compact_int64.calls (k : Nat) (P0_ : Nat → Prop) (u9000_ : Value) (l0 : List Int) (r : List Int) (w0 w : World) (hB : Below w0.heap.size w0 w) (ho0 : Kd.R (Kd.int .i64) 2 w w0.heap.size P0_ u9000_ l0) (h : slices_Compact_int64.f k l0 = some r) :
  Calls Try.prog 124 #[u9000_] w fun e w' => ∃ v0_ : Value, e = .returned (v0_) ∧ Kd.R (Kd.int .i64) 2 w' w0.heap.size (fun k_ => (P0_ k_ ∨ w.heap.size ≤ k_)) v0_ r ∧ Below w0.heap.size w0 w' ∧ Kept w w' (fun k_ => P0_ k_) := by
 have HO0 := Aside0.mk (show Kd.R (Kd.int .i64) 2 w w0.heap.size (fun k_ => (P0_ k_ ∨ w.heap.size ≤ k_)) u9000_ l0 from Kd.R_mono ho0 (fun k_ hk => (.inl hk)))
 have HK := Aside0.mk (Kept.refl w (fun k_ => P0_ k_))
 have HW0 := Aside0.mk hB.size
 have HB := Aside0.mk hB
 clear hB
 have H : (if (l0.length : Int) < 2 then (some l0) else (slices_Compact_int64.l0 k l0 1)) = some r := h
 clear h
 by_cases c2 : (l0.length : Int) < 2
 ·rw [if_pos c2] at H
  have c2b0 : decide ((l0.length : Int) < 2) = true := decide_eq_true c2
  have c2b1 : decide (l0.length < 2) = true := decide_eq_true (by omega)
  clear c2
  obtain rfl := Option.some.inj H
  obtain ⟨Ao3, co3, eo3⟩ := Kd.R_slice HO0.out
  subst eo3
  go_enter Try.func124, Try.ntmps124
  go_wp2
  repeat (go_quiet (fail); try go_wp2)
  go_ret
  exact ⟨_, by first | rfl | (simp [errW_none, errW_some] <;> rfl) | (simp [*, errW_none, errW_some] <;> rfl), by (with_reducible repeat (first | apply Kd.R_alloc | apply Kd.R_drewN | apply Kd.R_drew)); exact HO0.out, bq, by repeat (first | (with_reducible first | exact HK.out | apply Kept.alloc | apply Kept.drewN | apply Kept.drew) | exact HK.out)⟩
 ·rw [if_neg c2] at H
  have c2b0 : decide ((l0.length : Int) < 2) = false := decide_eq_false c2
  have c2b1 : decide (l0.length < 2) = false := decide_eq_false (by omega)
  clear c2
  have H' := Aside0.mk H
  clear H
  obtain ⟨go_, co4, eo4, gb_, gl_, cl_, HG_⟩ := Kd.R_form HO0.out (by have h_ := of_decide_eq_false c2b1; omega)
  clear gb_ gl_ HG_ cl_
  subst eo4
  go_enter Try.func124, Try.ntmps124
  go_wp2
  repeat (go_quiet (fail); try go_wp2)
  go_loopg [3] k (fun kq v3 w' => ∃ (x0_1 : List Int) (x3_1 : Int), v3 = .int .i64 x3_1 ∧ Aside0 (slices_Compact_int64.l0 kq x0_1 x3_1 = some r) ∧ Aside0 (kq ≤ k) ∧ Aside0 (Kd.R (Kd.int .i64) 2 w' w0.heap.size (fun k_ => (P0_ k_ ∨ w.heap.size ≤ k_)) (.slice (some ⟨go_, 0, none⟩) l0.length co4) x0_1) ∧ Aside0 (Kept w w' (fun k_ => P0_ k_)) ∧ Aside0 (Below w0.heap.size w0 w'))
  case atStart => exact ⟨(l0), (1), (by first | rfl | (simp; done) | (simp [*]; done) | (simp [bne_nil]; done)), H', ⟨Nat.le_refl _⟩, ⟨by (with_reducible repeat (first | apply Kd.R_alloc | apply Kd.R_drewN | apply Kd.R_drew)); exact HO0.out⟩, ⟨by repeat (first | (with_reducible first | exact HK.out | apply Kept.alloc | apply Kept.drewN | apply Kept.drew) | exact HK.out)⟩, ⟨bq⟩⟩
  case round =>
   clear H'
   (try clear c1); (try clear c2); (try clear c2b0); (try clear c2b1); (try clear p2)
   obtain ⟨x0_1, x3_1, rfl, HA, HK1, HO_0, HK, HB⟩ := hrel
   have hl0_1 := (Kd.R_reads' HO_0.out).1
   rw [hl0_1] at HO_0
   (try simp only [hl0_1])
   cases gk with
   | zero => exact absurd HA.out (by simp [slices_Compact_int64.l0])
   | succ k1 =>
    have H := HA.out
    clear HA
    simp only [slices_Compact_int64.l0] at H
    by_cases c5 : x3_1 < (x0_1.length : Int)
    ·rw [if_pos c5] at H
     have c5b0 : decide (x3_1 < (x0_1.length : Int)) = true := decide_eq_true c5
     clear c5
     by_cases c6 : 0 ≤ x3_1
     ·rw [if_pos c6] at H
      have c6b0 : decide (0 ≤ x3_1) = true := decide_eq_true c6
      clear c6
      obtain ⟨ji7, hji7⟩ : ∃ j_ : Int, (wrap64 (x3_1 - 1)) = j_ := ⟨_, rfl⟩
      replace H : (if 0 ≤ (ji7) then (if (ji7) < (x0_1.length : Int) then (if (rd x0_1 x3_1) = (rd x0_1 (ji7)) then (if x3_1 ≤ (x0_1.length : Int) then (slices_Compact_int64.l1 k1 x0_1 x3_1 (x0_1.drop (x3_1 : Int).toNat) 1) else (none)) else (slices_Compact_int64.l0 k1 x0_1 (wrap64 (x3_1 + 1)))) else (none)) else (none)) = some r := by first | (rw [hji7] at H; exact H) | (simp only [hji7] at H ⊢; exact H)
      have hji7w : (IntKind.i64.wrap (x3_1 - 1)) = ji7 := (i64_w _).trans hji7
      by_cases c8 : 0 ≤ (ji7)
      ·rw [if_pos c8] at H
       have c8b0 : decide (0 ≤ (ji7)) = true := decide_eq_true c8
       clear c8
       by_cases c9 : (ji7) < (x0_1.length : Int)
       ·rw [if_pos c9] at H
        have c9b0 : decide ((ji7) < (x0_1.length : Int)) = true := decide_eq_true c9
        clear c9
        by_cases c10 : (rd x0_1 x3_1) = (rd x0_1 (ji7))
        ·rw [if_pos c10] at H
         have c10b0 : ((rd x0_1 x3_1) == (rd x0_1 (ji7))) = true := beq_iff_eq.mpr c10
         have c10b1 : ((rd x0_1 x3_1) != (rd x0_1 (ji7))) = false := bne_eq_false_iff_eq.mpr c10
         clear c10
         have c11b0 := eq_true (of_decide_eq_true (by first | (with_reducible assumption) | assumption) : 0 ≤ x3_1)
         by_cases c12 : x3_1 ≤ (x0_1.length : Int)
         ·rw [if_pos c12] at H
          have c12b0 := eq_true c12
          have c12b1 : decide (x3_1 ≤ (x0_1.length : Int)) = true := decide_eq_true c12
          clear c12
          obtain ⟨y177, hy177⟩ : ∃ y_ : List Int, y_ = (x0_1.drop (x3_1 : Int).toNat) := ⟨_, rfl⟩
          replace H : (slices_Compact_int64.l1 k1 x0_1 x3_1 y177 1) = some r := by first | (rw [hy177]; with_reducible exact H) | (have H2_ := (Option.bind_some _ _).symm.trans H; rw [hy177]; with_reducible exact H2_) | (have H2_ := (Option.bind_some _ _).symm.trans H; with_reducible exact H2_) | with_reducible exact H | (rw [hy177]; exact H) | exact H
          have Ny177 := Aside0.mk hy177
          clear hy177
          have H' := Aside0.mk H
          clear H
          have p175 : 0 ≤ (x3_1 : Int) := of_decide_eq_true (by first | (with_reducible assumption) | assumption)
          have q175 : x3_1 < (x0_1.length : Int) := of_decide_eq_true (by first | (with_reducible assumption) | assumption)
          obtain ⟨adq_, e175, hx175_0⟩ := Kd.at_int (Kd.R_reads' HO_0.out).2.2 x3_1 p175 q175
          cases e175
          (try simp only [add_plain] at hx175_0)
          replace p175 := eq_true p175
          replace q175 := eq_true q175
          have p176 : 0 ≤ ((ji7) : Int) := of_decide_eq_true (by first | (with_reducible assumption) | assumption)
          have q176 : (ji7) < (x0_1.length : Int) := of_decide_eq_true (by first | (with_reducible assumption) | assumption)
          obtain ⟨ad176, e176, hx176_0⟩ := Kd.at_int (Kd.R_reads' HO_0.out).2.2 (ji7) p176 q176
          cases e176
          (try simp only [add_plain] at hx176_0)
          replace p176 := eq_true p176
          replace q176 := eq_true q176
          have q13 : (x3_1 : Int) ≤ ((x0_1.length : Int) : Int) := of_decide_eq_true (by first | (with_reducible assumption) | assumption)
          obtain ⟨i013, hi013, _, hsz13, _⟩ := info_parts info2
          have hroom13 : x0_1.length ≤ co4 := (Kd.R_reads' HO_0.out).2.1
          have hC13 : Kd.C (Kd.int .i64) _ (some ⟨go_, 0, none⟩) x0_1.length x0_1 := (Kd.R_reads' HO_0.out).2.2
          have q013 : (0 : Int) ≤ (x3_1 : Int) := of_decide_eq_true (by first | (with_reducible assumption) | assumption)
          have hcut13 := cut_from (P := Try.prog) 81 2 .i64 Try.underlying81 hi013 1 hsz13 (some ⟨go_, 0, none⟩) x0_1.length co4 x3_1 q013 q13
          have hr13 := Kd.C_drop (m := (x3_1 : Int).toNat) (c := co4) hC13 (by omega) hroom13
          obtain ⟨A13, hA13⟩ : ∃ A1, A1 = (if co4 = (x3_1 : Int).toNat then (some ⟨go_, 0, none⟩) else ((some ⟨go_, 0, none⟩) : Option Addr).map (·.add ((x3_1 : Int).toNat * 1))) := ⟨_, rfl⟩
          obtain ⟨c13, hc13⟩ : ∃ c1, c1 = co4 - (x3_1 : Int).toNat := ⟨_, rfl⟩
          have hy13 : y177.length = x0_1.length - (x3_1 : Int).toNat := (by rw [Ny177.out, List.length_drop] <;> omega)
          rw [show (x0_1).drop (x3_1 : Int).toNat = y177 from Ny177.out.symm] at hr13
          replace hr13 : Kd.C (Kd.int .i64) _ A13 y177.length y177 := (by rw [hA13]; exact hr13)
          rw [← hy13, ← hA13, ← hc13] at hcut13
          have HR180 := Aside0.mk hr13
          have HC180 := Aside0.mk (show y177.length ≤ c13 from by rw [hy13, hc13]; exact Nat.sub_le_sub_right hroom13 _)
          clear hr13 hC13 hroom13 hi013 hsz13 hc13
          have KY13 := Aside0.mk hy13
          have KA13 := Aside0.mk hA13
          clear hy13 hA13
          have KL13 := Aside0.mk (show (x3_1 : Int).toNat ≤ x0_1.length from by omega)
          replace q13 := eq_true q13
          go_wp2
          repeat (go_quiet (fail); try go_wp2)
          go_loopg [3, 5] k1 (fun kq v3 v5 w' => ∃ (x0_2 : List Int) (x3_2 : Int) (x5_2 : Int), v3 = .int .i64 x3_2 ∧ v5 = .int .i64 x5_2 ∧ Aside0 (slices_Compact_int64.l1 kq x0_2 x3_2 y177 x5_2 = some r) ∧ Aside0 (kq ≤ k1) ∧ Aside0 (Kd.R (Kd.int .i64) 2 w' w0.heap.size (fun k_ => (P0_ k_ ∨ w.heap.size ≤ k_)) (.slice (some ⟨go_, 0, none⟩) x0_1.length co4) x0_2) ∧ Aside0 (Kept w w' (fun k_ => P0_ k_)) ∧ Aside0 (Below w0.heap.size w0 w'))
          case atStart => exact ⟨(x0_1), (x3_1), (1), (by first | rfl | (simp; done) | (simp [*]; done) | (simp [bne_nil]; done)), (by first | rfl | (simp; done) | (simp [*]; done) | (simp [bne_nil]; done)), H', ⟨Nat.le_refl _⟩, ⟨by (try simp only [hl0_1]); (with_reducible repeat (first | apply Kd.R_alloc | apply Kd.R_drewN | apply Kd.R_drew)); exact HO_0.out⟩, ⟨by repeat (first | (with_reducible first | exact HK.out | apply Kept.alloc | apply Kept.drewN | apply Kept.drew) | exact HK.out)⟩, ⟨bq⟩⟩
          case round =>
           clear H'
           (try clear c1); (try clear p1); (try clear q1); (try clear hx1); (try clear c2); (try clear c2b0); (try clear c2b1); (try clear p2); (try clear c5); (try clear c5b0); (try clear c6); (try clear c6b0)
           (try clear p6); (try clear c8); (try clear c8b0); (try clear c9); (try clear c9b0); (try clear c10); (try clear c10b0); (try clear c10b1); (try clear c11); (try clear c11b0); (try clear c12)
           (try clear c12b0); (try clear c12b1); (try clear c13); (try clear q13); (try clear hx175_0); (try clear hx176_0); (try clear p175); (try clear p176); (try clear p2); (try clear q013); (try clear q13)
           (try clear q175); (try clear q176)
           obtain ⟨x0_2, x3_2, x5_2, rfl, rfl, HA, HK2, HO_0, HK, HB⟩ := hrel
           have hl0_2 := (Kd.R_reads' HO_0.out).1
           rw [hl0_2] at HO_0
           (try simp only [hl0_2])
           cases gk with
           | zero => exact absurd HA.out (by simp [slices_Compact_int64.l1])
           | succ k2 =>
            have H := HA.out
            clear HA
            simp only [slices_Compact_int64.l1] at H
            by_cases c14 : x5_2 < (y177.length : Int)
            ·rw [if_pos c14] at H
             have c14b0 : decide (x5_2 < (y177.length : Int)) = true := decide_eq_true c14
             clear c14
             by_cases c15 : 0 ≤ x5_2
             ·rw [if_pos c15] at H
              have c15b0 : decide (0 ≤ x5_2) = true := decide_eq_true c15
              clear c15
              obtain ⟨ji16, hji16⟩ : ∃ j_ : Int, (wrap64 (x5_2 - 1)) = j_ := ⟨_, rfl⟩
              replace H : (if 0 ≤ (ji16) then (if (ji16) < (y177.length : Int) then (if (rd x0_2 ((x0_2.length : Int) - (y177.length : Int) + x5_2)) = (rd x0_2 ((x0_2.length : Int) - (y177.length : Int) + (ji16))) then (slices_Compact_int64.l1 k2 x0_2 x3_2 y177 (wrap64 (x5_2 + 1))) else (if 0 ≤ x3_2 then (if x3_2 < (x0_2.length : Int) then (slices_Compact_int64.l1 k2 (x0_2.set (x3_2 : Int).toNat (rd x0_2 ((x0_2.length : Int) - (y177.length : Int) + x5_2))) (wrap64 (x3_2 + 1)) y177 (wrap64 (x5_2 + 1))) else (none)) else (none))) else (none)) else (none)) = some r := by first | (rw [hji16] at H; exact H) | (simp only [hji16] at H ⊢; exact H)
              have hji16w : (IntKind.i64.wrap (x5_2 - 1)) = ji16 := (i64_w _).trans hji16
              by_cases c17 : 0 ≤ (ji16)
              ·rw [if_pos c17] at H
               have c17b0 : decide (0 ≤ (ji16)) = true := decide_eq_true c17
               clear c17
               by_cases c18 : (ji16) < (y177.length : Int)
               ·rw [if_pos c18] at H
                have c18b0 : decide ((ji16) < (y177.length : Int)) = true := decide_eq_true c18
                clear c18
                obtain ⟨rv1_, hrv1_⟩ : ∃ v_, v_ = (rd x0_2 ((x0_2.length : Int) - (y177.length : Int) + x5_2)) := ⟨_, rfl⟩
                rw [← hrv1_] at H
                have RV1_ := Aside0.mk hrv1_
                clear hrv1_
                obtain ⟨rv2_, hrv2_⟩ : ∃ v_, v_ = (rd x0_2 ((x0_2.length : Int) - (y177.length : Int) + (ji16))) := ⟨_, rfl⟩
                rw [← hrv2_] at H
                have RV2_ := Aside0.mk hrv2_
                clear hrv2_
                by_cases c19 : rv1_ = rv2_
                ·rw [if_pos c19] at H
                 have c19b0 : (rv1_ == rv2_) = true := beq_iff_eq.mpr c19
                 have c19b1 : (rv1_ != rv2_) = false := bne_eq_false_iff_eq.mpr c19
                 clear c19
                 have H' := Aside0.mk H
                 clear H
                 have p181 : 0 ≤ (x5_2 : Int) := of_decide_eq_true (by first | (with_reducible assumption) | assumption)
                 have q181 : x5_2 < (y177.length : Int) := of_decide_eq_true (by first | (with_reducible assumption) | assumption)
                 obtain ⟨ad181, e181, hx181_0⟩ := cut_at 0 HO_0.out KA13.out (KY13.out.trans (by have h1_ := hl0_1; have h2_ := hl0_2; omega)) x5_2 p181 q181
                 change _ = some (Value.int IntKind.i64 (rd x0_2 _)) at hx181_0
                 rw [← RV1_.out] at hx181_0
                 cases e181
                 replace p181 := eq_true p181
                 replace q181 := eq_true q181
                 have p182 : 0 ≤ ((ji16) : Int) := of_decide_eq_true (by first | (with_reducible assumption) | assumption)
                 have q182 : (ji16) < (y177.length : Int) := of_decide_eq_true (by first | (with_reducible assumption) | assumption)
                 obtain ⟨ad182, e182, hx182_0⟩ := cut_at 0 HO_0.out KA13.out (KY13.out.trans (by have h1_ := hl0_1; have h2_ := hl0_2; omega)) (ji16) p182 q182
                 change _ = some (Value.int IntKind.i64 (rd x0_2 _)) at hx182_0
                 rw [← RV2_.out] at hx182_0
                 obtain rfl : ad181 = ad182 := (by injection e182)
                 replace p182 := eq_true p182
                 replace q182 := eq_true q182
                 go_wp2
                 repeat (go_quiet (fail); try go_wp2)
                 (try simp only [← hl0_2])
                 go_roundg k2
                 case measure => have := HK1.out; have := HK2.out; omega
                 case rel => exact ⟨(x0_2), (x3_2), (wrap64 (x5_2 + 1)), (by first | rfl | (simp; done) | (simp [*]; done) | (simp [bne_nil]; done)), (by first | rfl | (simp; done) | (simp [*]; done) | (simp [bne_nil]; done)), H', ⟨by have := HK1.out; have := HK2.out; omega⟩, ⟨by (try simp only [hl0_1]); (try simp only [hl0_2]); (with_reducible repeat (first | apply Kd.R_alloc | apply Kd.R_drewN | apply Kd.R_drew)); exact HO_0.out⟩, ⟨by repeat (first | (with_reducible first | exact HK.out | apply Kept.alloc | apply Kept.drewN | apply Kept.drew) | exact HK.out)⟩, ⟨bq⟩⟩
                ·rw [if_neg c19] at H
                 have c19b0 : (rv1_ == rv2_) = false := beq_eq_false_iff_ne.mpr c19
                 have c19b1 : (rv1_ != rv2_) = true := bne_iff_ne.mpr c19
                 by_cases c20 : 0 ≤ x3_2
                 ·rw [if_pos c20] at H
                  have c20b0 : decide (0 ≤ x3_2) = true := decide_eq_true c20
                  clear c20
                  by_cases c21 : x3_2 < (x0_2.length : Int)
                  ·rw [if_pos c21] at H
                   have c21b0 : decide (x3_2 < (x0_2.length : Int)) = true := decide_eq_true c21
                   clear c21
                   obtain ⟨y184, hy184⟩ : ∃ y_ : List Int, y_ = (x0_2.set (x3_2 : Int).toNat rv1_) := ⟨_, rfl⟩
                   replace H : (slices_Compact_int64.l1 k2 y184 (wrap64 (x3_2 + 1)) y177 (wrap64 (x5_2 + 1))) = some r := by first | (rw [hy184]; with_reducible exact H) | (have H2_ := (Option.bind_some _ _).symm.trans H; rw [hy184]; with_reducible exact H2_) | (have H2_ := (Option.bind_some _ _).symm.trans H; with_reducible exact H2_) | with_reducible exact H | (rw [hy184]; exact H) | exact H
                   have Ny184 := Aside0.mk hy184
                   clear hy184
                   have H' := Aside0.mk H
                   clear H
                   have p181 : 0 ≤ (x5_2 : Int) := of_decide_eq_true (by first | (with_reducible assumption) | assumption)
                   have q181 : x5_2 < (y177.length : Int) := of_decide_eq_true (by first | (with_reducible assumption) | assumption)
                   obtain ⟨ad181, e181, hx181_0⟩ := cut_at 0 HO_0.out KA13.out (KY13.out.trans (by have h1_ := hl0_1; have h2_ := hl0_2; omega)) x5_2 p181 q181
                   change _ = some (Value.int IntKind.i64 (rd x0_2 _)) at hx181_0
                   rw [← RV1_.out] at hx181_0
                   cases e181
                   replace p181 := eq_true p181
                   replace q181 := eq_true q181
                   have p182 : 0 ≤ ((ji16) : Int) := of_decide_eq_true (by first | (with_reducible assumption) | assumption)
                   have q182 : (ji16) < (y177.length : Int) := of_decide_eq_true (by first | (with_reducible assumption) | assumption)
                   obtain ⟨ad182, e182, hx182_0⟩ := cut_at 0 HO_0.out KA13.out (KY13.out.trans (by have h1_ := hl0_1; have h2_ := hl0_2; omega)) (ji16) p182 q182
                   change _ = some (Value.int IntKind.i64 (rd x0_2 _)) at hx182_0
                   rw [← RV2_.out] at hx182_0
                   obtain rfl : ad181 = ad182 := (by injection e182)
                   replace p182 := eq_true p182
                   replace q182 := eq_true q182
                   have p183 : 0 ≤ (x5_2 : Int) := of_decide_eq_true (by first | (with_reducible assumption) | assumption)
                   have q183 : x5_2 < (y177.length : Int) := of_decide_eq_true (by first | (with_reducible assumption) | assumption)
                   obtain ⟨ad183, e183, hx183_0⟩ := cut_at 0 HO_0.out KA13.out (KY13.out.trans (by have h1_ := hl0_1; have h2_ := hl0_2; omega)) x5_2 p183 q183
                   change _ = some (Value.int IntKind.i64 (rd x0_2 _)) at hx183_0
                   rw [← RV1_.out] at hx183_0
                   obtain rfl : ad181 = ad183 := (by injection e183)
                   replace p183 := eq_true p183
                   replace q183 := eq_true q183
                   have p22 : 0 ≤ (x3_2 : Int) := of_decide_eq_true (by first | (with_reducible assumption) | assumption)
                   have q22 : (x3_2 : Int) < ((x0_2.length : Int) : Int) := of_decide_eq_true (by first | (with_reducible assumption) | assumption)
                   obtain ⟨go22, co22, eo22, gb22, gl22, cl22, HG22⟩ := Kd.R_form HO_0.out (by omega)
                   (first | cases eo22 | (injection eo22 with ea_ en_ ec_; (first | subst ea_ | (injection ea_ with ea_; subst ea_)); subst ec_; clear en_))
                   have GB22 := Aside0.mk gb22
                   have GG22 := Aside0.mk HG22
                   clear gb22 gl22 HG22
                   have HMgo22 := Aside0.mk (show (P0_ go_ ∨ w.heap.size ≤ go_) from (HO_0.out.1 _ rfl))
                   (first | simp only [add_plain] at hx175_0 | skip)
                   (first | simp only [add_plain] at hx176_0 | skip)
                   obtain ⟨hx22_0, hf22_0⟩ := Kd.R_celln 0 HO_0.out (x3_2 : Int) p22 q22
                   replace p22 := eq_true p22
                   replace q22 := eq_true q22
                   have HP23 := Kd.R_putg HO_0.out (x3_2 : Int) rv1_
                   go_wp2_with (first | ((with_reducible refine gate_store (t := 2) (p := 51) rfl ?_); (try (rw [drewN_self wr]; generalize hq_ : World.drewN wr _ = wr; have n0_ := Aside0.mk (Kd.R_at hq_ HO_0.out); have n1_ := Aside0.mk (kept_at hq_ HK.out); have n2_ := Aside0.mk (below_at hq_ HB.out); clear hq_ HO_0 HK HB; have HO_0 := n0_; have HK := n1_; have HB := n2_; clear n0_ n1_ n2_; (try (have HP23 := Kd.R_putg HO_0.out (x3_2 : Int) rv1_)); (try (obtain ⟨hxn_, hfn_⟩ := Kd.R_celln 0 HO_0.out (x3_2 : Int) (of_decide_eq_true (by first | (with_reducible assumption) | assumption)) (of_decide_eq_true (by first | (with_reducible assumption) | assumption)))))); refine store_event (t := 2) (p := 51) (v := ?vo_w24) (w1 := (wr.setCell ⟨go_, (x3_2 : Int).toNat, none⟩ (.int .i64 rv1_))) ?hg ?ho ?hn ?hr ?_; (case ho => rfl); (case hg => rfl); (case hn => rfl); (case hr => first | (go_simp; done) | (go_simp; rfl)); intro w24 hw; have hg : wr.grownBy w24 (some go_) := (by rw [hw]; exact HP23.2); have hp_ : Kd.R (Kd.int .i64) 2 w24 w0.heap.size (fun k_ => (P0_ k_ ∨ w.heap.size ≤ k_)) (.slice (some ⟨go_, 0, none⟩) x0_2.length co4) y184 := (by rw [hw, Ny184.out]; exact HP23.1); clear HP23; have n0_ := Aside0.mk (hp_); have n1_ := Aside0.mk ((by rw [hw]; exact below_set (HB.out) GB22.out : Below w0.heap.size w0 w24)); have n2_ := Aside0.mk (Kept.of_grown (S := (fun k_ => P0_ k_)) hg (by repeat (first | (with_reducible first | exact HK.out | apply Kept.alloc | apply Kept.drewN | apply Kept.drew) | exact HK.out)) (fun k_ e_ => (HO_0.out.1 k_ e_))); clear HO_0; clear HB; clear HK; have HO_0 := n0_; have HB := n1_; have HK := n2_; clear n0_ n1_ n2_; clear hg hw hp_))
                   repeat (go_quiet (first | ((with_reducible refine gate_store (t := 2) (p := 51) rfl ?_); (try (rw [drewN_self wr]; generalize hq_ : World.drewN wr _ = wr; have n0_ := Aside0.mk (Kd.R_at hq_ HO_0.out); have n1_ := Aside0.mk (kept_at hq_ HK.out); have n2_ := Aside0.mk (below_at hq_ HB.out); clear hq_ HO_0 HK HB; have HO_0 := n0_; have HK := n1_; have HB := n2_; clear n0_ n1_ n2_; (try (have HP23 := Kd.R_putg HO_0.out (x3_2 : Int) rv1_)); (try (obtain ⟨hxn_, hfn_⟩ := Kd.R_celln 0 HO_0.out (x3_2 : Int) (of_decide_eq_true (by first | (with_reducible assumption) | assumption)) (of_decide_eq_true (by first | (with_reducible assumption) | assumption)))))); refine store_event (t := 2) (p := 51) (v := ?vo_w24) (w1 := (wr.setCell ⟨go_, (x3_2 : Int).toNat, none⟩ (.int .i64 rv1_))) ?hg ?ho ?hn ?hr ?_; (case ho => rfl); (case hg => rfl); (case hn => rfl); (case hr => first | (go_simp; done) | (go_simp; rfl)); intro w24 hw; have hg : wr.grownBy w24 (some go_) := (by rw [hw]; exact HP23.2); have hp_ : Kd.R (Kd.int .i64) 2 w24 w0.heap.size (fun k_ => (P0_ k_ ∨ w.heap.size ≤ k_)) (.slice (some ⟨go_, 0, none⟩) x0_2.length co4) y184 := (by rw [hw, Ny184.out]; exact HP23.1); clear HP23; have n0_ := Aside0.mk (hp_); have n1_ := Aside0.mk ((by rw [hw]; exact below_set (HB.out) GB22.out : Below w0.heap.size w0 w24)); have n2_ := Aside0.mk (Kept.of_grown (S := (fun k_ => P0_ k_)) hg (by repeat (first | (with_reducible first | exact HK.out | apply Kept.alloc | apply Kept.drewN | apply Kept.drew) | exact HK.out)) (fun k_ e_ => (HO_0.out.1 k_ e_))); clear HO_0; clear HB; clear HK; have HO_0 := n0_; have HB := n1_; have HK := n2_; clear n0_ n1_ n2_; clear hg hw hp_)); try go_wp2_with (first | ((with_reducible refine gate_store (t := 2) (p := 51) rfl ?_); (try (rw [drewN_self wr]; generalize hq_ : World.drewN wr _ = wr; have n0_ := Aside0.mk (Kd.R_at hq_ HO_0.out); have n1_ := Aside0.mk (kept_at hq_ HK.out); have n2_ := Aside0.mk (below_at hq_ HB.out); clear hq_ HO_0 HK HB; have HO_0 := n0_; have HK := n1_; have HB := n2_; clear n0_ n1_ n2_; (try (have HP23 := Kd.R_putg HO_0.out (x3_2 : Int) rv1_)); (try (obtain ⟨hxn_, hfn_⟩ := Kd.R_celln 0 HO_0.out (x3_2 : Int) (of_decide_eq_true (by first | (with_reducible assumption) | assumption)) (of_decide_eq_true (by first | (with_reducible assumption) | assumption)))))); refine store_event (t := 2) (p := 51) (v := ?vo_w24) (w1 := (wr.setCell ⟨go_, (x3_2 : Int).toNat, none⟩ (.int .i64 rv1_))) ?hg ?ho ?hn ?hr ?_; (case ho => rfl); (case hg => rfl); (case hn => rfl); (case hr => first | (go_simp; done) | (go_simp; rfl)); intro w24 hw; have hg : wr.grownBy w24 (some go_) := (by rw [hw]; exact HP23.2); have hp_ : Kd.R (Kd.int .i64) 2 w24 w0.heap.size (fun k_ => (P0_ k_ ∨ w.heap.size ≤ k_)) (.slice (some ⟨go_, 0, none⟩) x0_2.length co4) y184 := (by rw [hw, Ny184.out]; exact HP23.1); clear HP23; have n0_ := Aside0.mk (hp_); have n1_ := Aside0.mk ((by rw [hw]; exact below_set (HB.out) GB22.out : Below w0.heap.size w0 w24)); have n2_ := Aside0.mk (Kept.of_grown (S := (fun k_ => P0_ k_)) hg (by repeat (first | (with_reducible first | exact HK.out | apply Kept.alloc | apply Kept.drewN | apply Kept.drew) | exact HK.out)) (fun k_ e_ => (HO_0.out.1 k_ e_))); clear HO_0; clear HB; clear HK; have HO_0 := n0_; have HB := n1_; have HK := n2_; clear n0_ n1_ n2_; clear hg hw hp_)))
                   (try simp only [← hl0_2])
                   go_roundg k2
                   case measure => have := HK1.out; have := HK2.out; omega
                   case rel => exact ⟨(y184), (wrap64 (x3_2 + 1)), (wrap64 (x5_2 + 1)), (by first | rfl | (simp; done) | (simp [*]; done) | (simp [bne_nil]; done)), (by first | rfl | (simp; done) | (simp [*]; done) | (simp [bne_nil]; done)), H', ⟨by have := HK1.out; have := HK2.out; omega⟩, ⟨by (try simp only [hl0_1]); (try simp only [hl0_2]); (with_reducible repeat (first | apply Kd.R_alloc | apply Kd.R_drewN | apply Kd.R_drew)); exact HO_0.out⟩, ⟨by repeat (first | (with_reducible first | exact HK.out | apply Kept.alloc | apply Kept.drewN | apply Kept.drew) | exact HK.out)⟩, ⟨bq⟩⟩
                  ·rw [if_neg c21] at H
                   exact absurd H (by simp)
                 ·rw [if_neg c20] at H
                  exact absurd H (by simp)
               ·rw [if_neg c18] at H
                exact absurd H (by simp)
              ·rw [if_neg c17] at H
               exact absurd H (by simp)
             ·rw [if_neg c15] at H
              exact absurd H (by simp)
            ·rw [if_neg c14] at H
             have c14b0 : decide (x5_2 < (y177.length : Int)) = false := decide_eq_false c14
             clear c14
             have cq_ : x3_2 < (x0_2.length : Int) := by
              by_cases h_ : x3_2 < (x0_2.length : Int)
              ·exact h_
              ·rw [if_neg h_] at H
               exact absurd H (by simp)
             rw [if_pos cq_] at H
             have CQ_ := Aside0.mk cq_
             clear cq_
             by_cases c25 : 0 ≤ x3_2
             ·rw [if_pos c25] at H
              have c25b0 := eq_true c25
              have c25b1 : decide (0 ≤ x3_2) = true := decide_eq_true c25
              clear c25
              by_cases c26 : x3_2 ≤ (x0_2.length : Int)
              ·rw [if_pos c26] at H
               have c26b0 := eq_true c26
               have c26b1 : decide (x3_2 ≤ (x0_2.length : Int)) = true := decide_eq_true c26
               clear c26
               obtain ⟨y185, hy185⟩ : ∃ y_ : List Int, y_ = (x0_2.drop (x3_2 : Int).toNat) := ⟨_, rfl⟩
               replace H : (some (x0_2.take (x3_2 : Int).toNat)) = some r := by first | (rw [hy185]; with_reducible exact H) | (have H2_ := (Option.bind_some _ _).symm.trans H; rw [hy185]; with_reducible exact H2_) | (have H2_ := (Option.bind_some _ _).symm.trans H; with_reducible exact H2_) | with_reducible exact H | (rw [hy185]; exact H) | exact H
               have Ny185 := Aside0.mk hy185
               clear hy185
               have c27b0 := eq_true (of_decide_eq_true (by first | (with_reducible assumption) | assumption) : x3_2 ≤ (x0_2.length : Int))
               obtain ⟨y189, hy189⟩ : ∃ y_ : List Int, y_ = (x0_2.take (x3_2 : Int).toNat) := ⟨_, rfl⟩
               replace H : (some y189) = some r := by first | (rw [hy189]; with_reducible exact H) | (have H2_ := (Option.bind_some _ _).symm.trans H; rw [hy189]; with_reducible exact H2_) | (have H2_ := (Option.bind_some _ _).symm.trans H; with_reducible exact H2_) | with_reducible exact H | (rw [hy189]; exact H) | exact H
               have Ny189 := Aside0.mk hy189
               clear hy189
               obtain rfl := Option.some.inj H
               have q28 : (x3_2 : Int) ≤ ((x0_2.length : Int) : Int) := of_decide_eq_true (by first | (with_reducible assumption) | assumption)
               obtain ⟨i028, hi028, _, hsz28, _⟩ := info_parts info2
               have hroom28 : x0_2.length ≤ co4 := (Kd.R_reads' HO_0.out).2.1
               have hC28 : Kd.C (Kd.int .i64) _ (some ⟨go_, 0, none⟩) x0_2.length x0_2 := (Kd.R_reads' HO_0.out).2.2
               have q028 : (0 : Int) ≤ (x3_2 : Int) := of_decide_eq_true (by first | (with_reducible assumption) | assumption)
               have hcut28 := cut_from (P := Try.prog) 81 2 .i64 Try.underlying81 hi028 1 hsz28 (some ⟨go_, 0, none⟩) x0_2.length co4 x3_2 q028 q28
               have hr28 := Kd.C_drop (m := (x3_2 : Int).toNat) (c := co4) hC28 (by omega) hroom28
               obtain ⟨A28, hA28⟩ : ∃ A1, A1 = (if co4 = (x3_2 : Int).toNat then (some ⟨go_, 0, none⟩) else ((some ⟨go_, 0, none⟩) : Option Addr).map (·.add ((x3_2 : Int).toNat * 1))) := ⟨_, rfl⟩
               obtain ⟨c28, hc28⟩ : ∃ c1, c1 = co4 - (x3_2 : Int).toNat := ⟨_, rfl⟩
               have hy28 : y185.length = x0_2.length - (x3_2 : Int).toNat := (by rw [Ny185.out, List.length_drop] <;> omega)
               rw [show (x0_2).drop (x3_2 : Int).toNat = y185 from Ny185.out.symm] at hr28
               replace hr28 : Kd.C (Kd.int .i64) _ A28 y185.length y185 := (by rw [hA28]; exact hr28)
               rw [← hy28, ← hA28, ← hc28] at hcut28
               have HR188 := Aside0.mk hr28
               have HC188 := Aside0.mk (show y185.length ≤ c28 from by rw [hy28, hc28]; exact Nat.sub_le_sub_right hroom28 _)
               clear hr28 hC28 hroom28 hi028 hsz28 hc28
               have KY28 := Aside0.mk hy28
               have KA28 := Aside0.mk hA28
               clear hy28 hA28
               have KL28 := Aside0.mk (show (x3_2 : Int).toNat ≤ x0_2.length from by omega)
               replace q28 := eq_true q28
               have q29 : (x3_2 : Int) ≤ ((x0_2.length : Int) : Int) := of_decide_eq_true (by first | (with_reducible assumption) | assumption)
               obtain ⟨i029, hi029, _, hsz29, _⟩ := info_parts info2
               have hcut29 := cut_to (P := Try.prog) 81 2 .i64 Try.underlying81 hi029 (some ⟨go_, 0, none⟩) x0_2.length co4 x3_2 (of_decide_eq_true (by first | (with_reducible assumption) | assumption)) q29 (Kd.R_reads' HO_0.out).2.1
               have hy29 : y189.length = (x3_2 : Int).toNat := (by rw [Ny189.out, List.length_take]; omega)
               rw [← hy29] at hcut29
               have KW_ := Aside0.mk hy29
               clear hy29 hi029 hsz29
               replace q29 := eq_true q29
               have c0q_ := Aside0.mk (decide_eq_true (show (0 : Int) ≤ x3_2 from of_decide_eq_true (by first | (with_reducible assumption) | assumption)))
               go_wp2_with (first | ((with_reducible refine gate_builtin (b := .clear) (xs := #[.tmp 56]) rfl ?_); refine clear_event rfl (.tmp 56) 81 2 (.int .i64 0) rfl Try.underlying81 (fun w_ => by kernel_rfl) rfl rfl (by (with_reducible repeat (first | apply Kd.R_alloc | apply Kd.R_drewN | apply Kd.R_drew)); exact HO_0.out) (by first | rfl | exact hl0_2 | omega) (k := x3_2) (of_decide_eq_true c0q_.out) CQ_.out KA28.out (KY28.out.trans (by first | rfl | omega)) rfl ?_; intro wc_ hc_ hgc_; have n0_ := Aside0.mk (show Kd.R (Kd.int .i64) 2 wc_ w0.heap.size _ (.slice _ y189.length _) y189 from (by rw [show y189 = _ from Ny189.out, show List.length (List.take _ _) = (x3_2 : Int).toNat from (by rw [← show y189 = _ from Ny189.out]; exact KW_.out)]; exact hc_)); have n1_ := Aside0.mk (show Below w0.heap.size w0 wc_ from Below.grown (B := w0.heap.size) (a := w0) bq hgc_ (below_size bq) (fun k_ hk_ => Kd.R_base HO_0.out k_ hk_)); have n2_ := Aside0.mk (show Kept w wc_ (fun k_ => P0_ k_) from Kept.of_grown (S := (fun k_ => P0_ k_)) hgc_ (by repeat (first | (with_reducible first | exact HK.out | apply Kept.alloc | apply Kept.drewN | apply Kept.drew) | exact HK.out)) (fun k_ e_ => (HO_0.out.1 k_ e_))); clear HO_0 HB HK; have HO191 := n0_; have HB := n1_; have HK := n2_; clear n0_ n1_ n2_ hc_ hgc_))
               repeat (go_quiet (first | ((with_reducible refine gate_builtin (b := .clear) (xs := #[.tmp 56]) rfl ?_); refine clear_event rfl (.tmp 56) 81 2 (.int .i64 0) rfl Try.underlying81 (fun w_ => by kernel_rfl) rfl rfl (by (with_reducible repeat (first | apply Kd.R_alloc | apply Kd.R_drewN | apply Kd.R_drew)); exact HO_0.out) (by first | rfl | exact hl0_2 | omega) (k := x3_2) (of_decide_eq_true c0q_.out) CQ_.out KA28.out (KY28.out.trans (by first | rfl | omega)) rfl ?_; intro wc_ hc_ hgc_; have n0_ := Aside0.mk (show Kd.R (Kd.int .i64) 2 wc_ w0.heap.size _ (.slice _ y189.length _) y189 from (by rw [show y189 = _ from Ny189.out, show List.length (List.take _ _) = (x3_2 : Int).toNat from (by rw [← show y189 = _ from Ny189.out]; exact KW_.out)]; exact hc_)); have n1_ := Aside0.mk (show Below w0.heap.size w0 wc_ from Below.grown (B := w0.heap.size) (a := w0) bq hgc_ (below_size bq) (fun k_ hk_ => Kd.R_base HO_0.out k_ hk_)); have n2_ := Aside0.mk (show Kept w wc_ (fun k_ => P0_ k_) from Kept.of_grown (S := (fun k_ => P0_ k_)) hgc_ (by repeat (first | (with_reducible first | exact HK.out | apply Kept.alloc | apply Kept.drewN | apply Kept.drew) | exact HK.out)) (fun k_ e_ => (HO_0.out.1 k_ e_))); clear HO_0 HB HK; have HO191 := n0_; have HB := n1_; have HK := n2_; clear n0_ n1_ n2_ hc_ hgc_)); try go_wp2_with (first | ((with_reducible refine gate_builtin (b := .clear) (xs := #[.tmp 56]) rfl ?_); refine clear_event rfl (.tmp 56) 81 2 (.int .i64 0) rfl Try.underlying81 (fun w_ => by kernel_rfl) rfl rfl (by (with_reducible repeat (first | apply Kd.R_alloc | apply Kd.R_drewN | apply Kd.R_drew)); exact HO_0.out) (by first | rfl | exact hl0_2 | omega) (k := x3_2) (of_decide_eq_true c0q_.out) CQ_.out KA28.out (KY28.out.trans (by first | rfl | omega)) rfl ?_; intro wc_ hc_ hgc_; have n0_ := Aside0.mk (show Kd.R (Kd.int .i64) 2 wc_ w0.heap.size _ (.slice _ y189.length _) y189 from (by rw [show y189 = _ from Ny189.out, show List.length (List.take _ _) = (x3_2 : Int).toNat from (by rw [← show y189 = _ from Ny189.out]; exact KW_.out)]; exact hc_)); have n1_ := Aside0.mk (show Below w0.heap.size w0 wc_ from Below.grown (B := w0.heap.size) (a := w0) bq hgc_ (below_size bq) (fun k_ hk_ => Kd.R_base HO_0.out k_ hk_)); have n2_ := Aside0.mk (show Kept w wc_ (fun k_ => P0_ k_) from Kept.of_grown (S := (fun k_ => P0_ k_)) hgc_ (by repeat (first | (with_reducible first | exact HK.out | apply Kept.alloc | apply Kept.drewN | apply Kept.drew) | exact HK.out)) (fun k_ e_ => (HO_0.out.1 k_ e_))); clear HO_0 HB HK; have HO191 := n0_; have HB := n1_; have HK := n2_; clear n0_ n1_ n2_ hc_ hgc_)))
               go_ret
               exact ⟨_, by first | rfl | (simp [errW_none, errW_some] <;> rfl) | (simp only [← hji7]; first | rfl | (simp [errW_none, errW_some] <;> rfl)) | (simp [*, errW_none, errW_some] <;> rfl), by (with_reducible repeat (first | apply Kd.R_alloc | apply Kd.R_drewN | apply Kd.R_drew)); exact HO191.out, bq, by repeat (first | (with_reducible first | exact HK.out | apply Kept.alloc | apply Kept.drewN | apply Kept.drew) | exact HK.out)⟩
              ·rw [if_neg c26] at H
               exact absurd H (by simp)
             ·rw [if_neg c25] at H
              exact absurd H (by simp)
         ·rw [if_neg c12] at H
          exact absurd H (by simp)
        ·rw [if_neg c10] at H
         have c10b0 : ((rd x0_1 x3_1) == (rd x0_1 (ji7))) = false := beq_eq_false_iff_ne.mpr c10
         have c10b1 : ((rd x0_1 x3_1) != (rd x0_1 (ji7))) = true := bne_iff_ne.mpr c10
         have H' := Aside0.mk H
         clear H
         have p175 : 0 ≤ (x3_1 : Int) := of_decide_eq_true (by first | (with_reducible assumption) | assumption)
         have q175 : x3_1 < (x0_1.length : Int) := of_decide_eq_true (by first | (with_reducible assumption) | assumption)
         obtain ⟨adq_, e175, hx175_0⟩ := Kd.at_int (Kd.R_reads' HO_0.out).2.2 x3_1 p175 q175
         cases e175
         (try simp only [add_plain] at hx175_0)
         replace p175 := eq_true p175
         replace q175 := eq_true q175
         have p176 : 0 ≤ ((ji7) : Int) := of_decide_eq_true (by first | (with_reducible assumption) | assumption)
         have q176 : (ji7) < (x0_1.length : Int) := of_decide_eq_true (by first | (with_reducible assumption) | assumption)
         obtain ⟨ad176, e176, hx176_0⟩ := Kd.at_int (Kd.R_reads' HO_0.out).2.2 (ji7) p176 q176
         cases e176
         (try simp only [add_plain] at hx176_0)
         replace p176 := eq_true p176
         replace q176 := eq_true q176
         go_wp2
         repeat (go_quiet (fail); try go_wp2)
         (try simp only [← hl0_1])
         go_roundg k1
         case measure => have := HK1.out; omega
         case rel => exact ⟨(x0_1), (wrap64 (x3_1 + 1)), (by first | rfl | (simp; done) | (simp [*]; done) | (simp [bne_nil]; done)), H', ⟨by have := HK1.out; omega⟩, ⟨by (try simp only [hl0_1]); (with_reducible repeat (first | apply Kd.R_alloc | apply Kd.R_drewN | apply Kd.R_drew)); exact HO_0.out⟩, ⟨by repeat (first | (with_reducible first | exact HK.out | apply Kept.alloc | apply Kept.drewN | apply Kept.drew) | exact HK.out)⟩, ⟨bq⟩⟩
       ·rw [if_neg c9] at H
        exact absurd H (by simp)
      ·rw [if_neg c8] at H
       exact absurd H (by simp)
     ·rw [if_neg c6] at H
      exact absurd H (by simp)
    ·rw [if_neg c5] at H
     have c5b0 : decide (x3_1 < (x0_1.length : Int)) = false := decide_eq_false c5
     clear c5
     obtain rfl := Option.some.inj H
     go_wp2
     repeat (go_quiet (fail); try go_wp2)
     go_ret
     exact ⟨_, by first | rfl | (simp [errW_none, errW_some] <;> rfl) | (simp [*, errW_none, errW_some] <;> rfl), by (with_reducible repeat (first | apply Kd.R_alloc | apply Kd.R_drewN | apply Kd.R_drew)); exact HO_0.out, bq, by repeat (first | (with_reducible first | exact HK.out | apply Kept.alloc | apply Kept.drewN | apply Kept.drew) | exact HK.out)⟩

/-! ### impl_shardsOf: function 101 -/
def impl_shardsOf.l0 : Nat → List Int → List (S89) → Int → Int → Option (List Int)
  | 0, _, _, _, _ => none
  | k + 1, x3, x8, x9, x10 => if x10 < x9 then (if 0 ≤ x10 then (if x10 < (x8.length : Int) then (if x3.length < 17592186044416 then (impl_shardsOf.l0 k (x3 ++ [(rd_T89 x8 x10).f0]) x8 x9 (wrap64 (x10 + 1))) else (none)) else (none)) else (none)) else ((slices_Sort_int64.f k x3).bind fun t201 => ((slices_Compact_int64.f k t201).bind fun t202 => (some t202)))
def impl_shardsOf.f (k : Nat) (a0_0 : Int) (l0_1 : List (S89)) : Option (List Int) := impl_shardsOf.l0 k (([] : List Int)) l0_1 (l0_1.length : Int) 0
theorem impl_shardsOf.mono_l : ∀ k, (∀ y0 y1 y2 y3, LeO (impl_shardsOf.l0 k y0 y1 y2 y3) (impl_shardsOf.l0 (k + 1) y0 y1 y2 y3))
  | 0 => fun _ _ _ _ r h => by simp [impl_shardsOf.l0] at h
  | k + 1 => by
    have ih0 := impl_shardsOf.mono_l k
    · intro y0 y1 y2 y3
      unfold impl_shardsOf.l0
      repeat' first
      | (with_reducible exact ih0 _ _ _ _)
      | (with_reducible exact slices_Compact_int64.mono _ _)
      | (with_reducible exact slices_Sort_int64.mono _ _)
      | (with_reducible exact LeO.refl _)
      | (with_reducible exact LeO.none _)
      | (with_reducible refine LeO.ite ?_ ?_)
      | (with_reducible refine LeO.bind ?_ (fun _ => ?_))
      | exact ih0 _ _ _ _
      | exact slices_Compact_int64.mono _ _
      | exact slices_Sort_int64.mono _ _
      | exact LeO.none _
      | refine LeO.ite ?_ ?_
      | refine LeO.bind ?_ (fun _ => ?_)
theorem impl_shardsOf.mono : ∀ a0 a1 k, LeO (impl_shardsOf.f k a0 a1) (impl_shardsOf.f (k + 1) a0 a1) := by
  intro a0 a1 k
  have ih0 := impl_shardsOf.mono_l k
  unfold impl_shardsOf.f
  repeat' first
      | (with_reducible exact ih0 _ _ _ _)
      | (with_reducible exact slices_Compact_int64.mono _ _)
      | (with_reducible exact slices_Sort_int64.mono _ _)
      | (with_reducible exact LeO.refl _)
      | (with_reducible exact LeO.none _)
      | (with_reducible refine LeO.ite ?_ ?_)
      | (with_reducible refine LeO.bind ?_ (fun _ => ?_))
      | exact ih0 _ _ _ _
      | exact slices_Compact_int64.mono _ _
      | exact slices_Sort_int64.mono _ _
      | exact LeO.none _
      | refine LeO.ite ?_ ?_
      | refine LeO.bind ?_ (fun _ => ?_)
set_option maxHeartbeats 8000000 in
set_option maxRecDepth 100000 in
theorem impl_shardsOf.calls (k : Nat) (a0_0 : Int) (A0_1 : Option Addr) (c0_1 : Nat) (l0_1 : List (S89)) (r : List Int) (w : World) (hr0_1 : Kd.C k89 w A0_1 l0_1.length l0_1) (hc0_1 : l0_1.length ≤ c0_1) (h : impl_shardsOf.f k a0_0 l0_1 = some r) :
  Calls Try.prog 101 #[.agg #[.int .i64 a0_0, .slice A0_1 l0_1.length c0_1]] w fun e w' => ∃ v0_ : Value, e = .returned (v0_) ∧ Kd.R (Kd.int .i64) 2 w' w.heap.size (fun _ => True) v0_ r ∧ Below w.heap.size w w' := by
 have hu36 := Try.underlying36
 have hu89 := Try.underlying89
 have HR0_1 := Aside0.mk hr0_1
 have HC0_1 := Aside0.mk hc0_1
 clear hr0_1 hc0_1
 have HB := Aside0.mk (Below.refl w.heap.size w)
 have H : (impl_shardsOf.l0 k (([] : List Int)) l0_1 (l0_1.length : Int) 0) = some r := h
 clear h
 obtain ⟨y193, hy193⟩ : ∃ y_ : List Int, y_ = (([] : List Int)) := ⟨_, rfl⟩
 replace H : (impl_shardsOf.l0 k y193 l0_1 (l0_1.length : Int) 0) = some r := by first | (rw [hy193]; with_reducible exact H) | (have H2_ := (Option.bind_some _ _).symm.trans H; rw [hy193]; with_reducible exact H2_) | (have H2_ := (Option.bind_some _ _).symm.trans H; with_reducible exact H2_) | with_reducible exact H | (rw [hy193]; exact H) | exact H
 have Ny193 := Aside0.mk hy193
 clear hy193
 have H' := Aside0.mk H
 clear H
 go_enter Try.func101, Try.ntmps101
 go_wp2_with (first | ((with_reducible refine gate_dst (N := 1) rfl ?_); refine box_event ?hg (N := 1) ?hd (cs := #[.int .i64 a0_0, .slice A0_1 l0_1.length c0_1]) (t := 36) ?hr ?_; (case hd => rfl); (case hg => rfl); (case hr => first | (go_simp; done) | (go_simp; rfl)); intro gb192 hg w2 hbox hb; have n0_ := Aside0.mk (below_step bq hb); have n1_ := Aside0.mk (hbox); have n2_ := Aside0.mk ((by rw [hg]; exact (below_size bq) : w.heap.size ≤ gb192)); have n3_ := Aside0.mk ((by rw [hg]; exact (below_size bq) : w.heap.size ≤ gb192)); clear HB; have HB := n0_; have BK192 := n1_; have GW192 := n2_; have GE192 := n3_; clear n0_ n1_ n2_ n3_; clear hb hbox hg) | ((with_reducible refine gate_dst (N := 6) rfl ?_); refine Kd.R_lit (Kd.int .i64) _ 2 ?hg (N := 6) ?hd (xs := ([] : List Int)) (inner := []) (ok := fun _ => True) (okp := fun _ => True) ?hr ?hp (fun _ hk => hk) trivial (Below.refl _ _) (Nat.le_refl _) (by simp) ?_; (case hd => rfl); (case hg => rfl); (case hr => first | (go_simp; done) | (go_simp; rfl)); (case hp => exact (Reps.none _ _)); intro v194 w3 ho4 hb hg_ hnew_; clear hg_ hnew_; (first | rw [← Ny193.out] at ho4 | (simp only [Int.reduceToNat] at ho4; rw [← Ny193.out] at ho4)); have n0_ := Aside0.mk (Kd.R_lower ho4 (below_size bq)); have n1_ := Aside0.mk (blk_below (g := gb192) (o := .cells #[.int .i64 a0_0, .slice A0_1 l0_1.length c0_1] 36 (0, 0)) kq hb); have n2_ := Aside0.mk (below_step bq hb); clear BK192; clear HB; have HO195 := n0_; have BK192 := n1_; have HB := n2_; clear n0_ n1_ n2_; clear hb ho4; have hcz5_0 : w3.cell? ⟨gb192, 0, none⟩ = some (.int .i64 a0_0) := (blk_cell BK192.out 0).trans rfl; have hcz5_1 : w3.cell? ⟨gb192, 1, none⟩ = some (.slice A0_1 l0_1.length c0_1) := (blk_cell BK192.out 1).trans rfl; have hfz5_0 := blk_frozen BK192.out 0; have hfz5_1 := blk_frozen BK192.out 1))
 go_loopg [3, 10] k (fun kq v3 v10 w' => ∃ (x3_1 : List Int) (x10_1 : Int), v10 = .int .i64 x10_1 ∧ Aside0 (impl_shardsOf.l0 kq x3_1 l0_1 (l0_1.length : Int) x10_1 = some r) ∧ Aside0 (kq ≤ k) ∧ Aside0 (Kd.R (Kd.int .i64) 2 w' w.heap.size (fun _ => True) v3 x3_1) ∧ Aside0 (w'.heap[gb192]? = some (.cells #[.int .i64 a0_0, (.slice A0_1 l0_1.length c0_1)] 36 (0, 0))) ∧ Aside0 (Below w.heap.size w w'))
 case atStart => exact ⟨(y193), (0), (by first | rfl | (simp; done) | (simp [*]; done)), H', ⟨Nat.le_refl _⟩, ⟨by (with_reducible repeat (first | apply Kd.R_alloc | apply Kd.R_drewN | apply Kd.R_drew)); exact HO195.out⟩, ⟨by (with_reducible repeat (first | refine blk_drewN ?_ _ | refine blk_drew ?_ | refine blk_alloc ?_ _)); exact BK192.out⟩, ⟨bq⟩⟩
 case round =>
  clear H'
  (try clear c1); (try clear p2); (try clear hcz5_0); (try clear hcz5_1); (try clear hfz5_0); (try clear hfz5_1)
  obtain ⟨x3_1, x10_1, rfl, HA, HK1, HO_3, BK192, HB⟩ := hrel
  cases gk with
  | zero => exact absurd HA.out (by simp [impl_shardsOf.l0])
  | succ k1 =>
   have H := HA.out
   clear HA
   simp only [impl_shardsOf.l0] at H
   by_cases c6 : x10_1 < (l0_1.length : Int)
   ·rw [if_pos c6] at H
    have c6b0 : decide (x10_1 < (l0_1.length : Int)) = true := decide_eq_true c6
    clear c6
    by_cases c7 : 0 ≤ x10_1
    ·rw [if_pos c7] at H
     have c7b0 : decide (0 ≤ x10_1) = true := decide_eq_true c7
     clear c7
     by_cases c8 : x10_1 < (l0_1.length : Int)
     ·rw [if_pos c8] at H
      have c8b0 : decide (x10_1 < (l0_1.length : Int)) = true := decide_eq_true c8
      clear c8
      by_cases c9 : x3_1.length < 17592186044416
      ·rw [if_pos c9] at H
       have LMc9 := Aside0.mk c9
       clear c9
       obtain ⟨y198, hy198⟩ : ∃ y_ : List Int, y_ = (x3_1 ++ [(rd_T89 l0_1 x10_1).f0]) := ⟨_, rfl⟩
       replace H : (impl_shardsOf.l0 k1 y198 l0_1 (l0_1.length : Int) (wrap64 (x10_1 + 1))) = some r := by first | (rw [hy198]; with_reducible exact H) | (have H2_ := (Option.bind_some _ _).symm.trans H; rw [hy198]; with_reducible exact H2_) | (have H2_ := (Option.bind_some _ _).symm.trans H; with_reducible exact H2_) | with_reducible exact H | (rw [hy198]; exact H) | exact H
       have Ny198 := Aside0.mk hy198
       clear hy198
       have H' := Aside0.mk H
       clear H
       have p196 : 0 ≤ (x10_1 : Int) := of_decide_eq_true (by first | (with_reducible assumption) | assumption)
       have q196 : x10_1 < (l0_1.length : Int) := of_decide_eq_true (by first | (with_reducible assumption) | assumption)
       obtain ⟨ad196, e196, hx196_0, hx196_1, hx196_2, hx196_3⟩ := at_T89 HR0_1.out x10_1 p196 q196
       cases e196
       replace hx196_0 := (HB.out.cell (World.block_lt_of_cell? w _ hx196_0)).trans hx196_0
       replace hx196_1 := (HB.out.cell (World.block_lt_of_cell? w _ hx196_1)).trans hx196_1
       replace hx196_2 := (HB.out.cell (World.block_lt_of_cell? w _ hx196_2)).trans hx196_2
       replace hx196_3 := (HB.out.cell (World.block_lt_of_cell? w _ hx196_3)).trans hx196_3
       replace p196 := eq_true p196
       replace q196 := eq_true q196
       go_wp2_with (first | ((with_reducible refine gate_dst (N := 5) rfl ?_); refine box_event ?hg (N := 5) ?hd (cs := #[.int .i64 0, .int .i64 0, .int .i64 0, .int .i64 0]) (t := 89) ?hr ?_; (case hd => rfl); (case hg => rfl); (case hr => first | (go_simp; done) | (go_simp; rfl)); intro gb197 hg w10 hbox hb; have n0_ := Aside0.mk (Kd.R_below (by (with_reducible repeat (first | apply Kd.R_alloc | apply Kd.R_drewN | apply Kd.R_drew)); exact HO_3.out) hb); have n1_ := Aside0.mk (blk_below (g := gb192) (o := .cells #[.int .i64 a0_0, .slice (some ad196) l0_1.length c0_1] 36 (0, 0)) kq hb); have n2_ := Aside0.mk (below_step bq hb); have n3_ := Aside0.mk (hbox); have n4_ := Aside0.mk ((by rw [hg]; exact (below_size bq) : w.heap.size ≤ gb197)); have n5_ := Aside0.mk ((by rw [hg]; exact (below_size bq) : w.heap.size ≤ gb197)); have n6_ := Aside0.mk ((by rw [hg]; exact Nat.ne_of_lt (blk_lt (g := gb192) (o := .cells #[.int .i64 a0_0, .slice (some ad196) l0_1.length c0_1] 36 (0, 0)) kq) : gb192 ≠ gb197)); have n7_ := Aside0.mk ((by rw [hg]; exact Nat.ne_of_gt (blk_lt (g := gb192) (o := .cells #[.int .i64 a0_0, .slice (some ad196) l0_1.length c0_1] 36 (0, 0)) kq) : gb197 ≠ gb192)); clear HO_3; clear BK192; clear HB; have HO_3 := n0_; have BK192 := n1_; have HB := n2_; have BK197 := n3_; have GW197 := n4_; have GE197 := n5_; have NB192_197 := n6_; have NB197_192 := n7_; clear n0_ n1_ n2_ n3_ n4_ n5_ n6_ n7_; clear hb hbox hg; have hnb11 := NB197_192.out; have hnc11 := NB192_197.out; have hcz12_0 : w10.cell? ⟨gb197, 0, none⟩ = some (.int .i64 0) := (blk_cell BK197.out 0).trans rfl; have hcz12_1 : w10.cell? ⟨gb197, 1, none⟩ = some (.int .i64 0) := (blk_cell BK197.out 1).trans rfl; have hcz12_2 : w10.cell? ⟨gb197, 2, none⟩ = some (.int .i64 0) := (blk_cell BK197.out 2).trans rfl; have hcz12_3 : w10.cell? ⟨gb197, 3, none⟩ = some (.int .i64 0) := (blk_cell BK197.out 3).trans rfl; have hfz12_0 := blk_frozen BK197.out 0; have hfz12_1 := blk_frozen BK197.out 1; have hfz12_2 := blk_frozen BK197.out 2; have hfz12_3 := blk_frozen BK197.out 3) | ((with_reducible refine gate_builtin (b := .append) (xs := #[.tmp 14, .tmp 17]) rfl ?_); at_builtin; refine Kd.R_append (Kd.int .i64) (w0 := w) w.heap.size rfl (.tmp 14) (.tmp 17) 81 2 (.int .i64 0) 8 rfl Try.underlying81 info2 rfl (by decide) (by omega) u3 x3_1 ((rd_T89 l0_1 x10_1).f0) [.int .i64 ((rd_T89 l0_1 x10_1).f0)] (fun _ => True) (fun _ => False) rfl (by first | (go_simp; done) | (go_simp; rfl)) ?aP (fun _ hk => hk.elim) ?aF ?aO ?aB ?aS ?aL ?_; (case aP => exact rfl); (case aB => exact bq); (case aF => exact (fun _ _ => trivial)); (case aO => exact (by (with_reducible repeat (first | apply Kd.R_alloc | apply Kd.R_drewN | apply Kd.R_drew)); exact Kd.R_mono (Kd.R_far (p := ⟨gb197, 3, none⟩) (Kd.R_far (p := ⟨gb197, 2, none⟩) (Kd.R_far (p := ⟨gb197, 1, none⟩) (Kd.R_far (p := ⟨gb197, 0, none⟩) (Kd.R_types HO_3.out BK197.out (by decide)) (fun _ hk => hk.2) (.int .i64 ((rd_T89 l0_1 x10_1).f0))) (fun _ hk => hk.2) (.int .i64 ((rd_T89 l0_1 x10_1).f1))) (fun _ hk => hk.2) (.int .i64 ((rd_T89 l0_1 x10_1).f2))) (fun _ hk => hk.2) (.int .i64 ((rd_T89 l0_1 x10_1).f3))) (fun _ hk => trivial))); (case aS => exact (below_size bq)); (case aL => have := LMc9.out; omega); intro v199 w13 ho hb hg hat; rw [← Ny198.out] at ho; have n0_ := Aside0.mk (blk_grown (g := gb192) (o := .cells #[.int .i64 a0_0, .slice (some ad196) l0_1.length c0_1] 36 (0, 0)) (by (with_reducible repeat (first | refine blk_drewN ?_ _ | refine blk_drew ?_ | refine blk_alloc ?_ _)); refine blk_far ?_ NB192_197.out _; (with_reducible repeat (first | refine blk_drewN ?_ _ | refine blk_drew ?_ | refine blk_alloc ?_ _)); refine blk_far ?_ NB192_197.out _; (with_reducible repeat (first | refine blk_drewN ?_ _ | refine blk_drew ?_ | refine blk_alloc ?_ _)); refine blk_far ?_ NB192_197.out _; (with_reducible repeat (first | refine blk_drewN ?_ _ | refine blk_drew ?_ | refine blk_alloc ?_ _)); refine blk_far ?_ NB192_197.out _; (with_reducible repeat (first | refine blk_drewN ?_ _ | refine blk_drew ?_ | refine blk_alloc ?_ _)); exact BK192.out) hg (Kd.R_ne HO_3.out BK192.out (by decide))); have n1_ := Aside0.mk (blk_grown (g := gb197) (o := .cells #[.int .i64 ((rd_T89 l0_1 x10_1).f0), .int .i64 ((rd_T89 l0_1 x10_1).f1), .int .i64 ((rd_T89 l0_1 x10_1).f2), .int .i64 ((rd_T89 l0_1 x10_1).f3)] 89 (0, 0)) (by (with_reducible repeat (first | refine blk_drewN ?_ _ | refine blk_drew ?_ | refine blk_alloc ?_ _)); refine blk_put (cs := #[.int .i64 ((rd_T89 l0_1 x10_1).f0), .int .i64 ((rd_T89 l0_1 x10_1).f1), .int .i64 ((rd_T89 l0_1 x10_1).f2), .int .i64 0]) ?_ 3 _ rfl; (with_reducible repeat (first | refine blk_drewN ?_ _ | refine blk_drew ?_ | refine blk_alloc ?_ _)); refine blk_put (cs := #[.int .i64 ((rd_T89 l0_1 x10_1).f0), .int .i64 ((rd_T89 l0_1 x10_1).f1), .int .i64 0, .int .i64 0]) ?_ 2 _ rfl; (with_reducible repeat (first | refine blk_drewN ?_ _ | refine blk_drew ?_ | refine blk_alloc ?_ _)); refine blk_put (cs := #[.int .i64 ((rd_T89 l0_1 x10_1).f0), .int .i64 0, .int .i64 0, .int .i64 0]) ?_ 1 _ rfl; (with_reducible repeat (first | refine blk_drewN ?_ _ | refine blk_drew ?_ | refine blk_alloc ?_ _)); refine blk_put (cs := #[.int .i64 0, .int .i64 0, .int .i64 0, .int .i64 0]) ?_ 0 _ rfl; (with_reducible repeat (first | refine blk_drewN ?_ _ | refine blk_drew ?_ | refine blk_alloc ?_ _)); exact BK197.out) hg (Kd.R_ne HO_3.out BK197.out (by decide))); have n2_ := Aside0.mk (hb); have n3_ := Aside0.mk (ho); clear BK192; clear BK197; clear HB; clear HO_3; have BK192 := n0_; have BK197 := n1_; have HB := n2_; have HO200 := n3_; clear n0_ n1_ n2_ n3_; clear ho hb hg hat))
       go_roundg k1
       case measure => have := HK1.out; omega
       case rel => exact ⟨(y198), (wrap64 (x10_1 + 1)), (by first | rfl | (simp; done) | (simp [*]; done)), H', ⟨by have := HK1.out; omega⟩, ⟨by (with_reducible repeat (first | apply Kd.R_alloc | apply Kd.R_drewN | apply Kd.R_drew)); exact HO200.out⟩, ⟨by (with_reducible repeat (first | refine blk_drewN ?_ _ | refine blk_drew ?_ | refine blk_alloc ?_ _)); exact BK192.out⟩, ⟨bq⟩⟩
      ·rw [if_neg c9] at H
       exact absurd H (by simp)
     ·rw [if_neg c8] at H
      exact absurd H (by simp)
    ·rw [if_neg c7] at H
     exact absurd H (by simp)
   ·rw [if_neg c6] at H
    have c6b0 : decide (x10_1 < (l0_1.length : Int)) = false := decide_eq_false c6
    clear c6
    replace H := Option.bind_eq_some_iff.mp H
    obtain ⟨t201, A140, H⟩ := H
    replace H : ((slices_Compact_int64.f k1 t201).bind fun t202 => (some t202)) = some r := H
    have A14 := Aside0.mk A140
    clear A140
    replace H := Option.bind_eq_some_iff.mp H
    obtain ⟨t202, A150, H⟩ := H
    replace H : (some t202) = some r := H
    have A15 := Aside0.mk A150
    clear A150
    obtain rfl := Option.some.inj H
    obtain ⟨Ao16, co16, eo16⟩ := Kd.R_slice HO_3.out
    subst eo16
    go_wp2_with (first | ((with_reducible refine gate_callee (f := 123) rfl ?_); refine goesLq (some 21) rfl rfl Try.func123 (by kernel_rfl) rfl #[.slice Ao16 x3_1.length co16] rfl ?_; (with_reducible refine (slices_Sort_int64.calls k1 (fun k_ => some k_ = (.slice Ao16 x3_1.length co16 : Value).ownBlock) (.slice Ao16 x3_1.length co16) x3_1 t201 w _ ?side1 ?side2 A14.out).mono ?_); (case side1 => repeat (first | (with_reducible first | exact HB.out | apply below_alloc | apply pw_below_drewN | apply below_drew1 | refine below_set ?_ GE192.out) | exact HB.out)); (case side2 => exact Kd.R_tight rfl HO_3.out); rintro e w17 ⟨rfl, hy0, hb, hkp⟩; refine ⟨_, rfl, ?_⟩; have n0_ := Aside0.mk (Kd.R_reok rfl hy0 (fun k_ e_ => HO_3.out.1 k_ e_)); have n1_ := Aside0.mk (blk_kept kq hkp (fun hs_ => (fun e_ => (Kd.R_ne HO_3.out BK192.out (by decide)) e_) hs_)); have n2_ := Aside0.mk (hb); clear HO_3; clear BK192; clear HB; have HO_3 := n0_; have BK192 := n1_; have HB := n2_; clear n0_ n1_ n2_; (try clear hb); (try clear hkp); (try clear hy0)) | ((with_reducible refine gate_callee (f := 124) rfl ?_); refine goesLq (some 23) rfl rfl Try.func124 (by kernel_rfl) rfl #[.slice Ao16 x3_1.length co16] rfl ?_; (with_reducible refine (slices_Compact_int64.calls k1 (fun k_ => some k_ = (.slice Ao16 x3_1.length co16 : Value).ownBlock) (.slice Ao16 x3_1.length co16) t201 t202 w _ ?side1 ?side2 A15.out).mono ?_); (case side1 => repeat (first | (with_reducible first | exact HB.out | apply below_alloc | apply pw_below_drewN | apply below_drew1 | refine below_set ?_ GE192.out) | exact HB.out)); (case side2 => exact Kd.R_tight rfl HO_3.out); rintro e w18 ⟨v203, rfl, ho0, hb, hkp⟩; refine ⟨_, rfl, ?_⟩; have n0_ := Aside0.mk (blk_kept kq hkp (fun hs_ => (fun e_ => (Kd.R_ne HO_3.out BK192.out (by decide)) e_) hs_)); have n1_ := Aside0.mk (Kd.R_mono (ok' := fun k_ => True) ho0 (fun k_ hk_ => trivial)); have n2_ := Aside0.mk (hb); clear BK192; clear HB; clear HO_3; have BK192 := n0_; have HO204 := n1_; have HB := n2_; clear n0_ n1_ n2_; (try clear hb); (try clear hkp); (try clear ho0)))
    go_ret
    exact ⟨_, by first | rfl | (simp [errW_none, errW_some] <;> rfl) | (simp [*, errW_none, errW_some] <;> rfl), by (with_reducible repeat (first | apply Kd.R_alloc | apply Kd.R_drewN | apply Kd.R_drew)); exact HO204.out, bq⟩

/-! ### impl_ShardsOf: function 60 -/
def impl_ShardsOf.f (k : Nat) (a0_0 : Int) (l0_1 : List (S89)) : Option (Int × List Int) := (impl_ContractFault.f k a0_0 l0_1).bind fun t207 => (if t207 = 0 then ((impl_shardsOf.f k a0_0 l0_1).bind fun t208 => (some (0, t208))) else (some (t207, ([] : List Int))))
theorem impl_ShardsOf.mono : ∀ a0 a1 k, LeO (impl_ShardsOf.f k a0 a1) (impl_ShardsOf.f (k + 1) a0 a1) := by
  intro a0 a1 k
  unfold impl_ShardsOf.f
  repeat' first
      | (with_reducible exact impl_ContractFault.mono _ _ _)
      | (with_reducible exact impl_shardsOf.mono _ _ _)
      | (with_reducible exact LeO.refl _)
      | (with_reducible exact LeO.none _)
      | (with_reducible refine LeO.ite ?_ ?_)
      | (with_reducible refine LeO.bind ?_ (fun _ => ?_))
      | exact impl_ContractFault.mono _ _ _
      | exact impl_shardsOf.mono _ _ _
      | exact LeO.none _
      | refine LeO.ite ?_ ?_
      | refine LeO.bind ?_ (fun _ => ?_)
set_option maxHeartbeats 8000000 in
set_option maxRecDepth 100000 in
theorem impl_ShardsOf.calls (k : Nat) (a0_0 : Int) (A0_1 : Option Addr) (c0_1 : Nat) (l0_1 : List (S89)) (r1 : Int) (r2 : List Int) (w : World) (hr0_1 : Kd.C k89 w A0_1 l0_1.length l0_1) (hc0_1 : l0_1.length ≤ c0_1) (h : impl_ShardsOf.f k a0_0 l0_1 = some (r1, r2)) :
  Calls Try.prog 60 #[.agg #[.int .i64 a0_0, .slice A0_1 l0_1.length c0_1]] w fun e w' => ∃ v1_ : Value, e = .returned (.agg #[.int .i64 r1, v1_]) ∧ Kd.R (Kd.int .i64) 2 w' w.heap.size (fun _ => True) v1_ r2 ∧ Below w.heap.size w w' := by
 have hu36 := Try.underlying36
 have hu83 := Try.underlying83
 have HR0_1 := Aside0.mk hr0_1
 have HC0_1 := Aside0.mk hc0_1
 clear hr0_1 hc0_1
 have HB := Aside0.mk (Below.refl w.heap.size w)
 have H : ((impl_ContractFault.f k a0_0 l0_1).bind fun t207 => (if t207 = 0 then ((impl_shardsOf.f k a0_0 l0_1).bind fun t208 => (some (0, t208))) else (some (t207, ([] : List Int))))) = some (r1, r2) := h
 clear h
 replace H := Option.bind_eq_some_iff.mp H
 obtain ⟨t207, A20, H⟩ := H
 replace H : (if t207 = 0 then ((impl_shardsOf.f k a0_0 l0_1).bind fun t208 => (some (0, t208))) else (some (t207, ([] : List Int)))) = some (r1, r2) := H
 have A2 := Aside0.mk A20
 clear A20
 by_cases c3 : t207 = 0
 ·rw [if_pos c3] at H
  have c3b0 : (t207 == 0) = true := beq_iff_eq.mpr c3
  have c3b1 : (t207 != 0) = false := bne_eq_false_iff_eq.mpr c3
  clear c3
  replace H := Option.bind_eq_some_iff.mp H
  obtain ⟨t208, A40, H⟩ := H
  replace H : (some (0, t208)) = some (r1, r2) := H
  have A4 := Aside0.mk A40
  clear A40
  simp only [Option.some.injEq, Prod.mk.injEq] at H
  obtain ⟨rfl, rfl⟩ := H
  go_enter Try.func60, Try.ntmps60
  go_wp2_with (first | ((with_reducible refine gate_dst (N := 1) rfl ?_); refine box_event ?hg (N := 1) ?hd (cs := #[.int .i64 a0_0, .slice A0_1 l0_1.length c0_1]) (t := 36) ?hr ?_; (case hd => rfl); (case hg => rfl); (case hr => first | (go_simp; done) | (go_simp; rfl)); intro gb205 hg w5 hbox hb; have n0_ := Aside0.mk (below_step bq hb); have n1_ := Aside0.mk (hbox); have n2_ := Aside0.mk ((by rw [hg]; exact (below_size bq) : w.heap.size ≤ gb205)); have n3_ := Aside0.mk ((by rw [hg]; exact (below_size bq) : w.heap.size ≤ gb205)); clear HB; have HB := n0_; have BK205 := n1_; have GW205 := n2_; have GE205 := n3_; clear n0_ n1_ n2_ n3_; clear hb hbox hg) | ((with_reducible refine gate_dst (N := 2) rfl ?_); refine box_event ?hg (N := 2) ?hd (cs := #[.int .i64 0, .slice none 0 0]) (t := 83) ?hr ?_; (case hd => rfl); (case hg => rfl); (case hr => first | (go_simp; done) | (go_simp; rfl)); intro gb206 hg w6 hbox hb; have n0_ := Aside0.mk (blk_below (g := gb205) (o := .cells #[.int .i64 a0_0, .slice A0_1 l0_1.length c0_1] 36 (0, 0)) kq hb); have n1_ := Aside0.mk (below_step bq hb); have n2_ := Aside0.mk (hbox); have n3_ := Aside0.mk ((by rw [hg]; exact (below_size bq) : w.heap.size ≤ gb206)); have n4_ := Aside0.mk ((by rw [hg]; exact (below_size bq) : w.heap.size ≤ gb206)); have n5_ := Aside0.mk ((by rw [hg]; exact Nat.ne_of_lt (blk_lt (g := gb205) (o := .cells #[.int .i64 a0_0, .slice A0_1 l0_1.length c0_1] 36 (0, 0)) kq) : gb205 ≠ gb206)); have n6_ := Aside0.mk ((by rw [hg]; exact Nat.ne_of_gt (blk_lt (g := gb205) (o := .cells #[.int .i64 a0_0, .slice A0_1 l0_1.length c0_1] 36 (0, 0)) kq) : gb206 ≠ gb205)); clear BK205; clear HB; have BK205 := n0_; have HB := n1_; have BK206 := n2_; have GW206 := n3_; have GE206 := n4_; have NB205_206 := n5_; have NB206_205 := n6_; clear n0_ n1_ n2_ n3_ n4_ n5_ n6_; clear hb hbox hg; have hnb7 := NB205_206.out; have hnc7 := NB206_205.out; have hcz8_0 : w6.cell? ⟨gb205, 0, none⟩ = some (.int .i64 a0_0) := (blk_cell BK205.out 0).trans rfl; have hcz8_1 : w6.cell? ⟨gb205, 1, none⟩ = some (.slice A0_1 l0_1.length c0_1) := (blk_cell BK205.out 1).trans rfl; have hfz8_0 := blk_frozen BK205.out 0; have hfz8_1 := blk_frozen BK205.out 1) | ((with_reducible refine gate_callee (f := 26) rfl ?_); refine goesLq (some 5) rfl rfl Try.func26 (by kernel_rfl) rfl #[.agg #[.int .i64 a0_0, .slice A0_1 l0_1.length c0_1]] rfl ?_; (with_reducible refine (impl_ContractFault.calls k a0_0 _ _ l0_1 t207 _ ?side1 ?side2 A2.out).mono ?_); (case side1 => repeat (first | exact (Kd.C_below HR0_1.out HB.out) | (with_reducible refine Kd.C_alloc ?_ _) | (with_reducible refine Kd.C_drewN ?_ _) | (with_reducible refine Kd.C_drew ?_))); (case side2 => exact HC0_1.out); rintro e w9 ⟨rfl, hb⟩; refine ⟨_, rfl, ?_⟩; have n0_ := Aside0.mk (blk_below (g := gb205) (o := .cells #[.int .i64 a0_0, .slice A0_1 l0_1.length c0_1] 36 (0, 0)) kq hb); have n1_ := Aside0.mk (blk_below (g := gb206) (o := .cells #[.int .i64 0, .slice none 0 0] 83 (0, 0)) kq hb); have n2_ := Aside0.mk (below_step bq hb); clear BK205; clear BK206; clear HB; have BK205 := n0_; have BK206 := n1_; have HB := n2_; clear n0_ n1_ n2_; (try clear hb); (try clear hb2); (try clear hk); (try clear hi); have hcz10_0 : w9.cell? ⟨gb205, 0, none⟩ = some (.int .i64 a0_0) := (blk_cell BK205.out 0).trans rfl; have hcz10_1 : w9.cell? ⟨gb205, 1, none⟩ = some (.slice A0_1 l0_1.length c0_1) := (blk_cell BK205.out 1).trans rfl; have hfz10_0 := blk_frozen BK205.out 0; have hfz10_1 := blk_frozen BK205.out 1) | ((with_reducible refine gate_callee (f := 101) rfl ?_); refine goesLq (some 11) rfl rfl Try.func101 (by kernel_rfl) rfl #[.agg #[.int .i64 a0_0, .slice A0_1 l0_1.length c0_1]] rfl ?_; (with_reducible refine (impl_shardsOf.calls k a0_0 _ _ l0_1 t208 _ ?side1 ?side2 A4.out).mono ?_); (case side1 => repeat (first | exact (Kd.C_below HR0_1.out HB.out) | (with_reducible refine Kd.C_alloc ?_ _) | (with_reducible refine Kd.C_drewN ?_ _) | (with_reducible refine Kd.C_drew ?_))); (case side2 => exact HC0_1.out); rintro e w11 ⟨v209, rfl, ho0, hb⟩; refine ⟨_, rfl, ?_⟩; have n0_ := Aside0.mk (Kd.R_lower ho0 (below_size bq)); have n1_ := Aside0.mk (blk_below (g := gb205) (o := .cells #[.int .i64 a0_0, .slice A0_1 l0_1.length c0_1] 36 (0, 0)) kq hb); have n2_ := Aside0.mk (blk_below (g := gb206) (o := .cells #[.int .i64 0, .slice none 0 0] 83 (0, 0)) kq hb); have n3_ := Aside0.mk (below_step bq hb); clear BK205; clear BK206; clear HB; have HO210 := n0_; have BK205 := n1_; have BK206 := n2_; have HB := n3_; clear n0_ n1_ n2_ n3_; (try clear hb); (try clear hb2); (try clear hk); (try clear hi); (try clear ho0); obtain ⟨Ao12, co12, eo12⟩ := Kd.R_slice HO210.out; subst eo12; have hcz13_0 : w11.cell? ⟨gb206, 0, none⟩ = some (.int .i64 0) := (blk_cell BK206.out 0).trans rfl; have hcz13_1 : w11.cell? ⟨gb206, 1, none⟩ = some (.slice none 0 0) := (blk_cell BK206.out 1).trans rfl; have hfz13_0 := blk_frozen BK206.out 0; have hfz13_1 := blk_frozen BK206.out 1))
  refine bodyPost_ret (results_cell_row rfl _ _ gb206 83 #[.int .i64 0, .slice Ao12 t208.length co12] (0, 0) _ rfl (by (with_reducible repeat (first | refine blk_drewN ?_ _ | refine blk_drew ?_ | refine blk_alloc ?_ _)); refine blk_put (cs := #[.int .i64 0, .slice none 0 0]) ?_ 1 _ rfl; (with_reducible repeat (first | refine blk_drewN ?_ _ | refine blk_drew ?_ | refine blk_alloc ?_ _)); refine blk_put (cs := #[.int .i64 0, .slice none 0 0]) ?_ 0 _ rfl; (with_reducible repeat (first | refine blk_drewN ?_ _ | refine blk_drew ?_ | refine blk_alloc ?_ _)); exact BK206.out) Try.underlying83 rfl (by kernel_rfl)) rfl ?_
  exact ⟨_, by first | rfl | (simp [errW_none, errW_some] <;> rfl) | (simp [*, errW_none, errW_some] <;> rfl), by (with_reducible repeat (first | apply Kd.R_alloc | apply Kd.R_drewN | apply Kd.R_drew)); exact Kd.R_mono (Kd.R_far (p := ⟨gb206, 1, none⟩) (Kd.R_far (p := ⟨gb206, 0, none⟩) (Kd.R_types HO210.out BK206.out (by decide)) (fun _ hk => hk.2) (.int .i64 0)) (fun _ hk => hk.2) (.slice Ao12 t208.length co12)) (fun _ hk => trivial), bq⟩
 ·rw [if_neg c3] at H
  have c3b0 : (t207 == 0) = false := beq_eq_false_iff_ne.mpr c3
  have c3b1 : (t207 != 0) = true := bne_iff_ne.mpr c3
  simp only [Option.some.injEq, Prod.mk.injEq] at H
  obtain ⟨rfl, rfl⟩ := H
  go_enter Try.func60, Try.ntmps60
  go_wp2_with (first | ((with_reducible refine gate_dst (N := 1) rfl ?_); refine box_event ?hg (N := 1) ?hd (cs := #[.int .i64 a0_0, .slice A0_1 l0_1.length c0_1]) (t := 36) ?hr ?_; (case hd => rfl); (case hg => rfl); (case hr => first | (go_simp; done) | (go_simp; rfl)); intro gb205 hg w14 hbox hb; have n0_ := Aside0.mk (below_step bq hb); have n1_ := Aside0.mk (hbox); have n2_ := Aside0.mk ((by rw [hg]; exact (below_size bq) : w.heap.size ≤ gb205)); have n3_ := Aside0.mk ((by rw [hg]; exact (below_size bq) : w.heap.size ≤ gb205)); clear HB; have HB := n0_; have BK205 := n1_; have GW205 := n2_; have GE205 := n3_; clear n0_ n1_ n2_ n3_; clear hb hbox hg) | ((with_reducible refine gate_dst (N := 2) rfl ?_); refine box_event ?hg (N := 2) ?hd (cs := #[.int .i64 0, .slice none 0 0]) (t := 83) ?hr ?_; (case hd => rfl); (case hg => rfl); (case hr => first | (go_simp; done) | (go_simp; rfl)); intro gb206 hg w15 hbox hb; have n0_ := Aside0.mk (blk_below (g := gb205) (o := .cells #[.int .i64 a0_0, .slice A0_1 l0_1.length c0_1] 36 (0, 0)) kq hb); have n1_ := Aside0.mk (below_step bq hb); have n2_ := Aside0.mk (hbox); have n3_ := Aside0.mk ((by rw [hg]; exact (below_size bq) : w.heap.size ≤ gb206)); have n4_ := Aside0.mk ((by rw [hg]; exact (below_size bq) : w.heap.size ≤ gb206)); have n5_ := Aside0.mk ((by rw [hg]; exact Nat.ne_of_lt (blk_lt (g := gb205) (o := .cells #[.int .i64 a0_0, .slice A0_1 l0_1.length c0_1] 36 (0, 0)) kq) : gb205 ≠ gb206)); have n6_ := Aside0.mk ((by rw [hg]; exact Nat.ne_of_gt (blk_lt (g := gb205) (o := .cells #[.int .i64 a0_0, .slice A0_1 l0_1.length c0_1] 36 (0, 0)) kq) : gb206 ≠ gb205)); clear BK205; clear HB; have BK205 := n0_; have HB := n1_; have BK206 := n2_; have GW206 := n3_; have GE206 := n4_; have NB205_206 := n5_; have NB206_205 := n6_; clear n0_ n1_ n2_ n3_ n4_ n5_ n6_; clear hb hbox hg; have hnb16 := NB205_206.out; have hnc16 := NB206_205.out; have hcz17_0 : w15.cell? ⟨gb205, 0, none⟩ = some (.int .i64 a0_0) := (blk_cell BK205.out 0).trans rfl; have hcz17_1 : w15.cell? ⟨gb205, 1, none⟩ = some (.slice A0_1 l0_1.length c0_1) := (blk_cell BK205.out 1).trans rfl; have hfz17_0 := blk_frozen BK205.out 0; have hfz17_1 := blk_frozen BK205.out 1) | ((with_reducible refine gate_callee (f := 26) rfl ?_); refine goesLq (some 5) rfl rfl Try.func26 (by kernel_rfl) rfl #[.agg #[.int .i64 a0_0, .slice A0_1 l0_1.length c0_1]] rfl ?_; (with_reducible refine (impl_ContractFault.calls k a0_0 _ _ l0_1 t207 _ ?side1 ?side2 A2.out).mono ?_); (case side1 => repeat (first | exact (Kd.C_below HR0_1.out HB.out) | (with_reducible refine Kd.C_alloc ?_ _) | (with_reducible refine Kd.C_drewN ?_ _) | (with_reducible refine Kd.C_drew ?_))); (case side2 => exact HC0_1.out); rintro e w18 ⟨rfl, hb⟩; refine ⟨_, rfl, ?_⟩; have n0_ := Aside0.mk (blk_below (g := gb205) (o := .cells #[.int .i64 a0_0, .slice A0_1 l0_1.length c0_1] 36 (0, 0)) kq hb); have n1_ := Aside0.mk (blk_below (g := gb206) (o := .cells #[.int .i64 0, .slice none 0 0] 83 (0, 0)) kq hb); have n2_ := Aside0.mk (below_step bq hb); clear BK205; clear BK206; clear HB; have BK205 := n0_; have BK206 := n1_; have HB := n2_; clear n0_ n1_ n2_; (try clear hb); (try clear hb2); (try clear hk); (try clear hi); have hcz19_0 : w18.cell? ⟨gb206, 0, none⟩ = some (.int .i64 0) := (blk_cell BK206.out 0).trans rfl; have hcz19_1 : w18.cell? ⟨gb206, 1, none⟩ = some (.slice none 0 0) := (blk_cell BK206.out 1).trans rfl; have hfz19_0 := blk_frozen BK206.out 0; have hfz19_1 := blk_frozen BK206.out 1))
  refine bodyPost_ret (results_cell_row rfl _ _ gb206 83 #[.int .i64 t207, .slice none 0 0] (0, 0) _ rfl (by (with_reducible repeat (first | refine blk_drewN ?_ _ | refine blk_drew ?_ | refine blk_alloc ?_ _)); refine blk_put (cs := #[.int .i64 t207, .slice none 0 0]) ?_ 1 _ rfl; (with_reducible repeat (first | refine blk_drewN ?_ _ | refine blk_drew ?_ | refine blk_alloc ?_ _)); refine blk_put (cs := #[.int .i64 0, .slice none 0 0]) ?_ 0 _ rfl; (with_reducible repeat (first | refine blk_drewN ?_ _ | refine blk_drew ?_ | refine blk_alloc ?_ _)); exact BK206.out) Try.underlying83 rfl (by kernel_rfl)) rfl ?_
  exact ⟨_, by first | rfl | (simp [errW_none, errW_some] <;> rfl) | (simp [*, errW_none, errW_some] <;> rfl), by first | exact Kd.R_nil _ _ _ _ _ | exact Kd.N_nil _ _ _ _ _ | exact Kd.V_nil _ _ _ _ _ | exact Kd.Q_nil _ _ _ _ _ | exact Kd.S_nil _ _ _ _ _, bq⟩

/-! ### spec_l1In: function 79 -/
def spec_l1In.f (a0 : Int) (a1 : Int) (a2 : Int) : Option (Bool) := if a0 ≥ a1 then (some (decide (a0 ≤ a2))) else (some false)
set_option maxHeartbeats 8000000 in
set_option maxRecDepth 100000 in
theorem spec_l1In.calls (a0 : Int) (a1 : Int) (a2 : Int) (r : Bool) (w : World) (h : spec_l1In.f a0 a1 a2 = some r) :
  Calls Try.prog 79 #[.int .i64 a0, .int .i64 a1, .int .i64 a2] w fun e w' => e = .returned (.bool r) ∧ Drawn0 w w' := by
 have H : (if a0 ≥ a1 then (some (decide (a0 ≤ a2))) else (some false)) = some r := h
 clear h
 by_cases c4 : a0 ≥ a1
 ·rw [if_pos c4] at H
  have c4b0 : decide (a1 ≤ a0) = true := decide_eq_true c4
  clear c4
  obtain rfl := Option.some.inj H
  go_enter Try.func79, Try.ntmps79
  go_wp2
  go_ret
  exact ⟨by first | rfl | (simp; done) | (simp [*]; done), by repeat (first | exact Drawn0.refl _ | apply Drawn0.step)⟩
 ·rw [if_neg c4] at H
  have c4b0 : decide (a1 ≤ a0) = false := decide_eq_false c4
  clear c4
  obtain rfl := Option.some.inj H
  go_enter Try.func79, Try.ntmps79
  go_wp2
  go_ret
  exact ⟨by first | rfl | (simp; done) | (simp [*]; done), by repeat (first | exact Drawn0.refl _ | apply Drawn0.step)⟩

/-! ### spec_l1Id: function 70 -/
def spec_l1Id.f (a0 : Int) : Option (Bool) := (spec_l1In.f a0 1 1000000000).bind fun t211 => (some t211)
set_option maxHeartbeats 8000000 in
set_option maxRecDepth 100000 in
theorem spec_l1Id.calls (a0 : Int) (r : Bool) (w : World) (h : spec_l1Id.f a0 = some r) :
  Calls Try.prog 70 #[.int .i64 a0] w fun e w' => e = .returned (.bool r) ∧ Drawn0 w w' := by
 have H : ((spec_l1In.f a0 1 1000000000).bind fun t211 => (some t211)) = some r := h
 clear h
 replace H := Option.bind_eq_some_iff.mp H
 obtain ⟨t211, A20, H⟩ := H
 replace H : (some t211) = some r := H
 have A2 := Aside0.mk A20
 clear A20
 obtain rfl := Option.some.inj H
 go_enter Try.func70, Try.ntmps70
 go_wp2_with (first | ((with_reducible refine gate_callee (f := 79) rfl ?_); refine goesLq (some 4) rfl rfl Try.func79 (by kernel_rfl) rfl #[.int .i64 a0, .int .i64 1, .int .i64 1000000000] rfl ?_; (with_reducible refine (spec_l1In.calls a0 1 1000000000 t211 _ A2.out).mono ?_); rintro e w' ⟨rfl, ⟨nd, rfl⟩⟩; refine ⟨_, rfl, ?_⟩))
 go_ret
 exact ⟨by first | rfl | (simp; done) | (simp [*]; done), by repeat (first | exact Drawn0.refl _ | apply Drawn0.step)⟩

end Go.Proofs.Ytooiamkaipdmpaa.PFnExactShardsOf
