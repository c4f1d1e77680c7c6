/- Functions that a law reaches, as plain Lean functions, with the proof that the machine comes to their answers. No conditions. -/
import Derived.Test.YtdhlcnlcpjlliaaPFnTablesx0
import Derived.Test.YtdhlcnlcpjlliaaPFnTablesx7
import Derived.Test.YtdhlcnlcpjlliaaPFnTablesx10
namespace Go.Proofs.Ytdhlcnlcpjlliaa.PFnTables
open Go.RowKit Go.Proofs.YtdhlcnlcpjlliaaW.PrintWords Go.Proofs.YtdhlcnlcpjlliaaW.PrintLast Go.Proofs.YtdhlcnlcpjlliaaW.PrintMore
attribute [local go_sem] max2_int min2_int max_two min_two max_three min_three max_four min_four   -- for this text's walks alone
set_option linter.unusedVariables false
set_option linter.unusedSimpArgs false
set_option maxHeartbeats 8000000
set_option maxRecDepth 100000

/-! ### slices_CompactFunc_impl_Row: function 127 -/
theorem run_clear_sliceM {P : Program} (w : World) (t e ty : TypeId) (z : Value) (ht : P.underlying t = some (.slice e)) (hv : ∀ w, (zeroValue e).run P w = .ok z w) (h1 : ∀ v ∈ z.cells.toList, v.oneCell' = true) (b o n c : Nat) (hn : 0 < n)
    (hc : ∀ j, j < n * z.cells.size → (w.cell? ⟨b, o + j, none⟩).isSome = true) (hf : ∀ j, j < n * z.cells.size → w.frozen? ⟨b, o + j, none⟩ = false) :
    (Builtin.clear_ #[t] ty #[.slice (some ⟨b, o, none⟩) n c]).run P w = .ok (.tuple #[]) (w.setCells b o (Builtin.zeroCells z.cells n).toList) := by
  have hzl : (Builtin.zeroCells z.cells n).toList.length = n * z.cells.size := by simp [Builtin.zeroCells]
  have hz1 : ∀ v ∈ (Builtin.zeroCells z.cells n).toList, v.oneCell' = true := by
    intro v hv'
    simp only [Builtin.zeroCells, Array.toList_map, List.mem_map] at hv'
    obtain ⟨i, hi, rfl⟩ := hv'
    have hi' : i < n * z.cells.size := by simpa using hi
    have hp : 0 < z.cells.size := Nat.pos_of_ne_zero (fun e => by rw [e] at hi'; simp at hi')
    have hm := Nat.mod_lt i hp
    rw [getElem!_pos z.cells _ hm]
    exact h1 _ (by simp)
  have hst := run_storeCells_cells (P := P) b o (Builtin.zeroCells z.cells n).toList 0 w (by rw [hzl]; simpa using hc) (by rw [hzl]; simpa using hf) hz1
  simp only [Nat.add_zero] at hst
  obtain ⟨m, rfl⟩ : ∃ m, n = m + 1 := ⟨n - 1, by omega⟩
  simp [Builtin.clear_, run_underlying ht, hv, hst]
theorem clear_eventM {α : Type} {kd : Kd α} (hM : ∀ {w w1 : World} {base : Nat} {ok : Nat → Prop} {x : α} {cs : List Value}, kd.M w base ok x cs → kd.M w1 base ok x cs) {P : Program} {ops : Array Oper} {rest : List Oper} {o : Oper} {a : Act} {Q : Exit → Act → World → Prop} {W : World} (hgd : o.guard = none) (s : Operand) (t e : TypeId) (z : Value)
    (ho : o.op = .call { callee := .builtin .clear, args := #[s], argTypes := #[t] }) (ht : P.underlying t = some (.slice e)) (hv : ∀ w, (zeroValue e).run P w = .ok z w) (hz : z.cells.size = kd.sz) (hz1 : ∀ v ∈ z.cells.toList, v.oneCell' = true)
    {ad : Addr} {A : Option Addr} {n m c c2 : Nat} {k : Int} {base : Nat} {ok : Nat → Prop} {xs : List α} (HO : kd.R e W base ok (.slice (some ad) n c) xs) (hn : n = xs.length) (hk0 : 0 ≤ k) (hk : k < (xs.length : Int)) (hA : A = (if c = k.toNat then some ad else (some ad).map (·.add (k.toNat * kd.sz)))) (hm : m = xs.length - k.toNat) (hs : a.eval s = .slice A m c2)
    (h : ∀ w1, kd.R e w1 base ok (.slice (some ad) k.toNat c) (xs.take k.toNat) → W.grownBy w1 (Value.slice (some ad) n c).ownBlock → wpList P ops Q rest (a.put o.dst (.tuple #[])) w1) : wpList P ops Q (o :: rest) a W := by
  subst hn
  have hkn : k.toNat < xs.length := by omega
  have HT := Kd.R_take (m := k.toNat) HO (by omega)
  obtain ⟨hok, inner, hl, hr⟩ := HO
  obtain ⟨hokt, innert, hlt, hrt⟩ := HT
  rcases hl.2 with ⟨hr, _⟩ | ⟨g, cap, cur, he, hg, hh, hc1, hc2, hc3, hc4⟩
  · cases hr
  rcases hlt.2 with ⟨hr, _⟩ | ⟨g', cap', cur0, he', hg', hh', _, _, _, hc4'⟩
  · cases hr
  injection he with e1 e2 e3
  injection e1 with e1
  subst e1
  subst e3
  injection he' with e1' e2' e3'
  injection e1' with e1'
  injection e1' with e1'
  subst e1' e3'
  rw [hh] at hh'
  injection hh' with hh'
  injection hh' with hh'
  subst hh'
  have hne : ¬ (c = k.toNat) := by omega
  rw [if_neg hne] at hA
  subst hm
  have hA2 : A = some ⟨g, k.toNat * kd.sz, none⟩ := by rw [hA, Option.map_some, Addr.add_lit, Nat.zero_add]
  have hsz : k.toNat * kd.sz + (xs.length - k.toNat) * kd.sz ≤ cur.size := by
    rw [← Nat.add_mul, hc3]
    exact Nat.mul_le_mul_right _ (show k.toNat + (xs.length - k.toNat) ≤ c by omega)
  have hcell : ∀ j, j < (xs.length - k.toNat) * z.cells.size → (W.cell? ⟨g, k.toNat * kd.sz + j, none⟩).isSome = true := fun j hj => by
    rw [hz] at hj
    rw [cell_of_row W g _ cur e (0, 0) hh, Array.getElem?_eq_getElem (by omega)]
    rfl
  have hfr : ∀ j, j < (xs.length - k.toNat) * z.cells.size → W.frozen? ⟨g, k.toNat * kd.sz + j, none⟩ = false := fun j _ => blk_frozen hh _
  have hrun := fun ty => run_clear_sliceM (P := P) W t e ty z ht hv hz1 g (k.toNat * kd.sz) (xs.length - k.toNat) c2 (by omega) hcell hfr
  have hzl : (Builtin.zeroCells z.cells (xs.length - k.toNat)).toList.length = (xs.length - k.toNat) * kd.sz := by simp [Builtin.zeroCells, hz]
  have hrun2 : (execOp a.eval o).run P W = .ok (.value (.tuple #[])) (W.setCells g (k.toNat * kd.sz) (Builtin.zeroCells z.cells (xs.length - k.toNat)).toList) := by
    obtain ⟨dst_, op_, ty_, pos_, after_, guard_⟩ := o
    simp only at ho
    subst ho
    have hb := hrun ty_
    rw [BigFrame.execOp_builtin, BigFrame.builtin_clear]
    simp [hs, hA2, hb, Result.andThen]
  refine Kd.event_run hgd hrun2 (h _ ?_ ?_)
  · obtain ⟨cur', h3, h4, h5⟩ := setCells_row (Builtin.zeroCells z.cells (xs.length - k.toNat)).toList (k.toNat * kd.sz) W cur hh (by rw [hzl]; omega)
    refine ⟨hokt, innert, ⟨hlt.1, Or.inr ⟨g, c, cur', by rw [List.length_take, Nat.min_eq_left (Nat.le_of_lt hkn)], hg, h3, by rw [List.length_take]; omega, hc2, by omega, ?_⟩⟩, ⟨hrt.1, fun j p hp => hM (hrt.2 j p hp)⟩⟩
    have e5 : (xs.take k.toNat).length * kd.sz = k.toNat * kd.sz := by rw [List.length_take, Nat.min_eq_left (Nat.le_of_lt hkn)]
    rw [e5] at hc4' ⊢
    rw [h5]
    have e6 : (cur.toList.take (k.toNat * kd.sz)).length = k.toNat * kd.sz := by rw [List.length_take]; simp; omega
    rw [List.append_assoc, List.take_append_of_le_length (by rw [e6]; exact Nat.le_refl _), List.take_of_length_le (by rw [e6]; exact Nat.le_refl _)]
    exact hc4'
  · obtain ⟨s1, s2, s3, s4⟩ := setCells_same g (Builtin.zeroCells z.cells (xs.length - k.toNat)).toList (k.toNat * kd.sz) W
    refine ⟨s1, s2, s3, Nat.le_of_eq s4.symm, fun i _ hi => setCells_far _ _ i (fun e_ => hi (by rw [e_]; rfl))⟩
/-- What a cut reads now: the row as it stands now. -/
theorem cut_now {α : Type} {kd : Kd α} {W : World} {e : Nat} {ad : Addr} {A : Option Addr} {n c j y : Nat} {base : Nat} {ok : Nat → Prop} {xs zs : List α} (HO : kd.R e W base ok (.slice (some ad) n c) xs) (hA : A = (if c = j then some ad else (some ad).map (·.add (j * kd.sz)))) (hj : j ≤ xs.length) (hy : y = xs.length - j) (hz : zs = xs.drop (xs.length - y)) : kd.C W A zs.length zs := by
  have hn := (Kd.R_reads' HO).1
  subst hn
  have e1 : xs.length - y = j := by omega
  rw [e1] at hz
  subst hz
  rw [hA]
  exact Kd.C_drop (Kd.R_reads' HO).2.2 hj (Kd.R_reads' HO).2.1
mutual
def slices_CompactFunc_impl_Row.l0 : Nat → List (S49) → Int → Option ((List (S49)))
  | 0, _, _ => none
  | k + 1, x0, x5 => if x5 < (x0.length : Int) then (if 0 ≤ x5 then (if 0 ≤ (wrap64 (x5 - 1)) then (if (wrap64 (x5 - 1)) < (x0.length : Int) then ((impl_merged_1.f k ((rd_T49 x0 x5).f0) ((rd_T49 x0 x5).f1) ((rd_T49 x0 x5).f2) ((rd_T49 x0 x5).f3) ((rd_T49 x0 (wrap64 (x5 - 1))).f0) ((rd_T49 x0 (wrap64 (x5 - 1))).f1) ((rd_T49 x0 (wrap64 (x5 - 1))).f2) ((rd_T49 x0 (wrap64 (x5 - 1))).f3)).bind fun t327 => (if t327 = true then (if x5 ≤ (x0.length : Int) then (slices_CompactFunc_impl_Row.l1 k x0 x5 (x0.drop (x5 : Int).toNat) 1) else (none)) else (slices_CompactFunc_impl_Row.l0 k x0 (wrap64 (x5 + 1))))) else (none)) else (none)) else (none)) else (some x0)
def slices_CompactFunc_impl_Row.l1 : Nat → List (S49) → Int → List (S49) → Int → Option ((List (S49)))
  | 0, _, _, _, _ => none
  | k + 1, x0, x5, x6, x7 => if x7 < (x6.length : Int) then (if 0 ≤ x7 then (if 0 ≤ (wrap64 (x7 - 1)) then (if (wrap64 (x7 - 1)) < (x6.length : Int) then ((impl_merged_1.f k ((rd_T49 (x0.drop (x0.length - x6.length)) x7).f0) ((rd_T49 (x0.drop (x0.length - x6.length)) x7).f1) ((rd_T49 (x0.drop (x0.length - x6.length)) x7).f2) ((rd_T49 (x0.drop (x0.length - x6.length)) x7).f3) ((rd_T49 (x0.drop (x0.length - x6.length)) (wrap64 (x7 - 1))).f0) ((rd_T49 (x0.drop (x0.length - x6.length)) (wrap64 (x7 - 1))).f1) ((rd_T49 (x0.drop (x0.length - x6.length)) (wrap64 (x7 - 1))).f2) ((rd_T49 (x0.drop (x0.length - x6.length)) (wrap64 (x7 - 1))).f3)).bind fun t334 => (if t334 = true then (slices_CompactFunc_impl_Row.l1 k x0 x5 x6 (wrap64 (x7 + 1))) else (if 0 ≤ x5 then (if x5 < (x0.length : Int) then (slices_CompactFunc_impl_Row.l1 k (x0.set (x5 : Int).toNat (⟨(rd_T49 (x0.drop (x0.length - x6.length)) x7).f0, (rd_T49 (x0.drop (x0.length - x6.length)) x7).f1, (rd_T49 (x0.drop (x0.length - x6.length)) x7).f2, (rd_T49 (x0.drop (x0.length - x6.length)) x7).f3⟩ : S49)) (wrap64 (x5 + 1)) x6 (wrap64 (x7 + 1))) else (none)) else (none)))) else (none)) else (none)) else (none)) else (if x5 < (x0.length : Int) then (if 0 ≤ x5 then (if x5 ≤ (x0.length : Int) then (some (x0.take (x5 : Int).toNat)) else (none)) else (none)) else (none))
end
def slices_CompactFunc_impl_Row.f (k : Nat) (l0 : List (S49)) : Option ((List (S49))) := if (l0.length : Int) < 2 then (some l0) else (slices_CompactFunc_impl_Row.l0 k l0 1)
def slices_CompactFunc_impl_Row.T6 : Bool × List (List Nat × List Nat) := (true, [([], []), ([], []), ([], []), ([1, 2], [1, 2]), ([3], [3]), ([], []), ([], []), ([6], [6]), ([5, 7], [5, 7]), ([8], [8]), ([0, 4, 9], [0, 4, 9])])
def slices_CompactFunc_impl_Row.B6 : List Nat := [0, 0, 0, 6, 14, 0, 0, 64, 224, 480, 1023]
theorem slices_CompactFunc_impl_Row.tab6 : rtab .any (opsOf Try.f127 6) = slices_CompactFunc_impl_Row.T6 := by kernel_rfl
theorem slices_CompactFunc_impl_Row.bits6 : waitsOk slices_CompactFunc_impl_Row.T6.2 slices_CompactFunc_impl_Row.B6 = true := by kernel_rfl
def slices_CompactFunc_impl_Row.T11 : Bool × List (List Nat × List Nat) := (true, [([], []), ([], []), ([], []), ([1, 2], [1, 2]), ([3], [3]), ([], []), ([], []), ([6], [6]), ([5, 7], [5, 7]), ([8], [8]), ([0, 4, 9], [0, 4, 9]), ([10], [10])])
def slices_CompactFunc_impl_Row.B11 : List Nat := [0, 0, 0, 6, 14, 0, 0, 64, 224, 480, 1023, 2047]
theorem slices_CompactFunc_impl_Row.tab11 : rtab .any (opsOf Try.f127 11) = slices_CompactFunc_impl_Row.T11 := by kernel_rfl
theorem slices_CompactFunc_impl_Row.bits11 : waitsOk slices_CompactFunc_impl_Row.T11.2 slices_CompactFunc_impl_Row.B11 = true := by kernel_rfl
theorem slices_CompactFunc_impl_Row.calls (k : Nat) (P0_ : Nat → Prop) (u9000_ : Value) (l0 : List (S49)) (r : List (S49)) (w0 w : World) (hB : Below w0.heap.size w0 w) (ho0 : Kd.R k49 49 w w0.heap.size P0_ u9000_ l0) (h : slices_CompactFunc_impl_Row.f k l0 = some r) :
  Calls Try.prog 127 #[u9000_, .func (.func 128) #[] #[]] w fun e w' => ∃ v0_ : Value, e = .returned (v0_) ∧ Kd.R k49 49 w' w0.heap.size (fun k_ => (P0_ k_ ∨ w.heap.size ≤ k_)) v0_ r ∧ Below w0.heap.size w0 w' ∧ Kept w w' (fun k_ => P0_ k_) := by
 have hu49 := Try.underlying49
 have HO0 := am (show Kd.R k49 49 w w0.heap.size (fun k_ => (P0_ k_ ∨ w.heap.size ≤ k_)) u9000_ l0 from Kd.R_mono ho0 (fun k_ hk => (.inl hk)))
 have HK := am (Kept.refl w (fun k_ => P0_ k_))
 have HW0 := am hB.size
 have HB := am hB
 clear hB
 have H : (if (l0.length : Int) < 2 then (some l0) else (slices_CompactFunc_impl_Row.l0 k l0 1)) = some r := h
 clear h
 by_cases c2 : (l0.length : Int) < 2
 ·rw [if_pos c2] at H
  have c2b0 := decide_eq_true c2
  have c2b1 : decide (l0.length < 2) = true := decide_eq_true (by omega)
  clear c2
  obtain rfl := Option.some.inj H
  obtain ⟨Ao3, co3, eo3⟩ := Kd.R_slice HO0.out
  subst eo3
  go_enter Try.func127, Try.ntmps127
  go_wp2
  go_ret
  exact ⟨_, q_e, q_r (HO0.out), bq, q_k⟩
 ·rw [if_neg c2] at H
  have c2b0 := decide_eq_false c2
  have c2b1 : decide (l0.length < 2) = false := decide_eq_false (by omega)
  clear c2
  have H' := am H
  clear H
  obtain ⟨Ao4, co4, eo4⟩ := Kd.R_slice HO0.out
  subst eo4
  go_enter Try.func127, Try.ntmps127
  go_wp2
  go_loopg [5] k (fun kq v5 w' => ∃ (x0_1 : List (S49)) (x5_1 : Int), v5 = .int .i64 x5_1 ∧ Aside0 (slices_CompactFunc_impl_Row.l0 kq x0_1 x5_1 = some r) ∧ Aside0 (kq ≤ k) ∧ Aside0 (Kd.R k49 49 w' w0.heap.size (fun k_ => (P0_ k_ ∨ w.heap.size ≤ k_)) (.slice Ao4 l0.length co4) x0_1) ∧ Aside0 (Kept w w' (fun k_ => P0_ k_)) ∧ Aside0 (Below w0.heap.size w0 w'))
  case atStart => exact ⟨(l0), (1), q_i, H', ⟨Nat.le_refl _⟩, ⟨q_r (HO0.out)⟩, ⟨q_k⟩, ⟨bq⟩⟩
  case round =>
   clear H'
   (try clear c1); (try clear c2); (try clear c2b0); (try clear c2b1); (try clear p2)
   obtain ⟨x0_1, x5_1, rfl, HA, HK1, HO_0, HK, HB⟩ := hrel
   have hl0_1 := (Kd.R_reads' HO_0.out).1
   rw [hl0_1] at HO_0
   (try simp only [hl0_1])
   cases gk with
   | zero => exact absurd HA.out (by simp [slices_CompactFunc_impl_Row.l0])
   | succ k1 =>
    have H := HA.out
    clear HA
    simp only [slices_CompactFunc_impl_Row.l0] at H
    by_cases c5 : x5_1 < (x0_1.length : Int)
    ·rw [if_pos c5] at H
     have c5b0 := decide_eq_true c5
     clear c5
     by_cases c6 : 0 ≤ x5_1
     ·rw [if_pos c6] at H
      have c6b0 := decide_eq_true c6
      clear c6
      obtain ⟨ji7, hji7⟩ : ∃ j_ : Int, (wrap64 (x5_1 - 1)) = j_ := ⟨_, rfl⟩
      replace H : (if 0 ≤ (ji7) then (if (ji7) < (x0_1.length : Int) then ((impl_merged_1.f k1 ((rd_T49 x0_1 x5_1).f0) ((rd_T49 x0_1 x5_1).f1) ((rd_T49 x0_1 x5_1).f2) ((rd_T49 x0_1 x5_1).f3) ((rd_T49 x0_1 (ji7)).f0) ((rd_T49 x0_1 (ji7)).f1) ((rd_T49 x0_1 (ji7)).f2) ((rd_T49 x0_1 (ji7)).f3)).bind fun t327 => (if t327 = true then (if x5_1 ≤ (x0_1.length : Int) then (slices_CompactFunc_impl_Row.l1 k1 x0_1 x5_1 (x0_1.drop (x5_1 : Int).toNat) 1) else (none)) else (slices_CompactFunc_impl_Row.l0 k1 x0_1 (wrap64 (x5_1 + 1))))) else (none)) else (none)) = some r := by first | (rw [hji7] at H; exact H) | (simp only [hji7] at H ⊢; exact H)
      have hji7w : (IntKind.i64.wrap (x5_1 - 1)) = ji7 := (i64_w _).trans hji7
      by_cases c8 : 0 ≤ (ji7)
      ·rw [if_pos c8] at H
       have c8b0 := decide_eq_true c8
       clear c8
       by_cases c9 : (ji7) < (x0_1.length : Int)
       ·rw [if_pos c9] at H
        have c9b0 := decide_eq_true c9
        clear c9
        replace H := ob H
        obtain ⟨t327, A100, H⟩ := H
        replace H : (if t327 = true then (if x5_1 ≤ (x0_1.length : Int) then (slices_CompactFunc_impl_Row.l1 k1 x0_1 x5_1 (x0_1.drop (x5_1 : Int).toNat) 1) else (none)) else (slices_CompactFunc_impl_Row.l0 k1 x0_1 (wrap64 (x5_1 + 1)))) = some r := H
        have A10 := am A100
        clear A100
        by_cases c11 : t327 = true
        ·subst c11
         have H1 : (if x5_1 ≤ (x0_1.length : Int) then (slices_CompactFunc_impl_Row.l1 k1 x0_1 x5_1 (x0_1.drop (x5_1 : Int).toNat) 1) else (none)) = some r := by rw [if_pos rfl] at H; exact H
         clear H
         have H := H1
         clear H1
         have c12b0 := eq_true (q_d : 0 ≤ x5_1)
         by_cases c13 : x5_1 ≤ (x0_1.length : Int)
         ·rw [if_pos c13] at H
          have c13b0 := eq_true c13
          have c13b1 := decide_eq_true c13
          clear c13
          obtain ⟨y328, hy328⟩ : ∃ y_ : List (S49), y_ = (x0_1.drop (x5_1 : Int).toNat) := ⟨_, rfl⟩
          replace H : (slices_CompactFunc_impl_Row.l1 k1 x0_1 x5_1 y328 1) = some r := q_h hy328 H
          have Ny328 := am hy328
          clear hy328
          have H' := am H
          clear H
          try go_wp2
          have n0_ := am (Kd.R_drew HO_0.out)
          have n1_ := am (Kept.drew HK.out)
          have n2_ := am (below_drew1 HB.out)
          clear HO_0
          clear HK
          clear HB
          have HO_0 := n0_
          have HK := n1_
          have HB := n2_
          clear n0_ n1_ n2_
          have p325 : 0 ≤ (x5_1 : Int) := q_d
          have q325 : x5_1 < (x0_1.length : Int) := q_d
          obtain ⟨ad325, e325, hx325_0, hx325_1, hx325_2, hx325_3⟩ := at_T49 (Kd.R_reads' HO_0.out).2.2 x5_1 p325 q325
          cases e325
          replace p325 := eq_true p325
          replace q325 := eq_true q325
          have p326 : 0 ≤ ((ji7) : Int) := q_d
          have q326 : (ji7) < (x0_1.length : Int) := q_d
          obtain ⟨ad326, e326, hx326_0, hx326_1, hx326_2, hx326_3⟩ := at_T49 (Kd.R_reads' HO_0.out).2.2 (ji7) p326 q326
          obtain rfl : ad325 = ad326 := (by injection e326)
          replace p326 := eq_true p326
          replace q326 := eq_true q326
          refine start_ (n := 11) (S := fun w' => w'.cell? (ad325.add ((x5_1).toNat * 4)) = some (.string ((rd_T49 x0_1 x5_1).f0)) ∧ w'.cell? ⟨(ad325.add ((x5_1).toNat * 4)).block, (ad325.add ((x5_1).toNat * 4)).off + 1, none⟩ = some (.int .i64 ((rd_T49 x0_1 x5_1).f1)) ∧ w'.cell? ⟨(ad325.add ((x5_1).toNat * 4)).block, (ad325.add ((x5_1).toNat * 4)).off + 2, none⟩ = some (.string ((rd_T49 x0_1 x5_1).f2)) ∧ w'.cell? ⟨(ad325.add ((x5_1).toNat * 4)).block, (ad325.add ((x5_1).toNat * 4)).off + 3, none⟩ = some (.bool ((rd_T49 x0_1 x5_1).f3)) ∧ w'.cell? (ad325.add (((ji7)).toNat * 4)) = some (.string ((rd_T49 x0_1 (ji7)).f0)) ∧ w'.cell? ⟨(ad325.add (((ji7)).toNat * 4)).block, (ad325.add (((ji7)).toNat * 4)).off + 1, none⟩ = some (.int .i64 ((rd_T49 x0_1 (ji7)).f1)) ∧ w'.cell? ⟨(ad325.add (((ji7)).toNat * 4)).block, (ad325.add (((ji7)).toNat * 4)).off + 2, none⟩ = some (.string ((rd_T49 x0_1 (ji7)).f2)) ∧ w'.cell? ⟨(ad325.add (((ji7)).toNat * 4)).block, (ad325.add (((ji7)).toNat * 4)).off + 3, none⟩ = some (.bool ((rd_T49 x0_1 (ji7)).f3))) (ds := []) #[false, false, false, false, false, false, false, false, false, false, false] (by kernel_rfl) rfl rfl ⟨hx325_0, hx325_1, hx325_2, hx325_3, hx326_0, hx326_1, hx326_2, hx326_3⟩ (fun hHeld => ?_); refine with_tabW slices_CompactFunc_impl_Row.tab6 slices_CompactFunc_impl_Row.bits6 (fun HT_ HW_ => ?_)
          generalize wr.drew = w14 at HO_0 HK HB hx325_0 hx325_1 hx325_2 hx325_3 hx326_0 hx326_1 hx326_2 hx326_3 hHeld ⊢
          refine q_p 0 (some 18) #[true, false, false, false, false, false, false, false, false, false, false] HT_.out ?_
          refine q_p 1 (some 19) #[true, true, false, false, false, false, false, false, false, false, false] HT_.out ?_
          refine q_p 2 (some 20) #[true, true, true, false, false, false, false, false, false, false, false] HT_.out ?_
          refine q_p 3 (some 21) #[true, true, true, true, false, false, false, false, false, false, false] HT_.out ?_
          refine q_p 5 (some 23) #[true, true, true, true, false, true, false, false, false, false, false] HT_.out ?_
          refine q_p 6 (some 24) #[true, true, true, true, false, true, true, false, false, false, false] HT_.out ?_
          refine q_p 7 (some 25) #[true, true, true, true, false, true, true, true, false, false, false] HT_.out ?_
          refine q_p 8 (some 26) #[true, true, true, true, false, true, true, true, true, false, false] HT_.out ?_
          refine q_t 4 (some 22) #[true, true, true, true, true, true, true, true, true, false, false] HT_.out HW_.out hHeld ?_
          refine q_t 9 (some 27) #[true, true, true, true, true, true, true, true, true, true, false] HT_.out HW_.out hHeld ?_
          refine one_ (i := 10) (N := some 28) #[true, true, true, true, true, true, true, true, true, true, true] rfl rfl (one_of HT_.out (by kernel_rfl)) (by decide) (fun K hK => ?_)
          refine print_goesR Try.func128 (by kernel_rfl) rfl #[.agg #[.string ((rd_T49 x0_1 x5_1).f0), .int .i64 ((rd_T49 x0_1 x5_1).f1), .string ((rd_T49 x0_1 x5_1).f2), .bool ((rd_T49 x0_1 x5_1).f3)], .agg #[.string ((rd_T49 x0_1 (ji7)).f0), .int .i64 ((rd_T49 x0_1 (ji7)).f1), .string ((rd_T49 x0_1 (ji7)).f2), .bool ((rd_T49 x0_1 (ji7)).f3)]] (by rfl) rfl rfl rfl (by (try simp only [List.map_toArray, List.map_cons, List.map_nil]); first | done | (simp only [hji7]; rfl) | rfl | (simp only [List.length_drop, List.length_take]; rfl)) ?_
          with_reducible refine (impl_merged_1.calls k1 ((rd_T49 x0_1 x5_1).f0) ((rd_T49 x0_1 x5_1).f1) ((rd_T49 x0_1 x5_1).f2) ((rd_T49 x0_1 x5_1).f3) ((rd_T49 x0_1 (ji7)).f0) ((rd_T49 x0_1 (ji7)).f1) ((rd_T49 x0_1 (ji7)).f2) ((rd_T49 x0_1 (ji7)).f3) true _ A10.out).mono ?_
          rintro e w15 ⟨rfl, hb⟩
          have HS0_ := (hb.cell (wb (hHeld.1))).trans (hHeld.1)
          have HS1_ := (hb.cell (wb (hHeld.2.1))).trans (hHeld.2.1)
          have HS2_ := (hb.cell (wb (hHeld.2.2.1))).trans (hHeld.2.2.1)
          have HS3_ := (hb.cell (wb (hHeld.2.2.2.1))).trans (hHeld.2.2.2.1)
          have HS4_ := (hb.cell (wb (hHeld.2.2.2.2.1))).trans (hHeld.2.2.2.2.1)
          have HS5_ := (hb.cell (wb (hHeld.2.2.2.2.2.1))).trans (hHeld.2.2.2.2.2.1)
          have HS6_ := (hb.cell (wb (hHeld.2.2.2.2.2.2.1))).trans (hHeld.2.2.2.2.2.2.1)
          have HS7_ := (hb.cell (wb (hHeld.2.2.2.2.2.2.2))).trans (hHeld.2.2.2.2.2.2.2)
          refine ⟨_, rfl, ?_⟩
          have n0_ := am (Kd.R_below (q_r (HO_0.out)) hb)
          have n1_ := am (Kept.below (S := (fun k_ => P0_ k_)) q_k hb)
          have n2_ := am (below_step bq hb)
          clear HO_0
          clear HK
          clear HB
          have HO_0 := n0_
          have HK := n1_
          have HB := n2_
          clear n0_ n1_ n2_
          (try clear hb)
          (try clear hb2)
          (try clear hk)
          (try clear hi)
          refine hK.out _ _ ⟨HS0_, HS1_, HS2_, HS3_, HS4_, HS5_, HS6_, HS7_⟩ (fun hHeld => ?_)
          clear hK K
          refine norm_ (a' := ?_) ?_ ?_
          rotate_left
          ·show Act.put _ (some 28) _ = _
           simp only [Act.put, List.setIfInBounds_toArray, List.set_cons_zero, List.set_cons_succ, i64_w, i32_w]
           rfl
          refine done_ (done_of HT_.out (by kernel_rfl)) ?_
          have q16 : (x5_1 : Int) ≤ ((x0_1.length : Int) : Int) := q_d
          obtain ⟨i016, hi016, _, hsz16, _⟩ := info_parts info49
          have hroom16 : x0_1.length ≤ co4 := (Kd.R_reads' HO_0.out).2.1
          have hC16 : Kd.C k49 _ (some ad325) x0_1.length x0_1 := (Kd.R_reads' HO_0.out).2.2
          have q016 : (0 : Int) ≤ (x5_1 : Int) := q_d
          have hcut16 := cut_from (P := Try.prog) 25 49 .i64 Try.underlying25 hi016 4 hsz16 (some ad325) x0_1.length co4 x5_1 q016 q16
          have hr16 := Kd.C_drop (m := (x5_1 : Int).toNat) (c := co4) hC16 (by omega) hroom16
          obtain ⟨A16, hA16⟩ : ∃ A1, A1 = (if co4 = (x5_1 : Int).toNat then (some ad325) else ((some ad325) : Option Addr).map (·.add ((x5_1 : Int).toNat * 4))) := ⟨_, rfl⟩
          obtain ⟨c16, hc16⟩ : ∃ c1, c1 = co4 - (x5_1 : Int).toNat := ⟨_, rfl⟩
          have hy16 : y328.length = x0_1.length - (x5_1 : Int).toNat := (by rw [Ny328.out, List.length_drop] <;> omega)
          rw [show (x0_1).drop (x5_1 : Int).toNat = y328 from Ny328.out.symm] at hr16
          replace hr16 : Kd.C k49 _ A16 y328.length y328 := (by rw [hA16]; exact hr16)
          rw [← hy16, ← hA16, ← hc16] at hcut16
          have HR331 := am hr16
          have HC331 := am (show y328.length ≤ c16 from by rw [hy16, hc16]; exact Nat.sub_le_sub_right hroom16 _)
          clear hr16 hC16 hroom16 hi016 hsz16 hc16
          have KY16 := am hy16
          have KA16 := am hA16
          clear hy16 hA16
          have KL16 := am (show (x5_1 : Int).toNat ≤ x0_1.length from by omega)
          replace q16 := eq_true q16
          try go_wp2
          go_loopg [5, 7] k1 (fun kq v5 v7 w' => ∃ (x0_2 : List (S49)) (x5_2 : Int) (x7_2 : Int), v5 = .int .i64 x5_2 ∧ v7 = .int .i64 x7_2 ∧ Aside0 (slices_CompactFunc_impl_Row.l1 kq x0_2 x5_2 y328 x7_2 = some r) ∧ Aside0 (kq ≤ k1) ∧ Aside0 (Kd.R k49 49 w' w0.heap.size (fun k_ => (P0_ k_ ∨ w.heap.size ≤ k_)) (.slice (some ad325) x0_1.length co4) x0_2) ∧ Aside0 (Kept w w' (fun k_ => P0_ k_)) ∧ Aside0 (Below w0.heap.size w0 w'))
          case atStart => exact ⟨(x0_1), (x5_1), (1), q_i, q_i, H', ⟨Nat.le_refl _⟩, ⟨by (try simp only [hl0_1]); (with_reducible repeat (first | apply Kd.R_alloc | apply Kd.R_drewN | apply Kd.R_drew)); exact HO_0.out⟩, ⟨q_k⟩, ⟨bq⟩⟩
          case round =>
           clear H'
           (try clear c1); (try clear q1); (try clear c2); (try clear c2b0); (try clear c2b1); (try clear p2); (try clear p3); (try clear q3); (try clear hx3); (try clear c5); (try clear c5b0); (try clear c6)
           (try clear c6b0); (try clear p6); (try clear c8); (try clear c8b0); (try clear c9); (try clear c9b0); (try clear c11); (try clear c12); (try clear c12b0); (try clear c13); (try clear c13b0)
           (try clear c13b1); (try clear c16); (try clear q16); (try clear hx325_0); (try clear hx325_1); (try clear hx325_2); (try clear hx325_3); (try clear hx326_0); (try clear hx326_1); (try clear hx326_2)
           (try clear hx326_3); (try clear p2); (try clear p325); (try clear p326); (try clear q016); (try clear q16); (try clear q325); (try clear q326)
           obtain ⟨x0_2, x5_2, x7_2, rfl, rfl, HA, HK2, HO_0, HK, HB⟩ := hrel
           have hl0_2 := (Kd.R_reads' HO_0.out).1
           rw [hl0_2] at HO_0
           (try simp only [hl0_2])
           cases gk with
           | zero => exact absurd HA.out (by simp [slices_CompactFunc_impl_Row.l1])
           | succ k2 =>
            have H := HA.out
            clear HA
            simp only [slices_CompactFunc_impl_Row.l1] at H
            obtain ⟨z328, hz_⟩ : ∃ z_, z_ = x0_2.drop (x0_2.length - y328.length) := ⟨_, rfl⟩
            rw [← hz_] at H
            have ZL_ := am (show z328.length = y328.length from by rw [hz_, List.length_drop]; have h1_ := KY16.out; have h2_ := KL16.out; have h3_ := hl0_2; omega)
            have ZY_ := am hz_
            clear hz_
            by_cases c17 : x7_2 < (y328.length : Int)
            ·rw [if_pos c17] at H
             have c17b0 := decide_eq_true c17
             clear c17
             by_cases c18 : 0 ≤ x7_2
             ·rw [if_pos c18] at H
              have c18b0 := decide_eq_true c18
              clear c18
              obtain ⟨ji19, hji19⟩ : ∃ j_ : Int, (wrap64 (x7_2 - 1)) = j_ := ⟨_, rfl⟩
              replace H : (if 0 ≤ (ji19) then (if (ji19) < (y328.length : Int) then ((impl_merged_1.f k2 ((rd_T49 z328 x7_2).f0) ((rd_T49 z328 x7_2).f1) ((rd_T49 z328 x7_2).f2) ((rd_T49 z328 x7_2).f3) ((rd_T49 z328 (ji19)).f0) ((rd_T49 z328 (ji19)).f1) ((rd_T49 z328 (ji19)).f2) ((rd_T49 z328 (ji19)).f3)).bind fun t334 => (if t334 = true then (slices_CompactFunc_impl_Row.l1 k2 x0_2 x5_2 y328 (wrap64 (x7_2 + 1))) else (if 0 ≤ x5_2 then (if x5_2 < (x0_2.length : Int) then (slices_CompactFunc_impl_Row.l1 k2 (x0_2.set (x5_2 : Int).toNat (⟨(rd_T49 z328 x7_2).f0, (rd_T49 z328 x7_2).f1, (rd_T49 z328 x7_2).f2, (rd_T49 z328 x7_2).f3⟩ : S49)) (wrap64 (x5_2 + 1)) y328 (wrap64 (x7_2 + 1))) else (none)) else (none)))) else (none)) else (none)) = some r := by first | (rw [hji19] at H; exact H) | (simp only [hji19] at H ⊢; exact H)
              have hji19w : (IntKind.i64.wrap (x7_2 - 1)) = ji19 := (i64_w _).trans hji19
              by_cases c20 : 0 ≤ (ji19)
              ·rw [if_pos c20] at H
               have c20b0 := decide_eq_true c20
               clear c20
               by_cases c21 : (ji19) < (y328.length : Int)
               ·rw [if_pos c21] at H
                have c21b0 := decide_eq_true c21
                clear c21
                replace H := ob H
                obtain ⟨t334, A220, H⟩ := H
                replace H : (if t334 = true then (slices_CompactFunc_impl_Row.l1 k2 x0_2 x5_2 y328 (wrap64 (x7_2 + 1))) else (if 0 ≤ x5_2 then (if x5_2 < (x0_2.length : Int) then (slices_CompactFunc_impl_Row.l1 k2 (x0_2.set (x5_2 : Int).toNat (⟨(rd_T49 z328 x7_2).f0, (rd_T49 z328 x7_2).f1, (rd_T49 z328 x7_2).f2, (rd_T49 z328 x7_2).f3⟩ : S49)) (wrap64 (x5_2 + 1)) y328 (wrap64 (x7_2 + 1))) else (none)) else (none))) = some r := H
                have A22 := am A220
                clear A220
                by_cases c23 : t334 = true
                ·subst c23
                 have H1 : (slices_CompactFunc_impl_Row.l1 k2 x0_2 x5_2 y328 (wrap64 (x7_2 + 1))) = some r := by rw [if_pos rfl] at H; exact H
                 clear H
                 have H := H1
                 clear H1
                 have H' := am H
                 clear H
                 try go_wp2
                 have n0_ := am (Kd.R_drew HO_0.out)
                 have n1_ := am (Kept.drew HK.out)
                 have n2_ := am (below_drew1 HB.out)
                 clear HO_0
                 clear HK
                 clear HB
                 have HO_0 := n0_
                 have HK := n1_
                 have HB := n2_
                 clear n0_ n1_ n2_
                 have p332 : 0 ≤ (x7_2 : Int) := q_d
                 have q332 : x7_2 < (y328.length : Int) := q_d
                 obtain ⟨ad332, e332, hx332_0, hx332_1, hx332_2, hx332_3⟩ := at_T49 (cut_now HO_0.out KA16.out (by have h2_ := KL16.out; have h3_ := hl0_2; omega) (by have h1_ := KY16.out; have h3_ := hl0_2; omega) ZY_.out) x7_2 p332 (by rw [ZL_.out]; exact q332)
                 have hw332_3 := hx332_3
                 have hw332_2 := hx332_2
                 have hw332_1 := hx332_1
                 have hw332_0 := hx332_0
                 cases e332
                 replace p332 := eq_true p332
                 replace q332 := eq_true q332
                 have p333 : 0 ≤ ((ji19) : Int) := q_d
                 have q333 : (ji19) < (y328.length : Int) := q_d
                 obtain ⟨ad333, e333, hx333_0, hx333_1, hx333_2, hx333_3⟩ := at_T49 (cut_now HO_0.out KA16.out (by have h2_ := KL16.out; have h3_ := hl0_2; omega) (by have h1_ := KY16.out; have h3_ := hl0_2; omega) ZY_.out) (ji19) p333 (by rw [ZL_.out]; exact q333)
                 have hw333_3 := hx333_3
                 have hw333_2 := hx333_2
                 have hw333_1 := hx333_1
                 have hw333_0 := hx333_0
                 obtain rfl : ad332 = ad333 := (by injection e333)
                 replace p333 := eq_true p333
                 replace q333 := eq_true q333
                 refine start_ (n := 12) (S := fun w' => w'.cell? (ad332.add ((x7_2).toNat * 4)) = some (.string ((rd_T49 z328 x7_2).f0)) ∧ w'.cell? ⟨(ad332.add ((x7_2).toNat * 4)).block, (ad332.add ((x7_2).toNat * 4)).off + 1, none⟩ = some (.int .i64 ((rd_T49 z328 x7_2).f1)) ∧ w'.cell? ⟨(ad332.add ((x7_2).toNat * 4)).block, (ad332.add ((x7_2).toNat * 4)).off + 2, none⟩ = some (.string ((rd_T49 z328 x7_2).f2)) ∧ w'.cell? ⟨(ad332.add ((x7_2).toNat * 4)).block, (ad332.add ((x7_2).toNat * 4)).off + 3, none⟩ = some (.bool ((rd_T49 z328 x7_2).f3)) ∧ w'.cell? (ad332.add (((ji19)).toNat * 4)) = some (.string ((rd_T49 z328 (ji19)).f0)) ∧ w'.cell? ⟨(ad332.add (((ji19)).toNat * 4)).block, (ad332.add (((ji19)).toNat * 4)).off + 1, none⟩ = some (.int .i64 ((rd_T49 z328 (ji19)).f1)) ∧ w'.cell? ⟨(ad332.add (((ji19)).toNat * 4)).block, (ad332.add (((ji19)).toNat * 4)).off + 2, none⟩ = some (.string ((rd_T49 z328 (ji19)).f2)) ∧ w'.cell? ⟨(ad332.add (((ji19)).toNat * 4)).block, (ad332.add (((ji19)).toNat * 4)).off + 3, none⟩ = some (.bool ((rd_T49 z328 (ji19)).f3))) (ds := []) #[false, false, false, false, false, false, false, false, false, false, false, false] (by kernel_rfl) rfl rfl ⟨hx332_0, hx332_1, hx332_2, hx332_3, hx333_0, hx333_1, hx333_2, hx333_3⟩ (fun hHeld => ?_); refine with_tabW slices_CompactFunc_impl_Row.tab11 slices_CompactFunc_impl_Row.bits11 (fun HT_ HW_ => ?_)
                 generalize wr.drew = w24 at HO_0 HK HB hx332_0 hx332_1 hx332_2 hx332_3 hx333_0 hx333_1 hx333_2 hx333_3 hHeld ⊢
                 refine q_p 0 (some 38) #[true, false, false, false, false, false, false, false, false, false, false, false] HT_.out ?_
                 refine q_p 1 (some 39) #[true, true, false, false, false, false, false, false, false, false, false, false] HT_.out ?_
                 refine q_p 2 (some 40) #[true, true, true, false, false, false, false, false, false, false, false, false] HT_.out ?_
                 refine q_p 3 (some 41) #[true, true, true, true, false, false, false, false, false, false, false, false] HT_.out ?_
                 refine q_p 5 (some 43) #[true, true, true, true, false, true, false, false, false, false, false, false] HT_.out ?_
                 refine q_p 6 (some 44) #[true, true, true, true, false, true, true, false, false, false, false, false] HT_.out ?_
                 refine q_p 7 (some 45) #[true, true, true, true, false, true, true, true, false, false, false, false] HT_.out ?_
                 refine q_p 8 (some 46) #[true, true, true, true, false, true, true, true, true, false, false, false] HT_.out ?_
                 refine q_t 4 (some 42) #[true, true, true, true, true, true, true, true, true, false, false, false] HT_.out HW_.out hHeld ?_
                 refine q_t 9 (some 47) #[true, true, true, true, true, true, true, true, true, true, false, false] HT_.out HW_.out hHeld ?_
                 refine one_ (i := 10) (N := some 48) #[true, true, true, true, true, true, true, true, true, true, true, false] rfl rfl (one_of HT_.out (by kernel_rfl)) (by decide) (fun K hK => ?_)
                 refine print_goesR Try.func128 (by kernel_rfl) rfl #[.agg #[.string ((rd_T49 z328 x7_2).f0), .int .i64 ((rd_T49 z328 x7_2).f1), .string ((rd_T49 z328 x7_2).f2), .bool ((rd_T49 z328 x7_2).f3)], .agg #[.string ((rd_T49 z328 (ji19)).f0), .int .i64 ((rd_T49 z328 (ji19)).f1), .string ((rd_T49 z328 (ji19)).f2), .bool ((rd_T49 z328 (ji19)).f3)]] (by rfl) rfl rfl rfl (by (try simp only [List.map_toArray, List.map_cons, List.map_nil]); first | done | (simp only [hji19]; rfl) | rfl | (simp only [List.length_drop, List.length_take]; rfl)) ?_
                 with_reducible refine (impl_merged_1.calls k2 ((rd_T49 z328 x7_2).f0) ((rd_T49 z328 x7_2).f1) ((rd_T49 z328 x7_2).f2) ((rd_T49 z328 x7_2).f3) ((rd_T49 z328 (ji19)).f0) ((rd_T49 z328 (ji19)).f1) ((rd_T49 z328 (ji19)).f2) ((rd_T49 z328 (ji19)).f3) true _ A22.out).mono ?_
                 rintro e w25 ⟨rfl, hb⟩
                 have HS0_ := (hb.cell (wb (hHeld.1))).trans (hHeld.1)
                 have HS1_ := (hb.cell (wb (hHeld.2.1))).trans (hHeld.2.1)
                 have HS2_ := (hb.cell (wb (hHeld.2.2.1))).trans (hHeld.2.2.1)
                 have HS3_ := (hb.cell (wb (hHeld.2.2.2.1))).trans (hHeld.2.2.2.1)
                 have HS4_ := (hb.cell (wb (hHeld.2.2.2.2.1))).trans (hHeld.2.2.2.2.1)
                 have HS5_ := (hb.cell (wb (hHeld.2.2.2.2.2.1))).trans (hHeld.2.2.2.2.2.1)
                 have HS6_ := (hb.cell (wb (hHeld.2.2.2.2.2.2.1))).trans (hHeld.2.2.2.2.2.2.1)
                 have HS7_ := (hb.cell (wb (hHeld.2.2.2.2.2.2.2))).trans (hHeld.2.2.2.2.2.2.2)
                 refine ⟨_, rfl, ?_⟩
                 have n0_ := am (Kd.R_below (q_r (HO_0.out)) hb)
                 have n1_ := am (Kept.below (S := (fun k_ => P0_ k_)) q_k hb)
                 have n2_ := am (below_step bq hb)
                 clear HO_0
                 clear HK
                 clear HB
                 have HO_0 := n0_
                 have HK := n1_
                 have HB := n2_
                 clear n0_ n1_ n2_
                 (try clear hb)
                 (try clear hb2)
                 (try clear hk)
                 (try clear hi)
                 refine hK.out _ _ ⟨HS0_, HS1_, HS2_, HS3_, HS4_, HS5_, HS6_, HS7_⟩ (fun hHeld => ?_)
                 clear hK K
                 refine norm_ (a' := ?_) ?_ ?_
                 rotate_left
                 ·show Act.put _ (some 48) _ = _
                  simp only [Act.put, List.setIfInBounds_toArray, List.set_cons_zero, List.set_cons_succ, i64_w, i32_w]
                  rfl
                 refine q_p 11 (some 49) #[true, true, true, true, true, true, true, true, true, true, true, true] HT_.out ?_
                 refine done_ (done_of HT_.out (by kernel_rfl)) ?_
                 try go_wp2
                 (try simp only [← hl0_2])
                 go_roundg k2
                 case measure => have := HK1.out; have := HK2.out; omega
                 case rel => exact ⟨(x0_2), (x5_2), (wrap64 (x7_2 + 1)), q_i, q_i, H', ⟨by have := HK1.out; have := HK2.out; omega⟩, ⟨by (try simp only [hl0_1]); (try simp only [hl0_2]); (with_reducible repeat (first | apply Kd.R_alloc | apply Kd.R_drewN | apply Kd.R_drew)); exact HO_0.out⟩, ⟨q_k⟩, ⟨bq⟩⟩
                ·replace c23 := Bool.eq_false_iff.mpr c23
                 subst c23
                 have H1 : (if 0 ≤ x5_2 then (if x5_2 < (x0_2.length : Int) then (slices_CompactFunc_impl_Row.l1 k2 (x0_2.set (x5_2 : Int).toNat (⟨(rd_T49 z328 x7_2).f0, (rd_T49 z328 x7_2).f1, (rd_T49 z328 x7_2).f2, (rd_T49 z328 x7_2).f3⟩ : S49)) (wrap64 (x5_2 + 1)) y328 (wrap64 (x7_2 + 1))) else (none)) else (none)) = some r := by rw [if_neg (show ¬ (false = true) by decide)] at H; exact H
                 clear H
                 have H := H1
                 clear H1
                 by_cases c26 : 0 ≤ x5_2
                 ·rw [if_pos c26] at H
                  have c26b0 := decide_eq_true c26
                  clear c26
                  by_cases c27 : x5_2 < (x0_2.length : Int)
                  ·rw [if_pos c27] at H
                   have c27b0 := decide_eq_true c27
                   clear c27
                   obtain ⟨y336, hy336⟩ : ∃ y_ : List (S49), y_ = (x0_2.set (x5_2 : Int).toNat (⟨(rd_T49 z328 x7_2).f0, (rd_T49 z328 x7_2).f1, (rd_T49 z328 x7_2).f2, (rd_T49 z328 x7_2).f3⟩ : S49)) := ⟨_, rfl⟩
                   replace H : (slices_CompactFunc_impl_Row.l1 k2 y336 (wrap64 (x5_2 + 1)) y328 (wrap64 (x7_2 + 1))) = some r := q_h hy336 H
                   have Ny336 := am hy336
                   clear hy336
                   have H' := am H
                   clear H
                   try go_wp2
                   have n0_ := am (Kd.R_drew HO_0.out)
                   have n1_ := am (Kept.drew HK.out)
                   have n2_ := am (below_drew1 HB.out)
                   clear HO_0
                   clear HK
                   clear HB
                   have HO_0 := n0_
                   have HK := n1_
                   have HB := n2_
                   clear n0_ n1_ n2_
                   have p332 : 0 ≤ (x7_2 : Int) := q_d
                   have q332 : x7_2 < (y328.length : Int) := q_d
                   obtain ⟨ad332, e332, hx332_0, hx332_1, hx332_2, hx332_3⟩ := at_T49 (cut_now HO_0.out KA16.out (by have h2_ := KL16.out; have h3_ := hl0_2; omega) (by have h1_ := KY16.out; have h3_ := hl0_2; omega) ZY_.out) x7_2 p332 (by rw [ZL_.out]; exact q332)
                   have hw332_3 := hx332_3
                   have hw332_2 := hx332_2
                   have hw332_1 := hx332_1
                   have hw332_0 := hx332_0
                   cases e332
                   replace p332 := eq_true p332
                   replace q332 := eq_true q332
                   have p333 : 0 ≤ ((ji19) : Int) := q_d
                   have q333 : (ji19) < (y328.length : Int) := q_d
                   obtain ⟨ad333, e333, hx333_0, hx333_1, hx333_2, hx333_3⟩ := at_T49 (cut_now HO_0.out KA16.out (by have h2_ := KL16.out; have h3_ := hl0_2; omega) (by have h1_ := KY16.out; have h3_ := hl0_2; omega) ZY_.out) (ji19) p333 (by rw [ZL_.out]; exact q333)
                   have hw333_3 := hx333_3
                   have hw333_2 := hx333_2
                   have hw333_1 := hx333_1
                   have hw333_0 := hx333_0
                   obtain rfl : ad332 = ad333 := (by injection e333)
                   replace p333 := eq_true p333
                   replace q333 := eq_true q333
                   refine start_ (n := 12) (S := fun w' => w'.cell? (ad332.add ((x7_2).toNat * 4)) = some (.string ((rd_T49 z328 x7_2).f0)) ∧ w'.cell? ⟨(ad332.add ((x7_2).toNat * 4)).block, (ad332.add ((x7_2).toNat * 4)).off + 1, none⟩ = some (.int .i64 ((rd_T49 z328 x7_2).f1)) ∧ w'.cell? ⟨(ad332.add ((x7_2).toNat * 4)).block, (ad332.add ((x7_2).toNat * 4)).off + 2, none⟩ = some (.string ((rd_T49 z328 x7_2).f2)) ∧ w'.cell? ⟨(ad332.add ((x7_2).toNat * 4)).block, (ad332.add ((x7_2).toNat * 4)).off + 3, none⟩ = some (.bool ((rd_T49 z328 x7_2).f3)) ∧ w'.cell? (ad332.add (((ji19)).toNat * 4)) = some (.string ((rd_T49 z328 (ji19)).f0)) ∧ w'.cell? ⟨(ad332.add (((ji19)).toNat * 4)).block, (ad332.add (((ji19)).toNat * 4)).off + 1, none⟩ = some (.int .i64 ((rd_T49 z328 (ji19)).f1)) ∧ w'.cell? ⟨(ad332.add (((ji19)).toNat * 4)).block, (ad332.add (((ji19)).toNat * 4)).off + 2, none⟩ = some (.string ((rd_T49 z328 (ji19)).f2)) ∧ w'.cell? ⟨(ad332.add (((ji19)).toNat * 4)).block, (ad332.add (((ji19)).toNat * 4)).off + 3, none⟩ = some (.bool ((rd_T49 z328 (ji19)).f3))) (ds := []) #[false, false, false, false, false, false, false, false, false, false, false, false] (by kernel_rfl) rfl rfl ⟨hx332_0, hx332_1, hx332_2, hx332_3, hx333_0, hx333_1, hx333_2, hx333_3⟩ (fun hHeld => ?_); refine with_tabW slices_CompactFunc_impl_Row.tab11 slices_CompactFunc_impl_Row.bits11 (fun HT_ HW_ => ?_)
                   generalize wr.drew = w29 at HO_0 HK HB hx332_0 hx332_1 hx332_2 hx332_3 hx333_0 hx333_1 hx333_2 hx333_3 hHeld ⊢
                   refine q_p 0 (some 38) #[true, false, false, false, false, false, false, false, false, false, false, false] HT_.out ?_
                   refine q_p 1 (some 39) #[true, true, false, false, false, false, false, false, false, false, false, false] HT_.out ?_
                   refine q_p 2 (some 40) #[true, true, true, false, false, false, false, false, false, false, false, false] HT_.out ?_
                   refine q_p 3 (some 41) #[true, true, true, true, false, false, false, false, false, false, false, false] HT_.out ?_
                   refine q_p 5 (some 43) #[true, true, true, true, false, true, false, false, false, false, false, false] HT_.out ?_
                   refine q_p 6 (some 44) #[true, true, true, true, false, true, true, false, false, false, false, false] HT_.out ?_
                   refine q_p 7 (some 45) #[true, true, true, true, false, true, true, true, false, false, false, false] HT_.out ?_
                   refine q_p 8 (some 46) #[true, true, true, true, false, true, true, true, true, false, false, false] HT_.out ?_
                   refine q_t 4 (some 42) #[true, true, true, true, true, true, true, true, true, false, false, false] HT_.out HW_.out hHeld ?_
                   refine q_t 9 (some 47) #[true, true, true, true, true, true, true, true, true, true, false, false] HT_.out HW_.out hHeld ?_
                   refine one_ (i := 10) (N := some 48) #[true, true, true, true, true, true, true, true, true, true, true, false] rfl rfl (one_of HT_.out (by kernel_rfl)) (by decide) (fun K hK => ?_)
                   refine print_goesR Try.func128 (by kernel_rfl) rfl #[.agg #[.string ((rd_T49 z328 x7_2).f0), .int .i64 ((rd_T49 z328 x7_2).f1), .string ((rd_T49 z328 x7_2).f2), .bool ((rd_T49 z328 x7_2).f3)], .agg #[.string ((rd_T49 z328 (ji19)).f0), .int .i64 ((rd_T49 z328 (ji19)).f1), .string ((rd_T49 z328 (ji19)).f2), .bool ((rd_T49 z328 (ji19)).f3)]] (by rfl) rfl rfl rfl (by (try simp only [List.map_toArray, List.map_cons, List.map_nil]); first | done | (simp only [hji19]; rfl) | rfl | (simp only [List.length_drop, List.length_take]; rfl)) ?_
                   with_reducible refine (impl_merged_1.calls k2 ((rd_T49 z328 x7_2).f0) ((rd_T49 z328 x7_2).f1) ((rd_T49 z328 x7_2).f2) ((rd_T49 z328 x7_2).f3) ((rd_T49 z328 (ji19)).f0) ((rd_T49 z328 (ji19)).f1) ((rd_T49 z328 (ji19)).f2) ((rd_T49 z328 (ji19)).f3) false _ A22.out).mono ?_
                   rintro e w30 ⟨rfl, hb⟩
                   have HS0_ := (hb.cell (wb (hHeld.1))).trans (hHeld.1)
                   have HS1_ := (hb.cell (wb (hHeld.2.1))).trans (hHeld.2.1)
                   have HS2_ := (hb.cell (wb (hHeld.2.2.1))).trans (hHeld.2.2.1)
                   have HS3_ := (hb.cell (wb (hHeld.2.2.2.1))).trans (hHeld.2.2.2.1)
                   have HS4_ := (hb.cell (wb (hHeld.2.2.2.2.1))).trans (hHeld.2.2.2.2.1)
                   have HS5_ := (hb.cell (wb (hHeld.2.2.2.2.2.1))).trans (hHeld.2.2.2.2.2.1)
                   have HS6_ := (hb.cell (wb (hHeld.2.2.2.2.2.2.1))).trans (hHeld.2.2.2.2.2.2.1)
                   have HS7_ := (hb.cell (wb (hHeld.2.2.2.2.2.2.2))).trans (hHeld.2.2.2.2.2.2.2)
                   refine ⟨_, rfl, ?_⟩
                   have n0_ := am (Kd.R_below (q_r (HO_0.out)) hb)
                   have n1_ := am (Kept.below (S := (fun k_ => P0_ k_)) q_k hb)
                   have n2_ := am (below_step bq hb)
                   clear HO_0
                   clear HK
                   clear HB
                   have HO_0 := n0_
                   have HK := n1_
                   have HB := n2_
                   clear n0_ n1_ n2_
                   (try clear hb)
                   (try clear hb2)
                   (try clear hk)
                   (try clear hi)
                   refine hK.out _ _ ⟨HS0_, HS1_, HS2_, HS3_, HS4_, HS5_, HS6_, HS7_⟩ (fun hHeld => ?_)
                   clear hK K
                   refine norm_ (a' := ?_) ?_ ?_
                   rotate_left
                   ·show Act.put _ (some 48) _ = _
                    simp only [Act.put, List.setIfInBounds_toArray, List.set_cons_zero, List.set_cons_succ, i64_w, i32_w]
                    rfl
                   refine q_p 11 (some 49) #[true, true, true, true, true, true, true, true, true, true, true, true] HT_.out ?_
                   refine done_ (done_of HT_.out (by kernel_rfl)) ?_
                   have p335 : 0 ≤ (x7_2 : Int) := q_d
                   have q335 : x7_2 < (y328.length : Int) := q_d
                   obtain ⟨ad335, e335, hx335_0, hx335_1, hx335_2, hx335_3⟩ := at_T49 (cut_now HO_0.out KA16.out (by have h2_ := KL16.out; have h3_ := hl0_2; omega) (by have h1_ := KY16.out; have h3_ := hl0_2; omega) ZY_.out) x7_2 p335 (by rw [ZL_.out]; exact q335)
                   obtain rfl : ad332 = ad335 := (by injection e335)
                   replace p335 := eq_true p335
                   replace q335 := eq_true q335
                   have p28 : 0 ≤ (x5_2 : Int) := q_d
                   have q28 : (x5_2 : Int) < ((x0_2.length : Int) : Int) := q_d
                   obtain ⟨go28, co28, eo28, gb28, gl28, cl28, HG28⟩ := Kd.R_form HO_0.out (by omega)
                   (first | cases eo28 | (injection eo28 with ea_ en_ ec_; (first | subst ea_ | (injection ea_ with ea_; subst ea_)); subst ec_; clear en_))
                   have GB28 := am gb28
                   have GG28 := am HG28
                   clear gb28 gl28 HG28
                   have HMgo28 := am (show (P0_ go28 ∨ w.heap.size ≤ go28) from (HO_0.out.1 _ rfl))
                   (first | simp only [add_plain] at hx325_0 | skip)
                   (first | simp only [add_plain] at hx325_1 | skip)
                   (first | simp only [add_plain] at hx325_2 | skip)
                   (first | simp only [add_plain] at hx325_3 | skip)
                   (first | simp only [add_plain] at hx326_0 | skip)
                   (first | simp only [add_plain] at hx326_1 | skip)
                   (first | simp only [add_plain] at hx326_2 | skip)
                   (first | simp only [add_plain] at hx326_3 | skip)
                   obtain ⟨ce28, hcl28, hM28, hcc28, hfr28⟩ := Kd.R_elem HO_0.out z49 (x5_2 : Int) p28 q28
                   obtain rfl := k49_openM hM28
                   have hx28_0 : w30.cell? ⟨go28, (x5_2 : Int).toNat * 4, none⟩ = some (.string ((rd_T49 x0_2 x5_2).f0)) := hcc28 0 _ rfl
                   have hx28_1 : w30.cell? ⟨go28, (x5_2 : Int).toNat * 4 + 1, none⟩ = some (.int .i64 ((rd_T49 x0_2 x5_2).f1)) := hcc28 1 _ rfl
                   have hx28_2 : w30.cell? ⟨go28, (x5_2 : Int).toNat * 4 + 2, none⟩ = some (.string ((rd_T49 x0_2 x5_2).f2)) := hcc28 2 _ rfl
                   have hx28_3 : w30.cell? ⟨go28, (x5_2 : Int).toNat * 4 + 3, none⟩ = some (.bool ((rd_T49 x0_2 x5_2).f3)) := hcc28 3 _ rfl
                   have hf28_0 : w30.frozen? ⟨go28, (x5_2 : Int).toNat * 4, none⟩ = false := hfr28 0
                   have hf28_1 : w30.frozen? ⟨go28, (x5_2 : Int).toNat * 4 + 1, none⟩ = false := hfr28 1
                   have hf28_2 : w30.frozen? ⟨go28, (x5_2 : Int).toNat * 4 + 2, none⟩ = false := hfr28 2
                   have hf28_3 : w30.frozen? ⟨go28, (x5_2 : Int).toNat * 4 + 3, none⟩ = false := hfr28 3
                   clear hcl28 hcc28 hfr28; (try clear hM28)
                   replace p28 := eq_true p28
                   replace q28 := eq_true q28
                   have HX31 := am (show Kd.R k49 49 w30 w0.heap.size (fun k_ => (P0_ k_ ∨ w.heap.size ≤ k_)) (.slice (some ⟨go28, 0, none⟩) x0_2.length co4) x0_2 from (q_r (HO_0.out)))
                   obtain ⟨ce31, hcl31, hM31, hcc31, hfr31⟩ := Kd.R_elem HX31.out z49 (x5_2 : Int) q_d (by have h_ : (x5_2 : Int) < ((x0_2.length : Int) : Int) := q_d; first | exact h_ | (have e_ := (Kd.R_reads' HO_0.out).1; omega) | simpa using h_)
                   obtain rfl := k49_openM hM31
                   have HP31 := Kd.R_seg HX31.out (x5_2 : Int) q_d (by have h_ : (x5_2 : Int) < ((x0_2.length : Int) : Int) := q_d; first | exact h_ | (have e_ := (Kd.R_reads' HO_0.out).1; omega) | simpa using h_) (seg := [.string ((rd_T49 z328 x7_2).f0), .int .i64 ((rd_T49 z328 x7_2).f1), .string ((rd_T49 z328 x7_2).f2), .bool ((rd_T49 z328 x7_2).f3)]) (j := 0) hcl31 hcc31 (show 4 ≤ 4 from by decide) (x' := (⟨(rd_T49 z328 x7_2).f0, (rd_T49 z328 x7_2).f1, (rd_T49 z328 x7_2).f2, (rd_T49 z328 x7_2).f3⟩ : S49)) (k49_mkM _ _ _ (⟨(rd_T49 z328 x7_2).f0, (rd_T49 z328 x7_2).f1, (rd_T49 z328 x7_2).f2, (rd_T49 z328 x7_2).f3⟩ : S49) ) (fun _ hk => hk)
                   have hx31_0 := hcc31 0 _ rfl
                   (try simp only [show (k49).sz = 4 from rfl, Nat.mul_one, Nat.add_zero] at hx31_0)
                   have hf31_0 := hfr31 0
                   (try simp only [show (k49).sz = 4 from rfl, Nat.mul_one, Nat.add_zero] at hf31_0)
                   have hx31_1 := hcc31 1 _ rfl
                   (try simp only [show (k49).sz = 4 from rfl, Nat.mul_one, Nat.add_zero] at hx31_1)
                   have hf31_1 := hfr31 1
                   (try simp only [show (k49).sz = 4 from rfl, Nat.mul_one, Nat.add_zero] at hf31_1)
                   have hx31_2 := hcc31 2 _ rfl
                   (try simp only [show (k49).sz = 4 from rfl, Nat.mul_one, Nat.add_zero] at hx31_2)
                   have hf31_2 := hfr31 2
                   (try simp only [show (k49).sz = 4 from rfl, Nat.mul_one, Nat.add_zero] at hf31_2)
                   have hx31_3 := hcc31 3 _ rfl
                   (try simp only [show (k49).sz = 4 from rfl, Nat.mul_one, Nat.add_zero] at hx31_3)
                   have hf31_3 := hfr31 3
                   (try simp only [show (k49).sz = 4 from rfl, Nat.mul_one, Nat.add_zero] at hf31_3)
                   clear hcl31 hcc31 hfr31; (try clear hM31)
                   try go_wp2_with (first | ((with_reducible refine gate_store (t := 49) (p := 56) rfl ?_); refine store_event (t := 49) (p := 56) (v := ?vo_w32) (w1 := ((((w30.setCell ⟨go28, (x5_2 : Int).toNat * 4, none⟩ (.string ((rd_T49 z328 x7_2).f0))).setCell ⟨go28, (x5_2 : Int).toNat * 4 + 1, none⟩ (.int .i64 ((rd_T49 z328 x7_2).f1))).setCell ⟨go28, (x5_2 : Int).toNat * 4 + 2, none⟩ (.string ((rd_T49 z328 x7_2).f2))).setCell ⟨go28, (x5_2 : Int).toNat * 4 + 3, none⟩ (.bool ((rd_T49 z328 x7_2).f3)))) ?hg ?ho ?hn ?hr ?_; (case ho => rfl); (case hg => rfl); (case hn => rfl); (case hr => first | (go_simp; done) | (go_simp; rfl)); intro w32 hw; have hg : w30.grownBy w32 (some go28) := (by rw [hw]; exact HP31.2); have hp_ : Kd.R k49 49 w32 w0.heap.size (fun k_ => (P0_ k_ ∨ w.heap.size ≤ k_)) (.slice (some ⟨go28, 0, none⟩) x0_2.length co4) y336 := (by rw [hw, Ny336.out]; exact HP31.1); clear HP31; have n0_ := am (hp_); have n1_ := am ((by rw [hw]; exact below_set (below_set (below_set (below_set (HB.out) GB28.out) GB28.out) GB28.out) GB28.out : Below w0.heap.size w0 w32)); have n2_ := am (Kept.of_grown (S := (fun k_ => P0_ k_)) hg q_k (fun k_ e_ => (HO_0.out.1 k_ e_))); revert n0_ n1_ n2_; clear HO_0 HB HK; intro HO_0 HB HK; clear hg hw hp_))
                   rw [show (⟨go28, (x5_1).toNat * 4, none⟩ : Addr) = (⟨go28, 0, none⟩ : Addr).add ((x5_1).toNat * 4) from by rw [Addr.add_lit, Nat.zero_add]]
                   rw [show (⟨go28, (ji7).toNat * 4, none⟩ : Addr) = (⟨go28, 0, none⟩ : Addr).add ((ji7).toNat * 4) from by rw [Addr.add_lit, Nat.zero_add]]
                   (try simp only [← hl0_2])
                   go_roundg k2
                   case measure => have := HK1.out; have := HK2.out; omega
                   case rel => exact ⟨(y336), (wrap64 (x5_2 + 1)), (wrap64 (x7_2 + 1)), q_i, q_i, H', ⟨by have := HK1.out; have := HK2.out; omega⟩, ⟨by (try simp only [hl0_1]); (try simp only [hl0_2]); (with_reducible repeat (first | apply Kd.R_alloc | apply Kd.R_drewN | apply Kd.R_drew)); exact HO_0.out⟩, ⟨q_k⟩, ⟨bq⟩⟩
                  ·rw [if_neg c27] at H
                   exact absurd H (by simp)
                 ·rw [if_neg c26] at H
                  exact absurd H (by simp)
               ·rw [if_neg c21] at H
                exact absurd H (by simp)
              ·rw [if_neg c20] at H
               exact absurd H (by simp)
             ·rw [if_neg c18] at H
              exact absurd H (by simp)
            ·rw [if_neg c17] at H
             have c17b0 := decide_eq_false c17
             clear c17
             have cq_ : x5_2 < (x0_2.length : Int) := by
              by_cases h_ : x5_2 < (x0_2.length : Int)
              ·exact h_
              ·rw [if_neg h_] at H
               exact absurd H (by simp)
             rw [if_pos cq_] at H
             have CQ_ := am cq_
             clear cq_
             by_cases c33 : 0 ≤ x5_2
             ·rw [if_pos c33] at H
              have c33b0 := eq_true c33
              have c33b1 := decide_eq_true c33
              clear c33
              by_cases c34 : x5_2 ≤ (x0_2.length : Int)
              ·rw [if_pos c34] at H
               have c34b0 := eq_true c34
               have c34b1 := decide_eq_true c34
               clear c34
               obtain ⟨y337, hy337⟩ : ∃ y_ : List (S49), y_ = (x0_2.drop (x5_2 : Int).toNat) := ⟨_, rfl⟩
               replace H : (some (x0_2.take (x5_2 : Int).toNat)) = some r := q_h hy337 H
               have Ny337 := am hy337
               clear hy337
               have c35b0 := eq_true (q_d : x5_2 ≤ (x0_2.length : Int))
               obtain ⟨y341, hy341⟩ : ∃ y_ : List (S49), y_ = (x0_2.take (x5_2 : Int).toNat) := ⟨_, rfl⟩
               replace H : (some y341) = some r := q_h hy341 H
               have Ny341 := am hy341
               clear hy341
               obtain rfl := Option.some.inj H
               have q36 : (x5_2 : Int) ≤ ((x0_2.length : Int) : Int) := q_d
               obtain ⟨i036, hi036, _, hsz36, _⟩ := info_parts info49
               have hroom36 : x0_2.length ≤ co4 := (Kd.R_reads' HO_0.out).2.1
               have hC36 : Kd.C k49 _ (some ad325) x0_2.length x0_2 := (Kd.R_reads' HO_0.out).2.2
               have q036 : (0 : Int) ≤ (x5_2 : Int) := q_d
               have hcut36 := cut_from (P := Try.prog) 25 49 .i64 Try.underlying25 hi036 4 hsz36 (some ad325) x0_2.length co4 x5_2 q036 q36
               have hr36 := Kd.C_drop (m := (x5_2 : Int).toNat) (c := co4) hC36 (by omega) hroom36
               obtain ⟨A36, hA36⟩ : ∃ A1, A1 = (if co4 = (x5_2 : Int).toNat then (some ad325) else ((some ad325) : Option Addr).map (·.add ((x5_2 : Int).toNat * 4))) := ⟨_, rfl⟩
               obtain ⟨c36, hc36⟩ : ∃ c1, c1 = co4 - (x5_2 : Int).toNat := ⟨_, rfl⟩
               have hy36 : y337.length = x0_2.length - (x5_2 : Int).toNat := (by rw [Ny337.out, List.length_drop] <;> omega)
               rw [show (x0_2).drop (x5_2 : Int).toNat = y337 from Ny337.out.symm] at hr36
               replace hr36 : Kd.C k49 _ A36 y337.length y337 := (by rw [hA36]; exact hr36)
               rw [← hy36, ← hA36, ← hc36] at hcut36
               have HR340 := am hr36
               have HC340 := am (show y337.length ≤ c36 from by rw [hy36, hc36]; exact Nat.sub_le_sub_right hroom36 _)
               clear hr36 hC36 hroom36 hi036 hsz36 hc36
               have KY36 := am hy36
               have KA36 := am hA36
               clear hy36 hA36
               have KL36 := am (show (x5_2 : Int).toNat ≤ x0_2.length from by omega)
               replace q36 := eq_true q36
               have q37 : (x5_2 : Int) ≤ ((x0_2.length : Int) : Int) := q_d
               obtain ⟨i037, hi037, _, hsz37, _⟩ := info_parts info49
               have hcut37 := cut_to (P := Try.prog) 25 49 .i64 Try.underlying25 hi037 (some ad325) x0_2.length co4 x5_2 q_d q37 (Kd.R_reads' HO_0.out).2.1
               have hy37 : y341.length = (x5_2 : Int).toNat := (by rw [Ny341.out, List.length_take]; omega)
               rw [← hy37] at hcut37
               have KW_ := am hy37
               clear hy37 hi037 hsz37
               replace q37 := eq_true q37
               have c0q_ := am (decide_eq_true (show (0 : Int) ≤ x5_2 from q_d))
               go_wp2_with (first | ((with_reducible refine gate_builtin (b := .clear) (xs := #[.tmp 61]) rfl ?_); refine clear_eventM (kd := k49) (fun {w_ w1_ b_ o_ x_ c_} hM_ => by { obtain rfl := k49_openM hM_; exact k49_mkM _ _ _ x_ }) rfl (.tmp 61) 25 49 (.agg #[.string ⟨#[]⟩, .int .i64 0, .string ⟨#[]⟩, .bool false]) rfl Try.underlying25 (fun w_ => by kernel_rfl) rfl (by decide) (q_r (HO_0.out)) (by first | rfl | exact hl0_2 | omega) (k := x5_2) (of_decide_eq_true c0q_.out) CQ_.out KA36.out (KY36.out.trans (by first | rfl | omega)) rfl ?_; intro wc_ hc_ hgc_; have n0_ := am (show Kd.R k49 49 wc_ w0.heap.size _ (.slice _ y341.length _) y341 from (by rw [show y341 = _ from Ny341.out, show List.length (List.take _ _) = (x5_2 : Int).toNat from (by rw [← show y341 = _ from Ny341.out]; exact KW_.out)]; exact hc_)); have n1_ := am (show Below w0.heap.size w0 wc_ from Below.grown (B := w0.heap.size) (a := w0) bq hgc_ (below_size bq) (fun k_ hk_ => Kd.R_base HO_0.out k_ hk_)); have n2_ := am (show Kept w wc_ (fun k_ => P0_ k_) from Kept.of_grown (S := (fun k_ => P0_ k_)) hgc_ q_k (fun k_ e_ => (HO_0.out.1 k_ e_))); clear HO_0 HB HK; have HO343 := n0_; have HB := n1_; have HK := n2_; clear n0_ n1_ n2_ hc_ hgc_))
               repeat (go_quiet (first | ((with_reducible refine gate_builtin (b := .clear) (xs := #[.tmp 61]) rfl ?_); refine clear_eventM (kd := k49) (fun {w_ w1_ b_ o_ x_ c_} hM_ => by { obtain rfl := k49_openM hM_; exact k49_mkM _ _ _ x_ }) rfl (.tmp 61) 25 49 (.agg #[.string ⟨#[]⟩, .int .i64 0, .string ⟨#[]⟩, .bool false]) rfl Try.underlying25 (fun w_ => by kernel_rfl) rfl (by decide) (q_r (HO_0.out)) (by first | rfl | exact hl0_2 | omega) (k := x5_2) (of_decide_eq_true c0q_.out) CQ_.out KA36.out (KY36.out.trans (by first | rfl | omega)) rfl ?_; intro wc_ hc_ hgc_; have n0_ := am (show Kd.R k49 49 wc_ w0.heap.size _ (.slice _ y341.length _) y341 from (by rw [show y341 = _ from Ny341.out, show List.length (List.take _ _) = (x5_2 : Int).toNat from (by rw [← show y341 = _ from Ny341.out]; exact KW_.out)]; exact hc_)); have n1_ := am (show Below w0.heap.size w0 wc_ from Below.grown (B := w0.heap.size) (a := w0) bq hgc_ (below_size bq) (fun k_ hk_ => Kd.R_base HO_0.out k_ hk_)); have n2_ := am (show Kept w wc_ (fun k_ => P0_ k_) from Kept.of_grown (S := (fun k_ => P0_ k_)) hgc_ q_k (fun k_ e_ => (HO_0.out.1 k_ e_))); clear HO_0 HB HK; have HO343 := n0_; have HB := n1_; have HK := n2_; clear n0_ n1_ n2_ hc_ hgc_)); try go_wp2_with (first | ((with_reducible refine gate_builtin (b := .clear) (xs := #[.tmp 61]) rfl ?_); refine clear_eventM (kd := k49) (fun {w_ w1_ b_ o_ x_ c_} hM_ => by { obtain rfl := k49_openM hM_; exact k49_mkM _ _ _ x_ }) rfl (.tmp 61) 25 49 (.agg #[.string ⟨#[]⟩, .int .i64 0, .string ⟨#[]⟩, .bool false]) rfl Try.underlying25 (fun w_ => by kernel_rfl) rfl (by decide) (q_r (HO_0.out)) (by first | rfl | exact hl0_2 | omega) (k := x5_2) (of_decide_eq_true c0q_.out) CQ_.out KA36.out (KY36.out.trans (by first | rfl | omega)) rfl ?_; intro wc_ hc_ hgc_; have n0_ := am (show Kd.R k49 49 wc_ w0.heap.size _ (.slice _ y341.length _) y341 from (by rw [show y341 = _ from Ny341.out, show List.length (List.take _ _) = (x5_2 : Int).toNat from (by rw [← show y341 = _ from Ny341.out]; exact KW_.out)]; exact hc_)); have n1_ := am (show Below w0.heap.size w0 wc_ from Below.grown (B := w0.heap.size) (a := w0) bq hgc_ (below_size bq) (fun k_ hk_ => Kd.R_base HO_0.out k_ hk_)); have n2_ := am (show Kept w wc_ (fun k_ => P0_ k_) from Kept.of_grown (S := (fun k_ => P0_ k_)) hgc_ q_k (fun k_ e_ => (HO_0.out.1 k_ e_))); clear HO_0 HB HK; have HO343 := n0_; have HB := n1_; have HK := n2_; clear n0_ n1_ n2_ hc_ hgc_)))
               go_ret
               exact ⟨_, by first | rfl | (simp [errW_none, errW_some] <;> rfl) | (simp only [← hji7]; first | rfl | (simp [errW_none, errW_some] <;> rfl)) | (simp [*, errW_none, errW_some] <;> rfl), q_r (HO343.out), bq, q_k⟩
              ·rw [if_neg c34] at H
               exact absurd H (by simp)
             ·rw [if_neg c33] at H
              exact absurd H (by simp)
         ·rw [if_neg c13] at H
          exact absurd H (by simp)
        ·replace c11 := Bool.eq_false_iff.mpr c11
         subst c11
         have H1 : (slices_CompactFunc_impl_Row.l0 k1 x0_1 (wrap64 (x5_1 + 1))) = some r := by rw [if_neg (show ¬ (false = true) by decide)] at H; exact H
         clear H
         have H := H1
         clear H1
         have H' := am H
         clear H
         try go_wp2
         have n0_ := am (Kd.R_drew HO_0.out)
         have n1_ := am (Kept.drew HK.out)
         have n2_ := am (below_drew1 HB.out)
         clear HO_0
         clear HK
         clear HB
         have HO_0 := n0_
         have HK := n1_
         have HB := n2_
         clear n0_ n1_ n2_
         have p325 : 0 ≤ (x5_1 : Int) := q_d
         have q325 : x5_1 < (x0_1.length : Int) := q_d
         obtain ⟨ad325, e325, hx325_0, hx325_1, hx325_2, hx325_3⟩ := at_T49 (Kd.R_reads' HO_0.out).2.2 x5_1 p325 q325
         cases e325
         replace p325 := eq_true p325
         replace q325 := eq_true q325
         have p326 : 0 ≤ ((ji7) : Int) := q_d
         have q326 : (ji7) < (x0_1.length : Int) := q_d
         obtain ⟨ad326, e326, hx326_0, hx326_1, hx326_2, hx326_3⟩ := at_T49 (Kd.R_reads' HO_0.out).2.2 (ji7) p326 q326
         obtain rfl : ad325 = ad326 := (by injection e326)
         replace p326 := eq_true p326
         replace q326 := eq_true q326
         refine start_ (n := 11) (S := fun w' => w'.cell? (ad325.add ((x5_1).toNat * 4)) = some (.string ((rd_T49 x0_1 x5_1).f0)) ∧ w'.cell? ⟨(ad325.add ((x5_1).toNat * 4)).block, (ad325.add ((x5_1).toNat * 4)).off + 1, none⟩ = some (.int .i64 ((rd_T49 x0_1 x5_1).f1)) ∧ w'.cell? ⟨(ad325.add ((x5_1).toNat * 4)).block, (ad325.add ((x5_1).toNat * 4)).off + 2, none⟩ = some (.string ((rd_T49 x0_1 x5_1).f2)) ∧ w'.cell? ⟨(ad325.add ((x5_1).toNat * 4)).block, (ad325.add ((x5_1).toNat * 4)).off + 3, none⟩ = some (.bool ((rd_T49 x0_1 x5_1).f3)) ∧ w'.cell? (ad325.add (((ji7)).toNat * 4)) = some (.string ((rd_T49 x0_1 (ji7)).f0)) ∧ w'.cell? ⟨(ad325.add (((ji7)).toNat * 4)).block, (ad325.add (((ji7)).toNat * 4)).off + 1, none⟩ = some (.int .i64 ((rd_T49 x0_1 (ji7)).f1)) ∧ w'.cell? ⟨(ad325.add (((ji7)).toNat * 4)).block, (ad325.add (((ji7)).toNat * 4)).off + 2, none⟩ = some (.string ((rd_T49 x0_1 (ji7)).f2)) ∧ w'.cell? ⟨(ad325.add (((ji7)).toNat * 4)).block, (ad325.add (((ji7)).toNat * 4)).off + 3, none⟩ = some (.bool ((rd_T49 x0_1 (ji7)).f3))) (ds := []) #[false, false, false, false, false, false, false, false, false, false, false] (by kernel_rfl) rfl rfl ⟨hx325_0, hx325_1, hx325_2, hx325_3, hx326_0, hx326_1, hx326_2, hx326_3⟩ (fun hHeld => ?_); refine with_tabW slices_CompactFunc_impl_Row.tab6 slices_CompactFunc_impl_Row.bits6 (fun HT_ HW_ => ?_)
         generalize wr.drew = w38 at HO_0 HK HB hx325_0 hx325_1 hx325_2 hx325_3 hx326_0 hx326_1 hx326_2 hx326_3 hHeld ⊢
         refine q_p 0 (some 18) #[true, false, false, false, false, false, false, false, false, false, false] HT_.out ?_
         refine q_p 1 (some 19) #[true, true, false, false, false, false, false, false, false, false, false] HT_.out ?_
         refine q_p 2 (some 20) #[true, true, true, false, false, false, false, false, false, false, false] HT_.out ?_
         refine q_p 3 (some 21) #[true, true, true, true, false, false, false, false, false, false, false] HT_.out ?_
         refine q_p 5 (some 23) #[true, true, true, true, false, true, false, false, false, false, false] HT_.out ?_
         refine q_p 6 (some 24) #[true, true, true, true, false, true, true, false, false, false, false] HT_.out ?_
         refine q_p 7 (some 25) #[true, true, true, true, false, true, true, true, false, false, false] HT_.out ?_
         refine q_p 8 (some 26) #[true, true, true, true, false, true, true, true, true, false, false] HT_.out ?_
         refine q_t 4 (some 22) #[true, true, true, true, true, true, true, true, true, false, false] HT_.out HW_.out hHeld ?_
         refine q_t 9 (some 27) #[true, true, true, true, true, true, true, true, true, true, false] HT_.out HW_.out hHeld ?_
         refine one_ (i := 10) (N := some 28) #[true, true, true, true, true, true, true, true, true, true, true] rfl rfl (one_of HT_.out (by kernel_rfl)) (by decide) (fun K hK => ?_)
         refine print_goesR Try.func128 (by kernel_rfl) rfl #[.agg #[.string ((rd_T49 x0_1 x5_1).f0), .int .i64 ((rd_T49 x0_1 x5_1).f1), .string ((rd_T49 x0_1 x5_1).f2), .bool ((rd_T49 x0_1 x5_1).f3)], .agg #[.string ((rd_T49 x0_1 (ji7)).f0), .int .i64 ((rd_T49 x0_1 (ji7)).f1), .string ((rd_T49 x0_1 (ji7)).f2), .bool ((rd_T49 x0_1 (ji7)).f3)]] (by rfl) rfl rfl rfl (by (try simp only [List.map_toArray, List.map_cons, List.map_nil]); first | done | (simp only [hji7]; rfl) | rfl | (simp only [List.length_drop, List.length_take]; rfl)) ?_
         with_reducible refine (impl_merged_1.calls k1 ((rd_T49 x0_1 x5_1).f0) ((rd_T49 x0_1 x5_1).f1) ((rd_T49 x0_1 x5_1).f2) ((rd_T49 x0_1 x5_1).f3) ((rd_T49 x0_1 (ji7)).f0) ((rd_T49 x0_1 (ji7)).f1) ((rd_T49 x0_1 (ji7)).f2) ((rd_T49 x0_1 (ji7)).f3) false _ A10.out).mono ?_
         rintro e w39 ⟨rfl, hb⟩
         have HS0_ := (hb.cell (wb (hHeld.1))).trans (hHeld.1)
         have HS1_ := (hb.cell (wb (hHeld.2.1))).trans (hHeld.2.1)
         have HS2_ := (hb.cell (wb (hHeld.2.2.1))).trans (hHeld.2.2.1)
         have HS3_ := (hb.cell (wb (hHeld.2.2.2.1))).trans (hHeld.2.2.2.1)
         have HS4_ := (hb.cell (wb (hHeld.2.2.2.2.1))).trans (hHeld.2.2.2.2.1)
         have HS5_ := (hb.cell (wb (hHeld.2.2.2.2.2.1))).trans (hHeld.2.2.2.2.2.1)
         have HS6_ := (hb.cell (wb (hHeld.2.2.2.2.2.2.1))).trans (hHeld.2.2.2.2.2.2.1)
         have HS7_ := (hb.cell (wb (hHeld.2.2.2.2.2.2.2))).trans (hHeld.2.2.2.2.2.2.2)
         refine ⟨_, rfl, ?_⟩
         have n0_ := am (Kd.R_below (q_r (HO_0.out)) hb)
         have n1_ := am (Kept.below (S := (fun k_ => P0_ k_)) q_k hb)
         have n2_ := am (below_step bq hb)
         clear HO_0
         clear HK
         clear HB
         have HO_0 := n0_
         have HK := n1_
         have HB := n2_
         clear n0_ n1_ n2_
         (try clear hb)
         (try clear hb2)
         (try clear hk)
         (try clear hi)
         refine hK.out _ _ ⟨HS0_, HS1_, HS2_, HS3_, HS4_, HS5_, HS6_, HS7_⟩ (fun hHeld => ?_)
         clear hK K
         refine norm_ (a' := ?_) ?_ ?_
         rotate_left
         ·show Act.put _ (some 28) _ = _
          simp only [Act.put, List.setIfInBounds_toArray, List.set_cons_zero, List.set_cons_succ, i64_w, i32_w]
          rfl
         refine done_ (done_of HT_.out (by kernel_rfl)) ?_
         try go_wp2
         (try simp only [← hl0_1])
         go_roundg k1
         case measure => have := HK1.out; omega
         case rel => exact ⟨(x0_1), (wrap64 (x5_1 + 1)), q_i, H', ⟨by have := HK1.out; omega⟩, ⟨by (try simp only [hl0_1]); (with_reducible repeat (first | apply Kd.R_alloc | apply Kd.R_drewN | apply Kd.R_drew)); exact HO_0.out⟩, ⟨q_k⟩, ⟨bq⟩⟩
       ·rw [if_neg c9] at H
        exact absurd H (by simp)
      ·rw [if_neg c8] at H
       exact absurd H (by simp)
     ·rw [if_neg c6] at H
      exact absurd H (by simp)
    ·rw [if_neg c5] at H
     have c5b0 := decide_eq_false c5
     clear c5
     obtain rfl := Option.some.inj H
     go_wp2
     go_ret
     exact ⟨_, q_e, q_r (HO_0.out), bq, q_k⟩

end Go.Proofs.Ytdhlcnlcpjlliaa.PFnTables
