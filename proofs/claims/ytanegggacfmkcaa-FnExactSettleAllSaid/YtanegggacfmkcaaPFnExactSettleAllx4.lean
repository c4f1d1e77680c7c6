/- Functions that a law reaches, as plain Lean functions, with the proof that the machine comes to their answers. No conditions. -/
import Derived.Test.YtanegggacfmkcaaPFnExactSettleAllx0
import Derived.Test.YtanegggacfmkcaaPFnExactSettleAllx1
import Derived.Test.YtanegggacfmkcaaPFnExactSettleAllx3
namespace Go.Proofs.Ytanegggacfmkcaa.PFnExactSettleAll
open Go.RowKit Go.Proofs.YtanegggacfmkcaaW.PrintWords Go.Proofs.YtanegggacfmkcaaW.PrintLast Go.Proofs.YtanegggacfmkcaaW.PrintMore
attribute [local go_sem] max2_int min2_int max_two min_two max_three min_three max_four min_four   -- for this text's walks alone
set_option linter.unusedVariables false
set_option linter.unusedSimpArgs false
set_option maxHeartbeats 8000000
set_option maxRecDepth 100000

/-! ### impl_ContractFault: function 93 -/
@[reducible] def CL_117.p (y0_ : Int) (y1_ : Int) (y2_ : Int) (y3_ : Int) : FN_slices_IndexFunc_impl_Leg := ⟨fun x0_ x1_ x2_ x3_ => some (impl_samePlace.f x0_ x1_ x2_ x3_ y0_ y1_ y2_ y3_ == some true)⟩
def CL_117.f (k : Nat) (l0 : List (S86)) (y0_ : Int) (y1_ : Int) (y2_ : Int) (y3_ : Int) : Option Bool := @slices_ContainsFunc_impl_Leg.f (CL_117.p y0_ y1_ y2_ y3_) k l0
theorem CL_117.closure (x0_ : Int) (x1_ : Int) (x2_ : Int) (x3_ : Int) (y0_ : Int) (y1_ : Int) (y2_ : Int) (y3_ : Int) (g0 : Nat) (W : World) (hg0 : W.heap[g0]? = some (.cells #[.int .i64 y0_, .int .i64 y1_, .int .i64 y2_, .int .i64 y3_] 86 (0, 0))) :
  Calls Try.prog 117 #[.agg #[.int .i64 x0_, .int .i64 x1_, .int .i64 x2_, .int .i64 x3_], .pointer (some ⟨g0, 0, none⟩)] W fun e w' => e = .returned (.bool (impl_samePlace.f x0_ x1_ x2_ x3_ y0_ y1_ y2_ y3_ == some true)) ∧ Below W.heap.size W w' := by
 have hu86 := Try.underlying86
 have HB := am (Below.refl W.heap.size W)
 have BK := am hg0
 clear hg0
 obtain ⟨r_, hr_⟩ : ∃ r_, impl_samePlace.f x0_ x1_ x2_ x3_ y0_ y1_ y2_ y3_ = some r_ := by
  unfold impl_samePlace.f
  by_cases e1 : x0_ = y0_
  ·rw [if_pos e1]
   by_cases e2 : x1_ = y1_
   ·rw [if_pos e2]; exact ⟨_, rfl⟩
   ·rw [if_neg e2]; exact ⟨_, rfl⟩
  ·rw [if_neg e1]; exact ⟨_, rfl⟩
 have hans : (impl_samePlace.f x0_ x1_ x2_ x3_ y0_ y1_ y2_ y3_ == some true) = r_ := by rw [hr_]; cases r_ <;> rfl
 rw [hans]
 have AR := am hr_
 clear hans hr_
 go_enter Try.func117, Try.ntmps117
 go_wp2_with (first | ((with_reducible refine gate_dst (N := 2) rfl ?_); refine q_box (N := 2) (cs := #[.int .i64 x0_, .int .i64 x1_, .int .i64 x2_, .int .i64 x3_]) (t := 86) ?_; intro gb_ hg_ w3 hbox hb; have n0_ := am (blk_below (g := g0) (o := .cells #[.int .i64 y0_, .int .i64 y1_, .int .i64 y2_, .int .i64 y3_] 86 (0, 0)) (q_b BK.out) hb); have n1_ := am (below_step bq hb); have n2_ := am hbox; revert n0_ n1_ n2_; clear BK HB; intro BK HB BN; clear hb hbox hg_; have hcx0 : w3.cell? ⟨gb_, 0, none⟩ = some (.int .i64 x0_) := (blk_cell BN.out 0).trans rfl; have hcx1 : w3.cell? ⟨gb_, 1, none⟩ = some (.int .i64 x1_) := (blk_cell BN.out 1).trans rfl; have hcx2 : w3.cell? ⟨gb_, 2, none⟩ = some (.int .i64 x2_) := (blk_cell BN.out 2).trans rfl; have hcx3 : w3.cell? ⟨gb_, 3, none⟩ = some (.int .i64 x3_) := (blk_cell BN.out 3).trans rfl; have hcy0 : w3.cell? ⟨g0, 0, none⟩ = some (.int .i64 y0_) := (blk_cell BK.out 0).trans rfl; have hcy1 : w3.cell? ⟨g0, 1, none⟩ = some (.int .i64 y1_) := (blk_cell BK.out 1).trans rfl; have hcy2 : w3.cell? ⟨g0, 2, none⟩ = some (.int .i64 y2_) := (blk_cell BK.out 2).trans rfl; have hcy3 : w3.cell? ⟨g0, 3, none⟩ = some (.int .i64 y3_) := (blk_cell BK.out 3).trans rfl; have hfx0 := blk_frozen BN.out 0; have hfx1 := blk_frozen BN.out 1; have hfx2 := blk_frozen BN.out 2; have hfx3 := blk_frozen BN.out 3; have hfy0 := blk_frozen BK.out 0; have hfy1 := blk_frozen BK.out 1; have hfy2 := blk_frozen BK.out 2; have hfy3 := blk_frozen BK.out 3) | ((with_reducible refine gate_callee (f := 118) rfl ?_); refine goesL_ (some 6) rfl rfl Try.func118 (by kernel_rfl) rfl #[.agg #[.int .i64 x0_, .int .i64 x1_, .int .i64 x2_, .int .i64 x3_], .agg #[.int .i64 y0_, .int .i64 y1_, .int .i64 y2_, .int .i64 y3_]] rfl (by (try simp only [List.map_toArray, List.map_cons, List.map_nil]); first | done | rfl) ?_; (with_reducible refine (impl_samePlace.calls x0_ x1_ x2_ x3_ y0_ y1_ y2_ y3_ r_ _ AR.out).mono ?_); rintro e w5 ⟨rfl, hb⟩; refine ⟨_, rfl, ?_⟩; have n1_ := am (below_step bq hb); clear HB; have HB := n1_; clear n1_ hb))
 go_ret
 exact ⟨by first | rfl | (simp; done), bq⟩

theorem CL_117.calls (k : Nat) (A0 : Option Addr) (c0 : Nat) (l0 : List (S86)) (y0_ : Int) (y1_ : Int) (y2_ : Int) (y3_ : Int) (r : Bool) (w : World) (hr0 : Kd.C k86 w A0 l0.length l0) (hc0 : l0.length ≤ c0) (h : CL_117.f k l0 y0_ y1_ y2_ y3_ = some r) (g0 : Nat) (hg0 : w.heap[g0]? = some (.cells #[.int .i64 y0_, .int .i64 y1_, .int .i64 y2_, .int .i64 y3_] 86 (0, 0))) :
  Calls Try.prog 99 #[.slice A0 l0.length c0, .func (.func 117) #[] #[.pointer (some ⟨g0, 0, none⟩)]] w fun e w' => e = .returned (.bool r) ∧ Below w.heap.size w w' :=
 @slices_ContainsFunc_impl_Leg.calls (CL_117.p y0_ y1_ y2_ y3_) k A0 c0 l0 r w hr0 hc0 h 117 Try.f117 #[.pointer (some ⟨g0, 0, none⟩)] Try.func117 (by kernel_rfl) rfl (fun x0_ x1_ x2_ x3_ r W hf hb => by
  have hf2 := Option.some.inj hf
  subst hf2
  exact CL_117.closure x0_ x1_ x2_ x3_ y0_ y1_ y2_ y3_ g0 W (blk_below hg0 hb))
/-! ### a map from numbers to numbers that the call makes, as a function (0 where there is none) -/
theorem map_below {H : Type} {P : Program} {k : TypeId} {R : Value → Option (DataW H × List MemPlace)} {w w' : World} {b n : Nat} {D : DataW H} (h : w.ownsMap P k R b n D) (hb : Below w.heap.size w w') : w'.ownsMap P k R b n D := by
 have hlt := h.lt
 obtain ⟨es, clock, he, F, hs, hD⟩ := h
 exact ⟨es, clock, (hb.block b hlt).trans he, F, hs, hD⟩
theorem map_alloc {H : Type} {P : Program} {k : TypeId} {R : Value → Option (DataW H × List MemPlace)} {w : World} {b n : Nat} {D : DataW H} (h : w.ownsMap P k R b n D) (o : Obj) : (w.alloc o).ownsMap P k R b n D := h.alloc o
theorem map_drew {H : Type} {P : Program} {k : TypeId} {R : Value → Option (DataW H × List MemPlace)} {w : World} {b n : Nat} {D : DataW H} (h : w.ownsMap P k R b n D) : w.drew.ownsMap P k R b n D := h
theorem map_drewN {H : Type} {P : Program} {k : TypeId} {R : Value → Option (DataW H × List MemPlace)} {w : World} {b n : Nat} {D : DataW H} (h : w.ownsMap P k R b n D) (m : Nat) : (w.drewN m).ownsMap P k R b n D := h
theorem map_far {H : Type} {P : Program} {k : TypeId} {R : Value → Option (DataW H × List MemPlace)} {w : World} {b n : Nat} {D : DataW H} (h : w.ownsMap P k R b n D) {p : Addr} (hp : p.block ≠ b) (u : Value) : (w.setCell p u).ownsMap P k R b n D := by
 obtain ⟨es, clock, he, F, hs, hD⟩ := h
 exact ⟨es, clock, (Below.heap_setCell w p u b (Ne.symm hp)).trans he, F, hs, hD⟩
theorem makeMap_event {H : Type} {P : Program} {ops : Array Oper} {rest : List Oper} {o : Oper} {a : Act} {Q : Exit → Act → World → Prop} {W : World} (hg : o.guard = none) {N : Tmp} (_hd : o.dst = some N) {t : TypeId} (ho : o.op = .makeMap t none) (k : TypeId) (R : Value → Option (DataW H × List MemPlace))
  (h : ∀ g, g = W.heap.size → ∀ w1, w1.ownsMap P k R g 0 (.map []) → Below W.heap.size W w1 → wpList P ops Q rest (a.put o.dst (.map (some g))) w1) : wpList P ops Q (o :: rest) a W := by
 have hrun : (execOp a.eval o).run P W = .ok (.value (.map (some W.heap.size))) (W.alloc (.map #[] 0)) := by
  have h1 := @run_makeMap P t W
  simp only [execOp, ho]
  simp [h1]
 exact Kd.event_run hg hrun (h _ rfl _ (World.ownsMap_made W P k R) (below_alloc (Below.refl _ _) _))
def Sums {H : Type} (D : DataW H) (s : Int → Int) : Prop := Maps.IsMap D ∧ ∀ a, D.atKey (.int .i64 a) (.lit (.int .i64 0)) = .lit (.int .i64 (s a))
theorem Sums.made {H : Type} : Sums (H := H) (.map []) (fun _ => 0) := ⟨⟨_, rfl⟩, fun _ => rfl⟩
theorem Sums.put {H : Type} {D : DataW H} {s : Int → Int} (h : Sums D s) (a v : Int) : Sums (D.put (.int .i64 a) (.lit (.int .i64 v))) (fun x => if x = a then v else s x) := by
 refine ⟨?_, fun x => ?_⟩
 ·obtain ⟨es, rfl⟩ := h.1
  rw [DataW.put_eq]
  exact ⟨_, rfl⟩
 ·by_cases hx : x = a
  ·subst hx
   simp only [if_true]
   exact Maps.atKey_put_same h.1 (k := .int .i64 x) (by unfold WideAt.IsKeyLit; trivial) _ _
  ·simp only [hx, if_false]
   rw [Maps.atKey_put_other (by simpa using hx)]
   exact h.2 x
theorem Sums.got {H : Type} {D : DataW H} {s : Int → Int} (h : Sums D s) {a c : Int} (hc : D.atKey (.int .i64 a) (.lit (.int .i64 0)) = .lit (.int .i64 c)) : c = s a := by
 have := (h.2 a).symm.trans hc
 simpa using this.symm
theorem Sums.out {H : Type} {D : DataW H} {s : Int → Int} (h : Sums D s) {a : Int} (hc : Maps.has D (.int .i64 a) = false) : s a = 0 := by
 have := (h.2 a).symm.trans (Maps.atKey_of_not_has hc _)
 simpa using this
def sumA (a : Int) (l : List S86) : Int := l.foldl (fun s g => if a = g.f2 then wrap64 (s + g.f3) else s) 0
theorem sumA_snoc (a : Int) (l : List S86) (g : S86) : sumA a (l ++ [g]) = if a = g.f2 then wrap64 (sumA a l + g.f3) else sumA a l := by
 unfold sumA
 rw [List.foldl_append]
 rfl
theorem sumA_take (a : Int) (l : List S86) (x : Int) (h0 : 0 ≤ x) (h1 : x < l.length) : sumA a (l.take (x + 1).toNat) = if a = (rd_T86 l x).f2 then wrap64 (sumA a (l.take x.toNat) + (rd_T86 l x).f3) else sumA a (l.take x.toNat) := by
 have e1 : (x + 1).toNat = x.toNat + 1 := by omega
 have hlt : x.toNat < l.length := by omega
 have e2 : rd_T86 l x = l[x.toNat] := by
  unfold rd_T86
  rw [List.getD_eq_getElem?_getD, List.getElem?_eq_getElem hlt]
  rfl
 rw [e1, List.take_add_one, List.getElem?_eq_getElem hlt, e2]
 exact sumA_snoc a _ _
theorem sumA_mem {a : Int} {l : List S86} (h : sumA a l ≠ 0) : ∃ g ∈ l, g.f2 = a := by
 have key : ∀ (l : List S86) (s : Int), (∀ g ∈ l, g.f2 ≠ a) → l.foldl (fun s g => if a = g.f2 then wrap64 (s + g.f3) else s) s = s := by
  intro l
  induction l with
  | nil => intro s _; rfl
  | cons g r ih =>
   intro s hg
   rw [List.foldl_cons, if_neg (fun e => hg g List.mem_cons_self e.symm)]
   exact ih s (fun g' hg' => hg g' (List.mem_cons_of_mem _ hg'))
 by_cases hx : ∃ g ∈ l, g.f2 = a
 ·exact hx
 ·exact absurd (key l 0 (fun g hg e => hx ⟨g, hg, e⟩)) h
def impl_ContractFault.fin (l : List S86) : Option Int := if ∀ g ∈ l, sumA g.f2 l = 0 then some 0 else some 1
theorem fin_zero {l : List S86} (h : ∀ a, sumA a l = 0) : impl_ContractFault.fin l = some 0 := by
 unfold impl_ContractFault.fin
 exact if_pos (fun (g : S86) _ => h g.f2)
theorem fin_one {l : List S86} {a : Int} (h : sumA a l ≠ 0) : impl_ContractFault.fin l = some 1 := by
 unfold impl_ContractFault.fin
 refine if_neg (fun hh => ?_)
 obtain ⟨g, hg, rfl⟩ := sumA_mem h
 exact h (hh g hg)
theorem leg_wf {k : Nat} {a b c d : Int} (h : impl_LegFault.f k a b c d = some 0) : (Lit.int .i64 c).wf = true := by
 have hc : 0 ≤ c ∧ c ≤ 2 := by
  unfold impl_LegFault.f at h
  obtain ⟨t1, h1, h⟩ := Option.bind_eq_some_iff.mp h
  by_cases e1 : t1 = true
  ·rw [if_pos e1] at h
   obtain ⟨t2, h2, h⟩ := Option.bind_eq_some_iff.mp h
   by_cases e2 : t2 = true
   ·clear h h1
    unfold impl_isPlace.f at h2
    obtain ⟨t3, h3, h2⟩ := Option.bind_eq_some_iff.mp h2
    by_cases e3 : t3 = true
    ·rw [if_pos e3] at h2
     obtain ⟨t4, h4, h2⟩ := Option.bind_eq_some_iff.mp h2
     obtain rfl := Option.some.inj h2
     unfold impl_isAsset.f at h4
     obtain ⟨t5, h5, h4⟩ := Option.bind_eq_some_iff.mp h4
     obtain rfl := Option.some.inj h4
     unfold impl_within.f at h5
     by_cases e4 : c ≥ 0
     ·rw [if_pos e4, e2] at h5
      exact ⟨e4, of_decide_eq_true (Option.some.inj h5)⟩
     ·rw [if_neg e4, e2] at h5
      exact absurd (Option.some.inj h5) (by decide)
    ·rw [if_neg e3] at h2
     rw [← Option.some.inj h2] at e2
     exact absurd e2 (by decide)
   ·rw [if_neg e2] at h
    cases k <;> simp [impl_LegFault.j0] at h
  ·rw [if_neg e1] at h
   cases k <;> simp [impl_LegFault.j0] at h
 have e : wrap64 c = c := by unfold wrap64; omega
 have := wrap64_wf c
 rwa [e] at this
theorem legs_few {l : List S86} {t : Int} (h1 : impl_size_impl_Leg.f l = some t) (h2 : impl_within.f t 2 8 = some true) : l.length ≤ 8 := by
 unfold impl_size_impl_Leg.f at h1
 obtain rfl := Option.some.inj h1
 unfold impl_within.f at h2
 by_cases e : (l.length : Int) ≥ 2
 ·rw [if_pos e] at h2
  have := of_decide_eq_true (Option.some.inj h2)
  omega
 ·rw [if_neg e] at h2
  exact absurd (Option.some.inj h2) (by decide)
theorem range_event {H : Type} {P : Program} {w : World} {ops : Array Oper} {rest : List Oper} {o : Oper} {a : Act} {Q : Exit → Act → World → Prop} (hg : o.guard = none) (m : Operand) (t : TypeId) (hop : o.op = Op.range t m) (k e : TypeId) (K : Maps.Keyed P k) (ht : P.underlying t = some (.map k e)) (R : Value → Option (DataW H × List MemPlace)) (b n : Nat) (D : DataW H)
  (hm : a.eval m = .map (some b)) (hown : w.ownsMap P k R b n D)
  (h : ∀ r, r = w.heap.size → ∀ w', w'.ranges P k R b r n D (Maps.has D) (Maps.size D) → w.grownBy w' none → wpList P ops Q rest (a.put o.dst (.pointer (some ⟨r, 0, none⟩))) w') : wpList P ops Q (o :: rest) a w :=
 wpList_range_own w hg m t hop k e K ht R b n D hm hown (fun w' h1 h2 _ => h _ rfl w' h1 h2)
theorem mzero_ (w : World) : (zeroValue 2).run Try.prog w = .ok (.int .i64 0) w := by kernel_rfl
theorem sums_step {l : List S86} {x : Int} {D : DataW Unit} {c : Int} (hl : l.length ≤ 8) (hx : 0 ≤ x ∧ x < (l.length : Int)) (hs : Sums D (fun a_ => sumA a_ (l.take x.toNat))) (hc : D.atKey (.int .i64 ((rd_T86 l x).f2)) (.lit (.int .i64 0)) = .lit (.int .i64 c)) :
  Sums (D.put (.int .i64 ((rd_T86 l x).f2)) (.lit (.int .i64 (wrap64 (c + (rd_T86 l x).f3))))) (fun a_ => sumA a_ (l.take (wrap64 (x + 1)).toNat)) := by
 have e : wrap64 (x + 1) = x + 1 := by unfold wrap64; omega
 have h1 := hs.got hc
 subst h1
 rw [e]
 have h2 := hs.put ((rd_T86 l x).f2) (wrap64 (sumA ((rd_T86 l x).f2) (l.take x.toNat) + (rd_T86 l x).f3))
 have h3 : (fun a_ => sumA a_ (l.take (x + 1).toNat)) = (fun a_ => if a_ = (rd_T86 l x).f2 then wrap64 (sumA ((rd_T86 l x).f2) (l.take x.toNat) + (rd_T86 l x).f3) else sumA a_ (l.take x.toNat)) := by
  funext a
  rw [sumA_take a l x hx.1 hx.2]
  by_cases ha : a = (rd_T86 l x).f2
  ·subst ha
   simp only [if_true]
  ·simp only [ha, if_false]
 rw [h3]
 exact h2
def impl_ContractFault.l0 : Nat → List (S86) → Int → Int → Int → List (S86) → Option (Int)
 | 0, _, _, _, _, _ => none
 | k + 1, x22, x23, x24, x154000, x154001 => if x24 < x23 then (if 0 ≤ x24 then (if x24 < (x22.length : Int) then ((impl_LegFault.f k ((rd_T86 x22 x24).f0) ((rd_T86 x22 x24).f1) ((rd_T86 x22 x24).f2) ((rd_T86 x22 x24).f3)).bind fun t159 => (if t159 = 0 then (if x24 ≤ (x154001.length : Int) then ((CL_117.f k (x154001.take (x24 : Int).toNat) ((rd_T86 x22 x24).f0) ((rd_T86 x22 x24).f1) ((rd_T86 x22 x24).f2) ((rd_T86 x22 x24).f3)).bind fun t164 => (if t164 = true then (some 7) else (impl_ContractFault.l0 k x22 x23 (wrap64 (x24 + 1)) x154000 x154001))) else (none)) else (some t159))) else (none)) else (none)) else (impl_ContractFault.fin x22)
def impl_ContractFault.f (k : Nat) (a0_0 : Int) (l0_1 : List (S86)) : Option (Int) := (impl_isId.f a0_0).bind fun t154 => (if t154 = true then ((impl_size_impl_Leg.f l0_1).bind fun t155 => ((impl_within.f t155 2 8).bind fun t156 => (if t156 = true then (impl_ContractFault.l0 k l0_1 (l0_1.length : Int) 0 a0_0 l0_1) else (some 2)))) else (some 3))
theorem impl_ContractFault.calls (k : Nat) (a0_0 : Int) (A0_1 : Option Addr) (c0_1 : Nat) (l0_1 : List (S86)) (r : Int) (w : World) (hr0_1 : Kd.C k86 w A0_1 l0_1.length l0_1) (hc0_1 : l0_1.length ≤ c0_1) (h : impl_ContractFault.f k a0_0 l0_1 = some r) :
  Calls Try.prog 93 #[.agg #[.int .i64 a0_0, .slice A0_1 l0_1.length c0_1]] w fun e w' => e = .returned (.int .i64 r) ∧ Below w.heap.size w w' := by
 have hu40 := Try.underlying40
 have hu86 := Try.underlying86
 have HR0_1 := am hr0_1
 have HC0_1 := am hc0_1
 clear hr0_1 hc0_1
 have HB := am (Below.refl w.heap.size w)
 have H : ((impl_isId.f a0_0).bind fun t154 => (if t154 = true then ((impl_size_impl_Leg.f l0_1).bind fun t155 => ((impl_within.f t155 2 8).bind fun t156 => (if t156 = true then (impl_ContractFault.l0 k l0_1 (l0_1.length : Int) 0 a0_0 l0_1) else (some 2)))) else (some 3))) = some r := h
 clear h
 replace H := ob H
 obtain ⟨t154, A20, H⟩ := H
 replace H : (if t154 = true then ((impl_size_impl_Leg.f l0_1).bind fun t155 => ((impl_within.f t155 2 8).bind fun t156 => (if t156 = true then (impl_ContractFault.l0 k l0_1 (l0_1.length : Int) 0 a0_0 l0_1) else (some 2)))) else (some 3)) = some r := H
 have A2 := am A20
 clear A20
 by_cases c3 : t154 = true
 ·subst c3
  have H1 : ((impl_size_impl_Leg.f l0_1).bind fun t155 => ((impl_within.f t155 2 8).bind fun t156 => (if t156 = true then (impl_ContractFault.l0 k l0_1 (l0_1.length : Int) 0 a0_0 l0_1) else (some 2)))) = some r := by rw [if_pos rfl] at H; exact H
  clear H
  have H := H1
  clear H1
  replace H := ob H
  obtain ⟨t155, A40, H⟩ := H
  replace H : ((impl_within.f t155 2 8).bind fun t156 => (if t156 = true then (impl_ContractFault.l0 k l0_1 (l0_1.length : Int) 0 a0_0 l0_1) else (some 2))) = some r := H
  have A4 := am A40
  clear A40
  replace H := ob H
  obtain ⟨t156, A50, H⟩ := H
  replace H : (if t156 = true then (impl_ContractFault.l0 k l0_1 (l0_1.length : Int) 0 a0_0 l0_1) else (some 2)) = some r := H
  have A5 := am A50
  clear A50
  by_cases c6 : t156 = true
  ·subst c6
   have H1 : (impl_ContractFault.l0 k l0_1 (l0_1.length : Int) 0 a0_0 l0_1) = some r := by rw [if_pos rfl] at H; exact H
   clear H
   have H := H1
   clear H1
   have H' := am H
   clear H
   go_enter Try.func93, Try.ntmps93
   go_wp2_with (first | ((with_reducible refine gate_dst (N := 1) rfl ?_); refine q_box (N := 1) (cs := #[.int .i64 a0_0, .slice A0_1 l0_1.length c0_1]) (t := 40) ?_; intro gb153 hg w7 hbox hb; have n0_ := am (below_step bq hb); have n1_ := am (hbox); have n2_ := am ((q_g hg bq : w.heap.size ≤ gb153)); have n3_ := n2_; revert n0_ n1_ n2_ n3_; clear HB; intro HB BK153 GW153 GE153; clear hb hbox hg; obtain ⟨hcz8_0, hcz8_1, hfz8_0, hfz8_1⟩ := q_2 BK153.out) | ((with_reducible refine gate_callee (f := 94) rfl ?_); refine goesLq (some 12) rfl rfl Try.func94 (by kernel_rfl) rfl #[.int .i64 a0_0] rfl ?_; (with_reducible refine (impl_isId.calls a0_0 true _ A2.out).mono ?_); rintro e w' ⟨rfl, ⟨nd, rfl⟩⟩; refine ⟨_, rfl, ?_⟩) | ((with_reducible refine gate_callee (f := 115) rfl ?_); refine goesLq (some 17) rfl rfl Try.func115 (by kernel_rfl) rfl #[.slice A0_1 l0_1.length c0_1] rfl ?_; (with_reducible refine (impl_size_impl_Leg.calls _ _ l0_1 t155 _ ?side1 ?side2 A4.out).mono ?_); (case side1 => exact q_c ((Kd.C_below HR0_1.out bq))); (case side2 => exact HC0_1.out); rintro e w' ⟨rfl, ⟨nd, rfl⟩⟩; refine ⟨_, rfl, ?_⟩) | ((with_reducible refine gate_callee (f := 65) rfl ?_); refine goesLq (some 18) rfl rfl Try.func65 (by kernel_rfl) rfl #[.int .i64 t155, .int .i64 2, .int .i64 8] rfl ?_; (with_reducible refine (impl_within.calls t155 2 8 true _ A5.out).mono ?_); rintro e w' ⟨rfl, ⟨nd, rfl⟩⟩; refine ⟨_, rfl, ?_⟩) | ((with_reducible refine gate_dst (N := 20) rfl ?_); refine makeMap_event (H := Unit) ?hg (N := 20) ?hd (t := 146) ?ho 2 (plainElem Try.prog 2) ?_; (case hd => rfl); (case hg => rfl); (case ho => rfl); intro gm_ hgm wm_ hmo hb; have n0_ := am (below_step bq hb); have n1_ := am (blk_below (q_b BK153.out) hb); have n2_ := am hmo; have n3_ := am ((by rw [hgm]; exact (below_size bq)) : w.heap.size ≤ gm_); have n4_ := am ((by rw [hgm]; exact Nat.ne_of_lt (blk_lt (q_b BK153.out))) : gb153 ≠ gm_); revert n0_ n1_ n2_ n3_ n4_; clear HB BK153; intro HB BK153 MO GM NBM; clear hb hmo hgm; obtain ⟨hcmwm__0, hcmwm__1, hfmwm__0, hfmwm__1⟩ := q_2 BK153.out; skip))
   go_loopg [24] k (fun kq v24 w' => ∃ (x24_1 : Int), v24 = .int .i64 x24_1 ∧ Aside0 (impl_ContractFault.l0 kq l0_1 (l0_1.length : Int) x24_1 a0_0 l0_1 = some r) ∧ Aside0 (kq ≤ k) ∧ Aside0 (w'.heap[gb153]? = some (.cells #[.int .i64 a0_0, (.slice A0_1 l0_1.length c0_1)] 40 (0, 0))) ∧ Aside0 (Below w.heap.size w w') ∧ Aside0 (0 ≤ x24_1 ∧ ∃ (n_ : Nat) (D_ : DataW Unit), w'.ownsMap Try.prog 2 (plainElem Try.prog 2) gm_ n_ D_ ∧ n_ ≤ x24_1.toNat ∧ Sums D_ (fun a_ => sumA a_ (l0_1.take x24_1.toNat))))
   case atStart => exact ⟨(0), q_i, H', ⟨Nat.le_refl _⟩, ⟨q_b BK153.out⟩, ⟨bq⟩, ⟨Int.le_refl _, 0, _, by (with_reducible repeat (first | refine map_drewN ?_ _ | refine map_drew ?_ | refine map_alloc ?_ _)); exact MO.out, Nat.le_refl _, by have h_ := Sums.made (H := Unit); simpa [sumA] using h_⟩⟩
   case round =>
    clear H'
    (try clear c1); (try clear p2); (try clear c3); (try clear c6); (try clear hcz8_0); (try clear hcz8_1); (try clear hfz8_0); (try clear hfz8_1)
    obtain ⟨x24_1, rfl, HA, HK1, BK153, HB, HM_⟩ := hrel
    obtain ⟨hx0_, n_, D_, hmo_, hn_, hs_⟩ := HM_.out
    have MO := am hmo_
    have MS := am (And.intro hx0_ (And.intro hn_ hs_))
    clear HM_ hmo_ hn_ hs_ hx0_
    cases gk with
    | zero => exact absurd HA.out (by simp [impl_ContractFault.l0])
    | succ k1 =>
     have H := HA.out
     clear HA
     simp only [impl_ContractFault.l0] at H
     by_cases c9 : x24_1 < (l0_1.length : Int)
     ·rw [if_pos c9] at H
      have c9b0 := decide_eq_true c9
      clear c9
      by_cases c10 : 0 ≤ x24_1
      ·rw [if_pos c10] at H
       have c10b0 := decide_eq_true c10
       clear c10
       by_cases c11 : x24_1 < (l0_1.length : Int)
       ·rw [if_pos c11] at H
        have c11b0 := decide_eq_true c11
        clear c11
        replace H := ob H
        obtain ⟨t159, A120, H⟩ := H
        replace H : (if t159 = 0 then (if x24_1 ≤ (l0_1.length : Int) then ((CL_117.f k1 (l0_1.take (x24_1 : Int).toNat) ((rd_T86 l0_1 x24_1).f0) ((rd_T86 l0_1 x24_1).f1) ((rd_T86 l0_1 x24_1).f2) ((rd_T86 l0_1 x24_1).f3)).bind fun t164 => (if t164 = true then (some 7) else (impl_ContractFault.l0 k1 l0_1 (l0_1.length : Int) (wrap64 (x24_1 + 1)) a0_0 l0_1))) else (none)) else (some t159)) = some r := H
        have A12 := am A120
        clear A120
        by_cases c13 : t159 = 0
        ·rw [if_pos c13] at H
         have c13b0 : (t159 == 0) = true := beq_iff_eq.mpr c13
         have c13b1 : (t159 != 0) = false := bne_eq_false_iff_eq.mpr c13
         have C13 := am c13
         clear c13
         have c14b0 := eq_true (q_d : 0 ≤ x24_1)
         by_cases c15 : x24_1 ≤ (l0_1.length : Int)
         ·rw [if_pos c15] at H
          have c15b0 := eq_true c15
          have c15b1 := decide_eq_true c15
          clear c15
          obtain ⟨y160, hy160⟩ : ∃ y_ : List (S86), y_ = (l0_1.take (x24_1 : Int).toNat) := ⟨_, rfl⟩
          replace H : ((CL_117.f k1 y160 ((rd_T86 l0_1 x24_1).f0) ((rd_T86 l0_1 x24_1).f1) ((rd_T86 l0_1 x24_1).f2) ((rd_T86 l0_1 x24_1).f3)).bind fun t164 => (if t164 = true then (some 7) else (impl_ContractFault.l0 k1 l0_1 (l0_1.length : Int) (wrap64 (x24_1 + 1)) a0_0 l0_1))) = some r := q_h hy160 H
          have Ny160 := am hy160
          clear hy160
          replace H := ob H
          obtain ⟨t164, A160, H⟩ := H
          replace H : (if t164 = true then (some 7) else (impl_ContractFault.l0 k1 l0_1 (l0_1.length : Int) (wrap64 (x24_1 + 1)) a0_0 l0_1)) = some r := H
          have A16 := am A160
          clear A160
          by_cases c17 : t164 = true
          ·subst c17
           have H1 : (some 7) = some r := by rw [if_pos rfl] at H; exact H
           clear H
           have H := H1
           clear H1
           obtain rfl := Option.some.inj H
           have p157 : 0 ≤ (x24_1 : Int) := q_d
           have q157 : x24_1 < (l0_1.length : Int) := q_d
           obtain ⟨ad157, e157, hx157_0, hx157_1, hx157_2, hx157_3⟩ := at_T86 HR0_1.out x24_1 p157 q157
           cases e157
           replace hx157_0 := q_x HB.out hx157_0
           replace hx157_1 := q_x HB.out hx157_1
           replace hx157_2 := q_x HB.out hx157_2
           replace hx157_3 := q_x HB.out hx157_3
           replace p157 := eq_true p157
           replace q157 := eq_true q157
           go_wp2_with (first | ((with_reducible refine gate_dst (N := 5) rfl ?_); refine q_box (N := 5) (cs := #[.int .i64 0, .int .i64 0, .int .i64 0, .int .i64 0]) (t := 86) ?_; intro gb158 hg w18 hbox hb; have nm0_ := am (map_below (H := Unit) (P := Try.prog) (k := 2) (R := plainElem Try.prog 2) (b := gm_) (n := n_) (D := D_) (by (with_reducible repeat (first | refine map_drewN ?_ _ | refine map_drew ?_ | refine map_alloc ?_ _)); exact MO.out) hb); have nm1_ := am ((by rw [hg]; exact Nat.ne_of_gt (World.ownsMap.lt (H := Unit) (P := Try.prog) (k := 2) (R := plainElem Try.prog 2) (b := gm_) (n := n_) (D := D_) (by (with_reducible repeat (first | refine map_drewN ?_ _ | refine map_drew ?_ | refine map_alloc ?_ _)); exact MO.out))) : gb158 ≠ gm_); clear MO; have MO := nm0_; have MNE := nm1_; clear nm0_ nm1_; have n0_ := am (blk_below (q_b BK153.out) hb); have n1_ := am (below_step bq hb); have n2_ := am (hbox); have n3_ := am ((q_g hg bq : w.heap.size ≤ gb158)); have n4_ := n3_; have n5_ := am ((q_n hg (q_b BK153.out) : gb153 ≠ gb158)); have n6_ := am n5_.out.symm; revert n0_ n1_ n2_ n3_ n4_ n5_ n6_; clear BK153 HB; intro BK153 HB BK158 GW158 GE158 NB153_158 NB158_153; clear hb hbox hg; have hnb19 := NB158_153.out; have hnc19 := NB153_158.out; obtain ⟨hcz20_0, hcz20_1, hcz20_2, hcz20_3, hfz20_0, hfz20_1, hfz20_2, hfz20_3⟩ := q_4 BK158.out) | ((with_reducible refine gate_callee (f := 116) rfl ?_); refine goesLq (some 30) rfl rfl Try.func116 (by kernel_rfl) rfl #[.agg #[.int .i64 ((rd_T86 l0_1 x24_1).f0), .int .i64 ((rd_T86 l0_1 x24_1).f1), .int .i64 ((rd_T86 l0_1 x24_1).f2), .int .i64 ((rd_T86 l0_1 x24_1).f3)]] rfl ?_; (with_reducible refine (impl_LegFault.calls k1 ((rd_T86 l0_1 x24_1).f0) ((rd_T86 l0_1 x24_1).f1) ((rd_T86 l0_1 x24_1).f2) ((rd_T86 l0_1 x24_1).f3) t159 _ A12.out).mono ?_); rintro e w21 ⟨rfl, hb⟩; refine ⟨_, rfl, ?_⟩; have nm0_ := am (map_below (H := Unit) (P := Try.prog) (k := 2) (R := plainElem Try.prog 2) (b := gm_) (n := n_) (D := D_) (by (with_reducible repeat (first | refine map_drewN ?_ _ | refine map_drew ?_ | refine map_alloc ?_ _ | refine map_far ?_ MNE.out _)); exact MO.out) hb); clear MO; have MO := nm0_; clear nm0_; have n0_ := am (blk_below (g := gb153) (o := .cells #[.int .i64 a0_0, .slice (some ad157) l0_1.length c0_1] 40 (0, 0)) (by (with_reducible repeat (first | refine blk_drewN ?_ _ | refine blk_drew ?_ | refine blk_alloc ?_ _)); refine blk_far ?_ NB153_158.out _; (with_reducible repeat (first | refine blk_drewN ?_ _ | refine blk_drew ?_ | refine blk_alloc ?_ _)); refine blk_far ?_ NB153_158.out _; (with_reducible repeat (first | refine blk_drewN ?_ _ | refine blk_drew ?_ | refine blk_alloc ?_ _)); refine blk_far ?_ NB153_158.out _; (with_reducible repeat (first | refine blk_drewN ?_ _ | refine blk_drew ?_ | refine blk_alloc ?_ _)); refine blk_far ?_ NB153_158.out _; (with_reducible repeat (first | refine blk_drewN ?_ _ | refine blk_drew ?_ | refine blk_alloc ?_ _)); exact BK153.out) hb); have n1_ := am (blk_below (g := gb158) (o := .cells #[.int .i64 ((rd_T86 l0_1 x24_1).f0), .int .i64 ((rd_T86 l0_1 x24_1).f1), .int .i64 ((rd_T86 l0_1 x24_1).f2), .int .i64 ((rd_T86 l0_1 x24_1).f3)] 86 (0, 0)) (by (with_reducible repeat (first | refine blk_drewN ?_ _ | refine blk_drew ?_ | refine blk_alloc ?_ _)); refine blk_put (cs := #[.int .i64 ((rd_T86 l0_1 x24_1).f0), .int .i64 ((rd_T86 l0_1 x24_1).f1), .int .i64 ((rd_T86 l0_1 x24_1).f2), .int .i64 0]) ?_ 3 _ rfl; (with_reducible repeat (first | refine blk_drewN ?_ _ | refine blk_drew ?_ | refine blk_alloc ?_ _)); refine blk_put (cs := #[.int .i64 ((rd_T86 l0_1 x24_1).f0), .int .i64 ((rd_T86 l0_1 x24_1).f1), .int .i64 0, .int .i64 0]) ?_ 2 _ rfl; (with_reducible repeat (first | refine blk_drewN ?_ _ | refine blk_drew ?_ | refine blk_alloc ?_ _)); refine blk_put (cs := #[.int .i64 ((rd_T86 l0_1 x24_1).f0), .int .i64 0, .int .i64 0, .int .i64 0]) ?_ 1 _ rfl; (with_reducible repeat (first | refine blk_drewN ?_ _ | refine blk_drew ?_ | refine blk_alloc ?_ _)); refine blk_put (cs := #[.int .i64 0, .int .i64 0, .int .i64 0, .int .i64 0]) ?_ 0 _ rfl; (with_reducible repeat (first | refine blk_drewN ?_ _ | refine blk_drew ?_ | refine blk_alloc ?_ _)); exact BK158.out) hb); have n2_ := am (below_step bq hb); revert n0_ n1_ n2_; clear BK153 BK158 HB; intro BK153 BK158 HB; (try clear hb); (try clear hb2); (try clear hk); (try clear hi); obtain ⟨hcz22_0, hcz22_1, hfz22_0, hfz22_1⟩ := q_2 BK153.out; have q23 : (x24_1 : Int) ≤ ((l0_1.length : Int) : Int) := q_d; obtain ⟨i023, hi023, _, hsz23, _⟩ := info_parts info86; have hroom23 : l0_1.length ≤ c0_1 := HC0_1.out; have hC23 : Kd.C k86 _ (some ad157) l0_1.length l0_1 := HR0_1.out; have hcut23 := cut_to (P := Try.prog) 38 86 .i64 Try.underlying38 hi023 (some ad157) l0_1.length c0_1 x24_1 q_d q23 hroom23; have hr23 := Kd.C_take (m := (x24_1 : Int).toNat) hC23 (by omega); have hy23 : y160.length = (x24_1 : Int).toNat := (by rw [Ny160.out, List.length_take]; omega); rw [← Ny160.out] at hr23; rw [← hy23] at hcut23; have HR163 := am hr23; have HC163 := am (show y160.length ≤ c0_1 from by omega); clear hr23 hC23 hroom23 hi023 hsz23; have KY23 := am hy23; clear hy23; replace q23 := eq_true q23; obtain ⟨hcz24_0, hcz24_1, hcz24_2, hcz24_3, hfz24_0, hfz24_1, hfz24_2, hfz24_3⟩ := q_4 BK158.out) | ((with_reducible refine gate_callee (f := 99) rfl ?_); refine goesLq (some 39) rfl rfl Try.func99 (by kernel_rfl) rfl #[.slice (some ad157) y160.length c0_1, .func (.func 117) #[] #[.pointer (some ⟨gb158, 0, none⟩)]] rfl ?_; (with_reducible refine (CL_117.calls k1 _ _ y160 ((rd_T86 l0_1 x24_1).f0) ((rd_T86 l0_1 x24_1).f1) ((rd_T86 l0_1 x24_1).f2) ((rd_T86 l0_1 x24_1).f3) true _ ?side1 ?side2 A16.out gb158 kq).mono ?_); (case side1 => exact q_c ((Kd.C_below HR163.out HB.out))); (case side2 => exact HC163.out); rintro e w25 ⟨rfl, hb⟩; refine ⟨_, rfl, ?_⟩; have nm0_ := am (map_below (H := Unit) (P := Try.prog) (k := 2) (R := plainElem Try.prog 2) (b := gm_) (n := n_) (D := D_) (by (with_reducible repeat (first | refine map_drewN ?_ _ | refine map_drew ?_ | refine map_alloc ?_ _ | refine map_far ?_ MNE.out _)); exact MO.out) hb); clear MO; have MO := nm0_; clear nm0_; have n0_ := am (blk_below (q_b BK153.out) hb); have n1_ := am (blk_below (q_b BK158.out) hb); have n2_ := am (below_step bq hb); revert n0_ n1_ n2_; clear BK153 BK158 HB; intro BK153 BK158 HB; (try clear hb); (try clear hb2); (try clear hk); (try clear hi)))
           go_ret
           exact ⟨q_e, bq⟩
          ·replace c17 := Bool.eq_false_iff.mpr c17
           subst c17
           have H1 : (impl_ContractFault.l0 k1 l0_1 (l0_1.length : Int) (wrap64 (x24_1 + 1)) a0_0 l0_1) = some r := by rw [if_neg (show ¬ (false = true) by decide)] at H; exact H
           clear H
           have H := H1
           clear H1
           have H' := am H
           clear H
           have p157 : 0 ≤ (x24_1 : Int) := q_d
           have q157 : x24_1 < (l0_1.length : Int) := q_d
           obtain ⟨ad157, e157, hx157_0, hx157_1, hx157_2, hx157_3⟩ := at_T86 HR0_1.out x24_1 p157 q157
           cases e157
           replace hx157_0 := q_x HB.out hx157_0
           replace hx157_1 := q_x HB.out hx157_1
           replace hx157_2 := q_x HB.out hx157_2
           replace hx157_3 := q_x HB.out hx157_3
           replace p157 := eq_true p157
           replace q157 := eq_true q157
           have WFM := am (leg_wf (A12.out.trans (congrArg some C13.out)))
           have LEN := am (legs_few A4.out A5.out)
           have QX := am (And.intro (of_decide_eq_true c10b0) (of_decide_eq_true c9b0))
           go_wp2_with (first | ((with_reducible refine gate_dst (N := 5) rfl ?_); refine q_box (N := 5) (cs := #[.int .i64 0, .int .i64 0, .int .i64 0, .int .i64 0]) (t := 86) ?_; intro gb158 hg w26 hbox hb; have nm0_ := am (map_below (H := Unit) (P := Try.prog) (k := 2) (R := plainElem Try.prog 2) (b := gm_) (n := n_) (D := D_) (by (with_reducible repeat (first | refine map_drewN ?_ _ | refine map_drew ?_ | refine map_alloc ?_ _)); exact MO.out) hb); have nm1_ := am ((by rw [hg]; exact Nat.ne_of_gt (World.ownsMap.lt (H := Unit) (P := Try.prog) (k := 2) (R := plainElem Try.prog 2) (b := gm_) (n := n_) (D := D_) (by (with_reducible repeat (first | refine map_drewN ?_ _ | refine map_drew ?_ | refine map_alloc ?_ _)); exact MO.out))) : gb158 ≠ gm_); clear MO; have MO := nm0_; have MNE := nm1_; clear nm0_ nm1_; have n0_ := am (blk_below (q_b BK153.out) hb); have n1_ := am (below_step bq hb); have n2_ := am (hbox); have n3_ := am ((q_g hg bq : w.heap.size ≤ gb158)); have n4_ := n3_; have n5_ := am ((q_n hg (q_b BK153.out) : gb153 ≠ gb158)); have n6_ := am n5_.out.symm; revert n0_ n1_ n2_ n3_ n4_ n5_ n6_; clear BK153 HB; intro BK153 HB BK158 GW158 GE158 NB153_158 NB158_153; clear hb hbox hg; have hnb27 := NB158_153.out; have hnc27 := NB153_158.out; obtain ⟨hcz28_0, hcz28_1, hcz28_2, hcz28_3, hfz28_0, hfz28_1, hfz28_2, hfz28_3⟩ := q_4 BK158.out) | ((with_reducible refine gate_callee (f := 116) rfl ?_); refine goesLq (some 30) rfl rfl Try.func116 (by kernel_rfl) rfl #[.agg #[.int .i64 ((rd_T86 l0_1 x24_1).f0), .int .i64 ((rd_T86 l0_1 x24_1).f1), .int .i64 ((rd_T86 l0_1 x24_1).f2), .int .i64 ((rd_T86 l0_1 x24_1).f3)]] rfl ?_; (with_reducible refine (impl_LegFault.calls k1 ((rd_T86 l0_1 x24_1).f0) ((rd_T86 l0_1 x24_1).f1) ((rd_T86 l0_1 x24_1).f2) ((rd_T86 l0_1 x24_1).f3) t159 _ A12.out).mono ?_); rintro e w29 ⟨rfl, hb⟩; refine ⟨_, rfl, ?_⟩; have nm0_ := am (map_below (H := Unit) (P := Try.prog) (k := 2) (R := plainElem Try.prog 2) (b := gm_) (n := n_) (D := D_) (by (with_reducible repeat (first | refine map_drewN ?_ _ | refine map_drew ?_ | refine map_alloc ?_ _ | refine map_far ?_ MNE.out _)); exact MO.out) hb); clear MO; have MO := nm0_; clear nm0_; have n0_ := am (blk_below (g := gb153) (o := .cells #[.int .i64 a0_0, .slice (some ad157) l0_1.length c0_1] 40 (0, 0)) (by (with_reducible repeat (first | refine blk_drewN ?_ _ | refine blk_drew ?_ | refine blk_alloc ?_ _)); refine blk_far ?_ NB153_158.out _; (with_reducible repeat (first | refine blk_drewN ?_ _ | refine blk_drew ?_ | refine blk_alloc ?_ _)); refine blk_far ?_ NB153_158.out _; (with_reducible repeat (first | refine blk_drewN ?_ _ | refine blk_drew ?_ | refine blk_alloc ?_ _)); refine blk_far ?_ NB153_158.out _; (with_reducible repeat (first | refine blk_drewN ?_ _ | refine blk_drew ?_ | refine blk_alloc ?_ _)); refine blk_far ?_ NB153_158.out _; (with_reducible repeat (first | refine blk_drewN ?_ _ | refine blk_drew ?_ | refine blk_alloc ?_ _)); exact BK153.out) hb); have n1_ := am (blk_below (g := gb158) (o := .cells #[.int .i64 ((rd_T86 l0_1 x24_1).f0), .int .i64 ((rd_T86 l0_1 x24_1).f1), .int .i64 ((rd_T86 l0_1 x24_1).f2), .int .i64 ((rd_T86 l0_1 x24_1).f3)] 86 (0, 0)) (by (with_reducible repeat (first | refine blk_drewN ?_ _ | refine blk_drew ?_ | refine blk_alloc ?_ _)); refine blk_put (cs := #[.int .i64 ((rd_T86 l0_1 x24_1).f0), .int .i64 ((rd_T86 l0_1 x24_1).f1), .int .i64 ((rd_T86 l0_1 x24_1).f2), .int .i64 0]) ?_ 3 _ rfl; (with_reducible repeat (first | refine blk_drewN ?_ _ | refine blk_drew ?_ | refine blk_alloc ?_ _)); refine blk_put (cs := #[.int .i64 ((rd_T86 l0_1 x24_1).f0), .int .i64 ((rd_T86 l0_1 x24_1).f1), .int .i64 0, .int .i64 0]) ?_ 2 _ rfl; (with_reducible repeat (first | refine blk_drewN ?_ _ | refine blk_drew ?_ | refine blk_alloc ?_ _)); refine blk_put (cs := #[.int .i64 ((rd_T86 l0_1 x24_1).f0), .int .i64 0, .int .i64 0, .int .i64 0]) ?_ 1 _ rfl; (with_reducible repeat (first | refine blk_drewN ?_ _ | refine blk_drew ?_ | refine blk_alloc ?_ _)); refine blk_put (cs := #[.int .i64 0, .int .i64 0, .int .i64 0, .int .i64 0]) ?_ 0 _ rfl; (with_reducible repeat (first | refine blk_drewN ?_ _ | refine blk_drew ?_ | refine blk_alloc ?_ _)); exact BK158.out) hb); have n2_ := am (below_step bq hb); revert n0_ n1_ n2_; clear BK153 BK158 HB; intro BK153 BK158 HB; (try clear hb); (try clear hb2); (try clear hk); (try clear hi); obtain ⟨hcz30_0, hcz30_1, hfz30_0, hfz30_1⟩ := q_2 BK153.out; have q31 : (x24_1 : Int) ≤ ((l0_1.length : Int) : Int) := q_d; obtain ⟨i031, hi031, _, hsz31, _⟩ := info_parts info86; have hroom31 : l0_1.length ≤ c0_1 := HC0_1.out; have hC31 : Kd.C k86 _ (some ad157) l0_1.length l0_1 := HR0_1.out; have hcut31 := cut_to (P := Try.prog) 38 86 .i64 Try.underlying38 hi031 (some ad157) l0_1.length c0_1 x24_1 q_d q31 hroom31; have hr31 := Kd.C_take (m := (x24_1 : Int).toNat) hC31 (by omega); have hy31 : y160.length = (x24_1 : Int).toNat := (by rw [Ny160.out, List.length_take]; omega); rw [← Ny160.out] at hr31; rw [← hy31] at hcut31; have HR163 := am hr31; have HC163 := am (show y160.length ≤ c0_1 from by omega); clear hr31 hC31 hroom31 hi031 hsz31; have KY31 := am hy31; clear hy31; replace q31 := eq_true q31; obtain ⟨hcz32_0, hcz32_1, hcz32_2, hcz32_3, hfz32_0, hfz32_1, hfz32_2, hfz32_3⟩ := q_4 BK158.out) | ((with_reducible refine gate_callee (f := 99) rfl ?_); refine goesLq (some 39) rfl rfl Try.func99 (by kernel_rfl) rfl #[.slice (some ad157) y160.length c0_1, .func (.func 117) #[] #[.pointer (some ⟨gb158, 0, none⟩)]] rfl ?_; (with_reducible refine (CL_117.calls k1 _ _ y160 ((rd_T86 l0_1 x24_1).f0) ((rd_T86 l0_1 x24_1).f1) ((rd_T86 l0_1 x24_1).f2) ((rd_T86 l0_1 x24_1).f3) false _ ?side1 ?side2 A16.out gb158 kq).mono ?_); (case side1 => exact q_c ((Kd.C_below HR163.out HB.out))); (case side2 => exact HC163.out); rintro e w33 ⟨rfl, hb⟩; refine ⟨_, rfl, ?_⟩; have nm0_ := am (map_below (H := Unit) (P := Try.prog) (k := 2) (R := plainElem Try.prog 2) (b := gm_) (n := n_) (D := D_) (by (with_reducible repeat (first | refine map_drewN ?_ _ | refine map_drew ?_ | refine map_alloc ?_ _ | refine map_far ?_ MNE.out _)); exact MO.out) hb); clear MO; have MO := nm0_; clear nm0_; have n0_ := am (blk_below (q_b BK153.out) hb); have n1_ := am (blk_below (q_b BK158.out) hb); have n2_ := am (below_step bq hb); revert n0_ n1_ n2_; clear BK153 BK158 HB; intro BK153 BK158 HB; (try clear hb); (try clear hb2); (try clear hk); (try clear hi); obtain ⟨hcz34_0, hcz34_1, hcz34_2, hcz34_3, hfz34_0, hfz34_1, hfz34_2, hfz34_3⟩ := q_4 BK158.out) | (at_lookup; refine wpList_lookup_own_int _ rfl _ _ 146 rfl 2 2 .i64 (Maps.int_keyed Try.underlying2) Try.underlying146 Try.underlying2 (mzero_ _) gm_ n_ D_ rfl (by (with_reducible repeat (first | refine map_drewN ?_ _ | refine map_drew ?_ | refine map_alloc ?_ _ | refine map_far ?_ MNE.out _)); exact MO.out) _ _ rfl (Maps.keyOf_int_mk Try.underlying2 WFM.out) ?_; intro c_ hat_ hwc_; have HAT := am hat_; clear hat_ hwc_) | (at_mapUpdate; refine wpList_mapUpdate_own _ rfl _ _ _ 146 rfl 2 2 (Maps.int_keyed Try.underlying2) Try.underlying146 _ gm_ n_ D_ rfl (by (with_reducible repeat (first | refine map_drewN ?_ _ | refine map_drew ?_ | refine map_alloc ?_ _ | refine map_far ?_ MNE.out _)); exact MO.out) (by have h1_ := MS.out.2.1; have h2_ := LEN.out; have h3_ := QX.out; unfold maxLen; omega) _ _ _ rfl rfl (Maps.keyOf_int_mk Try.underlying2 WFM.out) _ [] (plainElem_int Try.underlying2 (wrap64_wf _)) ?_; intro wu_ hown_ hgrow_; have n0_ := am (Below.grown bq hgrow_ (below_size bq) (fun k_ hk_ => by cases hk_; exact GM.out)); have n1_ := am ((hgrow_.block gb153 (blk_lt kq) (by intro h_; exact NBM.out (Option.some.inj h_))).trans kq); have n2_ := am hown_; clear HB; clear BK153; clear MO; have HB := n0_; have BK153 := n1_; have MO := n2_; clear n0_ n1_ n2_ hown_ hgrow_))
           go_roundg k1
           case measure => have := HK1.out; omega
           case rel => exact ⟨(wrap64 (x24_1 + 1)), q_i, H', ⟨by have := HK1.out; omega⟩, ⟨q_b BK153.out⟩, ⟨bq⟩, ⟨by have h_ := QX.out; have h2_ := LEN.out; unfold wrap64; omega, n_ + 1, _, MO.out, by have h_ := QX.out; have h2_ := LEN.out; have h3_ := MS.out.2.1; unfold wrap64; omega, sums_step LEN.out QX.out MS.out.2.2 HAT.out⟩⟩
         ·rw [if_neg c15] at H
          exact absurd H (by simp)
        ·rw [if_neg c13] at H
         have c13b0 : (t159 == 0) = false := beq_eq_false_iff_ne.mpr c13
         have c13b1 : (t159 != 0) = true := bne_iff_ne.mpr c13
         obtain rfl := Option.some.inj H
         have p157 : 0 ≤ (x24_1 : Int) := q_d
         have q157 : x24_1 < (l0_1.length : Int) := q_d
         obtain ⟨ad157, e157, hx157_0, hx157_1, hx157_2, hx157_3⟩ := at_T86 HR0_1.out x24_1 p157 q157
         cases e157
         replace hx157_0 := q_x HB.out hx157_0
         replace hx157_1 := q_x HB.out hx157_1
         replace hx157_2 := q_x HB.out hx157_2
         replace hx157_3 := q_x HB.out hx157_3
         replace p157 := eq_true p157
         replace q157 := eq_true q157
         go_wp2_with (first | ((with_reducible refine gate_dst (N := 5) rfl ?_); refine q_box (N := 5) (cs := #[.int .i64 0, .int .i64 0, .int .i64 0, .int .i64 0]) (t := 86) ?_; intro gb158 hg w35 hbox hb; have nm0_ := am (map_below (H := Unit) (P := Try.prog) (k := 2) (R := plainElem Try.prog 2) (b := gm_) (n := n_) (D := D_) (by (with_reducible repeat (first | refine map_drewN ?_ _ | refine map_drew ?_ | refine map_alloc ?_ _)); exact MO.out) hb); have nm1_ := am ((by rw [hg]; exact Nat.ne_of_gt (World.ownsMap.lt (H := Unit) (P := Try.prog) (k := 2) (R := plainElem Try.prog 2) (b := gm_) (n := n_) (D := D_) (by (with_reducible repeat (first | refine map_drewN ?_ _ | refine map_drew ?_ | refine map_alloc ?_ _)); exact MO.out))) : gb158 ≠ gm_); clear MO; have MO := nm0_; have MNE := nm1_; clear nm0_ nm1_; have n0_ := am (blk_below (q_b BK153.out) hb); have n1_ := am (below_step bq hb); have n2_ := am (hbox); have n3_ := am ((q_g hg bq : w.heap.size ≤ gb158)); have n4_ := n3_; have n5_ := am ((q_n hg (q_b BK153.out) : gb153 ≠ gb158)); have n6_ := am n5_.out.symm; revert n0_ n1_ n2_ n3_ n4_ n5_ n6_; clear BK153 HB; intro BK153 HB BK158 GW158 GE158 NB153_158 NB158_153; clear hb hbox hg; have hnb36 := NB158_153.out; have hnc36 := NB153_158.out; obtain ⟨hcz37_0, hcz37_1, hcz37_2, hcz37_3, hfz37_0, hfz37_1, hfz37_2, hfz37_3⟩ := q_4 BK158.out) | ((with_reducible refine gate_callee (f := 116) rfl ?_); refine goesLq (some 30) rfl rfl Try.func116 (by kernel_rfl) rfl #[.agg #[.int .i64 ((rd_T86 l0_1 x24_1).f0), .int .i64 ((rd_T86 l0_1 x24_1).f1), .int .i64 ((rd_T86 l0_1 x24_1).f2), .int .i64 ((rd_T86 l0_1 x24_1).f3)]] rfl ?_; (with_reducible refine (impl_LegFault.calls k1 ((rd_T86 l0_1 x24_1).f0) ((rd_T86 l0_1 x24_1).f1) ((rd_T86 l0_1 x24_1).f2) ((rd_T86 l0_1 x24_1).f3) t159 _ A12.out).mono ?_); rintro e w38 ⟨rfl, hb⟩; refine ⟨_, rfl, ?_⟩; have nm0_ := am (map_below (H := Unit) (P := Try.prog) (k := 2) (R := plainElem Try.prog 2) (b := gm_) (n := n_) (D := D_) (by (with_reducible repeat (first | refine map_drewN ?_ _ | refine map_drew ?_ | refine map_alloc ?_ _ | refine map_far ?_ MNE.out _)); exact MO.out) hb); clear MO; have MO := nm0_; clear nm0_; have n0_ := am (blk_below (g := gb153) (o := .cells #[.int .i64 a0_0, .slice (some ad157) l0_1.length c0_1] 40 (0, 0)) (by (with_reducible repeat (first | refine blk_drewN ?_ _ | refine blk_drew ?_ | refine blk_alloc ?_ _)); refine blk_far ?_ NB153_158.out _; (with_reducible repeat (first | refine blk_drewN ?_ _ | refine blk_drew ?_ | refine blk_alloc ?_ _)); refine blk_far ?_ NB153_158.out _; (with_reducible repeat (first | refine blk_drewN ?_ _ | refine blk_drew ?_ | refine blk_alloc ?_ _)); refine blk_far ?_ NB153_158.out _; (with_reducible repeat (first | refine blk_drewN ?_ _ | refine blk_drew ?_ | refine blk_alloc ?_ _)); refine blk_far ?_ NB153_158.out _; (with_reducible repeat (first | refine blk_drewN ?_ _ | refine blk_drew ?_ | refine blk_alloc ?_ _)); exact BK153.out) hb); have n1_ := am (blk_below (g := gb158) (o := .cells #[.int .i64 ((rd_T86 l0_1 x24_1).f0), .int .i64 ((rd_T86 l0_1 x24_1).f1), .int .i64 ((rd_T86 l0_1 x24_1).f2), .int .i64 ((rd_T86 l0_1 x24_1).f3)] 86 (0, 0)) (by (with_reducible repeat (first | refine blk_drewN ?_ _ | refine blk_drew ?_ | refine blk_alloc ?_ _)); refine blk_put (cs := #[.int .i64 ((rd_T86 l0_1 x24_1).f0), .int .i64 ((rd_T86 l0_1 x24_1).f1), .int .i64 ((rd_T86 l0_1 x24_1).f2), .int .i64 0]) ?_ 3 _ rfl; (with_reducible repeat (first | refine blk_drewN ?_ _ | refine blk_drew ?_ | refine blk_alloc ?_ _)); refine blk_put (cs := #[.int .i64 ((rd_T86 l0_1 x24_1).f0), .int .i64 ((rd_T86 l0_1 x24_1).f1), .int .i64 0, .int .i64 0]) ?_ 2 _ rfl; (with_reducible repeat (first | refine blk_drewN ?_ _ | refine blk_drew ?_ | refine blk_alloc ?_ _)); refine blk_put (cs := #[.int .i64 ((rd_T86 l0_1 x24_1).f0), .int .i64 0, .int .i64 0, .int .i64 0]) ?_ 1 _ rfl; (with_reducible repeat (first | refine blk_drewN ?_ _ | refine blk_drew ?_ | refine blk_alloc ?_ _)); refine blk_put (cs := #[.int .i64 0, .int .i64 0, .int .i64 0, .int .i64 0]) ?_ 0 _ rfl; (with_reducible repeat (first | refine blk_drewN ?_ _ | refine blk_drew ?_ | refine blk_alloc ?_ _)); exact BK158.out) hb); have n2_ := am (below_step bq hb); revert n0_ n1_ n2_; clear BK153 BK158 HB; intro BK153 BK158 HB; (try clear hb); (try clear hb2); (try clear hk); (try clear hi)))
         go_ret
         exact ⟨q_e, bq⟩
       ·rw [if_neg c11] at H
        exact absurd H (by simp)
      ·rw [if_neg c10] at H
       exact absurd H (by simp)
     ·rw [if_neg c9] at H
      have c9b0 := decide_eq_false c9
      clear c9
      have hall_ : (l0_1.take x24_1.toNat) = l0_1 := List.take_of_length_le (by have h_ := of_decide_eq_false c9b0; have h2_ := MS.out.1; omega)
      have hsum_ : Sums D_ (fun a_ => sumA a_ l0_1) := by have h_ := MS.out.2.2; rw [hall_] at h_; exact h_
      have HS := am (And.intro hsum_ H)
      clear hall_ hsum_ H
      go_wp2_with (first | (at_range; refine range_event rfl _ 146 rfl 2 2 (Maps.int_keyed Try.underlying2) Try.underlying146 _ gm_ n_ D_ rfl (by (with_reducible repeat (first | refine map_drewN ?_ _ | refine map_drew ?_ | refine map_alloc ?_ _)); exact MO.out) ?_; intro ri_ hri_ wi_ hrg_ hgr_; have n0_ := am (Below.grown bq hgr_ (below_size bq) (fun k_ hk_ => by cases hk_)); have n1_ := am hrg_; have n2_ := am ((by rw [hri_]; exact below_size bq) : w.heap.size ≤ ri_); clear HB; have HB := n0_; have RG := n1_; have GRI := n2_; clear n0_ n1_ n2_ hri_ hrg_ hgr_))
      go_frame
      go_loopw [] (fun w' => ∃ (left : Lit → Bool) (cnt : Nat), Aside0 (w'.ranges Try.prog 2 (plainElem Try.prog 2) gm_ ri_ n_ D_ left cnt) ∧ Aside0 (∀ a_ : Int, Maps.has D_ (.int .i64 a_) = true → left (.int .i64 a_) = false → sumA a_ l0_1 = 0) ∧ Aside0 (Below w.heap.size w w')) (fun w' => w'.rangeLeft gm_ ri_)
      case atStart => exact ⟨_, _, RG, ⟨fun a_ h1_ h2_ => absurd (h1_.symm.trans h2_) (by decide)⟩, ⟨bq⟩⟩
      case round =>
       obtain ⟨left, cnt, RG, HZ, HB⟩ := hrel
       go_wp2_with (first | (at_next; refine wpList_next_ranges_ii _ rfl _ rfl 2 2 .i64 .i64 (Maps.int_keyed Try.underlying2) Try.underlying2 Try.underlying2 gm_ ri_ n_ D_ left cnt rfl RG.out ?_ ?_))
       ·intro _ hl0
        have hr_ : r = 0 := Option.some.inj (HS.out.2.symm.trans (fin_zero (fun a_ => by
         by_cases hh_ : Maps.has D_ (.int .i64 a_) = true
         ·exact HZ.out a_ hh_ (hl0 _)
         ·exact HS.out.1.out (Bool.eq_false_iff.mpr hh_))))
        subst hr_
        clear hl0
        go_wp2
        go_ret
        exact ⟨rfl, bq⟩
       ·intro x_ c_ w1 cnt1 hwx hwc hlx hat hrg1 hlt hg1 hs1 hen
        have hcs_ : c_ = sumA x_ l0_1 := HS.out.1.got (hat _)
        have RG1 := am hrg1
        have HB1 := am (Below.grown HB.out hg1 HB.out.size (fun k_ hk_ => by cases hk_; exact GRI.out))
        have LT1 := am hlt
        have CS := am hcs_
        clear hcs_ hrg1 hlt hg1 hs1 hlx hwx hwc hat
        by_cases hc_ : c_ = 0
        ·have hcb_ : (c_ == 0) = true := beq_iff_eq.mpr hc_
         have hcb2_ : (c_ != 0) = false := bne_eq_false_iff_eq.mpr hc_
         have HC := am hc_
         clear hc_
         go_wp2
         go_roundw
         case rel => exact ⟨_, cnt1, RG1, ⟨fun a_ h1_ h2_ => by
          by_cases hx_ : a_ = x_
          ·rw [hx_, ← CS.out]; exact HC.out
          ·refine HZ.out a_ h1_ ?_
           have hk_ : Lit.sameKey (.int .i64 a_) (.int .i64 x_) = false := by
            cases hq_ : Lit.sameKey (.int .i64 a_) (.int .i64 x_) with
            | false => rfl
            | true => exact absurd (by simpa [Lit.sameKey] using hq_) hx_
           rw [hk_] at h2_
           simpa using h2_⟩, ⟨HB1.out⟩⟩
         case measure => rw [RG1.out.left_eq, RG.out.left_eq]; exact LT1.out
        ·have hcb_ : (c_ == 0) = false := beq_eq_false_iff_ne.mpr hc_
         have hcb2_ : (c_ != 0) = true := bne_iff_ne.mpr hc_
         have hr_ : r = 1 := Option.some.inj (HS.out.2.symm.trans (fin_one (a := x_) (by rw [← CS.out]; exact hc_)))
         subst hr_
         clear hc_
         go_wp2
         go_ret
         exact ⟨rfl, by repeat (first | (with_reducible first | exact HB1.out | apply below_alloc | apply pw_below_drewN | apply below_drew1) | exact HB1.out)⟩
  ·replace c6 := Bool.eq_false_iff.mpr c6
   subst c6
   have H1 : (some 2) = some r := by rw [if_neg (show ¬ (false = true) by decide)] at H; exact H
   clear H
   have H := H1
   clear H1
   obtain rfl := Option.some.inj H
   go_enter Try.func93, Try.ntmps93
   go_wp2_with (first | ((with_reducible refine gate_dst (N := 1) rfl ?_); refine q_box (N := 1) (cs := #[.int .i64 a0_0, .slice A0_1 l0_1.length c0_1]) (t := 40) ?_; intro gb153 hg w39 hbox hb; have n0_ := am (below_step bq hb); have n1_ := am (hbox); have n2_ := am ((q_g hg bq : w.heap.size ≤ gb153)); have n3_ := n2_; revert n0_ n1_ n2_ n3_; clear HB; intro HB BK153 GW153 GE153; clear hb hbox hg; obtain ⟨hcz40_0, hcz40_1, hfz40_0, hfz40_1⟩ := q_2 BK153.out) | ((with_reducible refine gate_callee (f := 94) rfl ?_); refine goesLq (some 12) rfl rfl Try.func94 (by kernel_rfl) rfl #[.int .i64 a0_0] rfl ?_; (with_reducible refine (impl_isId.calls a0_0 true _ A2.out).mono ?_); rintro e w' ⟨rfl, ⟨nd, rfl⟩⟩; refine ⟨_, rfl, ?_⟩) | ((with_reducible refine gate_callee (f := 115) rfl ?_); refine goesLq (some 17) rfl rfl Try.func115 (by kernel_rfl) rfl #[.slice A0_1 l0_1.length c0_1] rfl ?_; (with_reducible refine (impl_size_impl_Leg.calls _ _ l0_1 t155 _ ?side1 ?side2 A4.out).mono ?_); (case side1 => exact q_c ((Kd.C_below HR0_1.out bq))); (case side2 => exact HC0_1.out); rintro e w' ⟨rfl, ⟨nd, rfl⟩⟩; refine ⟨_, rfl, ?_⟩) | ((with_reducible refine gate_callee (f := 65) rfl ?_); refine goesLq (some 18) rfl rfl Try.func65 (by kernel_rfl) rfl #[.int .i64 t155, .int .i64 2, .int .i64 8] rfl ?_; (with_reducible refine (impl_within.calls t155 2 8 false _ A5.out).mono ?_); rintro e w' ⟨rfl, ⟨nd, rfl⟩⟩; refine ⟨_, rfl, ?_⟩))
   go_ret
   exact ⟨q_e, bq⟩
 ·replace c3 := Bool.eq_false_iff.mpr c3
  subst c3
  have H1 : (some 3) = some r := by rw [if_neg (show ¬ (false = true) by decide)] at H; exact H
  clear H
  have H := H1
  clear H1
  obtain rfl := Option.some.inj H
  go_enter Try.func93, Try.ntmps93
  go_wp2_with (first | ((with_reducible refine gate_dst (N := 1) rfl ?_); refine q_box (N := 1) (cs := #[.int .i64 a0_0, .slice A0_1 l0_1.length c0_1]) (t := 40) ?_; intro gb153 hg w41 hbox hb; have n0_ := am (below_step bq hb); have n1_ := am (hbox); have n2_ := am ((q_g hg bq : w.heap.size ≤ gb153)); have n3_ := n2_; revert n0_ n1_ n2_ n3_; clear HB; intro HB BK153 GW153 GE153; clear hb hbox hg; obtain ⟨hcz42_0, hcz42_1, hfz42_0, hfz42_1⟩ := q_2 BK153.out) | ((with_reducible refine gate_callee (f := 94) rfl ?_); refine goesLq (some 12) rfl rfl Try.func94 (by kernel_rfl) rfl #[.int .i64 a0_0] rfl ?_; (with_reducible refine (impl_isId.calls a0_0 false _ A2.out).mono ?_); rintro e w' ⟨rfl, ⟨nd, rfl⟩⟩; refine ⟨_, rfl, ?_⟩))
  go_ret
  exact ⟨q_e, bq⟩

end Go.Proofs.Ytanegggacfmkcaa.PFnExactSettleAll
