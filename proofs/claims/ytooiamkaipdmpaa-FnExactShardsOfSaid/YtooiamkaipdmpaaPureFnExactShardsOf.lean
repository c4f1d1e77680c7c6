/- FnExactShardsOf, the pure statement: the program's ShardsOf and the reference's tell the same of any contract; the argument is as it was, and the answer is new memory. No conditions. -/
import Derived.Test.YtooiamkaipdmpaaPFnExactShardsOfx10
import Derived.Test.YtooiamkaipdmpaaOFnExactShardsOf
namespace Go.Proofs.Ytooiamkaipdmpaa.Pure
open Go.RowKit Go.Proofs.Ytooiamkaipdmpaa.PFnExactShardsOf Go.Proofs.YtooiamkaipdmpaaW.PrintWords Go.Proofs.YtooiamkaipdmpaaW.PrintLast Go.Proofs.YtooiamkaipdmpaaW.PrintMore Go.Proofs.Ytooiamkaipdmpaa.Opens
set_option linter.unusedVariables false
set_option linter.unusedSimpArgs false
/-! ### words of this text's own -/
theorem w64 {x : Int} (h0 : -9223372036854775808 ≤ x) (h1 : x ≤ 9223372036854775807) : wrap64 x = x := by
  unfold wrap64
  omega
theorem wfU8 {x : Int} (h : (Lit.int .u8 x).wf = true) : 0 ≤ x ∧ x < 256 := by
  simp [Lit.wf, IntKind.min, IntKind.max, IntKind.signed, IntKind.bits] at h
  omega
theorem wfI64 {x : Int} (h : (Lit.int .i64 x).wf = true) : -9223372036854775808 ≤ x ∧ x ≤ 9223372036854775807 := by
  simp [Lit.wf, IntKind.min, IntKind.max, IntKind.signed, IntKind.bits] at h
  omega
section
variable {α β σ : Type}
theorem Ev.ite {g f : Nat → Option α} {c : Prop} [Decidable c] {r : α} (ht : c → Ev g r) (hf : ¬ c → Ev f r) : Ev (fun k => if c then g k else f k) r := by
  by_cases h : c
  · simp only [if_pos h]; exact ht h
  · simp only [if_neg h]; exact hf h
theorem Ev.pos {g f : Nat → Option α} {c : Prop} [Decidable c] {r : α} (h : c) (ht : Ev g r) : Ev (fun k => if c then g k else f k) r := Ev.ite (fun _ => ht) (fun n => absurd h n)
theorem Ev.neg {g f : Nat → Option α} {c : Prop} [Decidable c] {r : α} (h : ¬ c) (hf : Ev f r) : Ev (fun k => if c then g k else f k) r := Ev.ite (fun y => absurd y h) (fun _ => hf)
theorem Ev.cond {g f : Nat → Option α} {c : Prop} [Decidable c] {r s : α} (ht : c → Ev g r) (hf : ¬ c → Ev f s) : Ev (fun k => if c then g k else f k) (if c then r else s) := by
  by_cases h : c
  · simp only [if_pos h]; exact ht h
  · simp only [if_neg h]; exact hf h
theorem Ev.let {f : Nat → α → Option β} {a : α} {r : β} (k : Ev (fun n => f n a) r) : Ev (fun n => (some a).bind (f n)) r := Ev.bind (Ev.now a) k
theorem Ev.is {a : Option α} {r : α} (h : a = some r) : Ev (fun _ => a) r := ⟨0, fun _ _ => h⟩
theorem Ev.eq {g : Nat → Option α} {a b : α} (h : Ev g a) (e : a = b) : Ev g b := e ▸ h
/-- A loop that counts i up to n, with a state s: what it comes to, if 'P i s' leads from round to round. -/
theorem Ev.upto (F : Nat → σ → Int → Option α) (n : Int) (hn : n ≤ 9223372036854775807) (P : Int → σ → Prop) (R : α → Prop)
    (step : ∀ i s, 0 ≤ i → i < n → P i s → (∃ s', P (i + 1) s' ∧ ∀ r, Ev (fun k => F k s' (wrap64 (i + 1))) r → Ev (fun k => F k s i) r) ∨ (∃ r, R r ∧ Ev (fun k => F k s i) r))
    (stop : ∀ s, P n s → ∃ r, R r ∧ Ev (fun k => F k s n) r) (i : Int) (s : σ) (h0 : 0 ≤ i) (h1 : i ≤ n) (hP : P i s) : ∃ r, R r ∧ Ev (fun k => F k s i) r := by
  obtain ⟨d, hd⟩ : ∃ d : Nat, n - i = d := ⟨(n - i).toNat, by omega⟩
  induction d generalizing i s with
  | zero =>
    obtain rfl : i = n := by omega
    exact stop s hP
  | succ d ih =>
    rcases step i s h0 (by omega) hP with ⟨s', hP', h⟩ | h
    · obtain ⟨r, hr, he⟩ := ih (i + 1) s' (by omega) (by omega) hP' (by omega)
      exact ⟨r, hr, h r (by rw [w64 (by omega) (by omega)]; exact he)⟩
    · exact h
/-- The same, where what it comes to is one value. -/
theorem Ev.upto1 (F : Nat → σ → Int → Option α) (n : Int) (hn : n ≤ 9223372036854775807) (P : Int → σ → Prop) (r : α)
    (step : ∀ i s, 0 ≤ i → i < n → P i s → (∃ s', P (i + 1) s' ∧ (Ev (fun k => F k s' (wrap64 (i + 1))) r → Ev (fun k => F k s i) r)) ∨ Ev (fun k => F k s i) r)
    (stop : ∀ s, P n s → Ev (fun k => F k s n) r) (i : Int) (s : σ) (h0 : 0 ≤ i) (h1 : i ≤ n) (hP : P i s) : Ev (fun k => F k s i) r := by
  obtain ⟨d, hd⟩ : ∃ d : Nat, n - i = d := ⟨(n - i).toNat, by omega⟩
  induction d generalizing i s with
  | zero =>
    obtain rfl : i = n := by omega
    exact stop s hP
  | succ d ih =>
    rcases step i s h0 (by omega) hP with ⟨s', hP', h⟩ | h
    · exact h (by rw [w64 (by omega) (by omega)]; exact ih (i + 1) s' (by omega) (by omega) hP' (by omega))
    · exact h
theorem take_set_succ (l acc : List α) (i : Nat) (v : α) (h : i < acc.length) (ht : acc.take i = l.take i) (hv : l[i]? = some v) : (acc.set i v).take (i + 1) = l.take (i + 1) := by
  rw [List.take_add_one, List.take_add_one, hv, List.getElem?_set_self h, List.take_set_of_le (Nat.le_refl _), ht]
/-- A row filled cell by cell. -/
theorem Ev.fill (F : Nat → List α → Int → Option (List α)) (l : List α) (hl : l.length ≤ 9223372036854775807)
    (step : ∀ (i : Int) s (v : α), 0 ≤ i → i < (l.length : Int) → s.length = l.length → l[i.toNat]? = some v → Ev (fun k => F k (s.set i.toNat v) (wrap64 (i + 1))) l → Ev (fun k => F k s i) l)
    (stop : ∀ s, s.length = l.length → Ev (fun k => F k s (l.length : Int)) s) (s : List α) (hs : s.length = l.length) : Ev (fun k => F k s 0) l :=
  Ev.upto1 F l.length (by omega) (fun i s => s.length = l.length ∧ s.take i.toNat = l.take i.toNat) l
    (fun i s h0 h1 ⟨hs, ht⟩ => .inl ⟨s.set i.toNat (l[i.toNat]'(by omega)), ⟨by simp [hs], by
      rw [show (i + 1).toNat = i.toNat + 1 by omega]
      exact take_set_succ l s _ _ (by omega) ht (List.getElem?_eq_getElem (by omega))⟩, step i s _ h0 h1 hs (List.getElem?_eq_getElem (by omega))⟩)
    (fun s ⟨hs, ht⟩ => by
      rw [List.take_of_length_le (by omega), List.take_of_length_le (by omega)] at ht
      have := stop s hs
      subst ht
      exact this) 0 s (by omega) (by omega) ⟨hs, by simp⟩
/-- A loop that asks of each place, and comes to the end. -/
theorem Ev.each {F : Nat → Int → Option β} {r : β} (n : Nat) (hn : (n : Int) ≤ 9223372036854775807) (step : ∀ i : Int, 0 ≤ i → i < n → Ev (fun k => F k (wrap64 (i + 1))) r → Ev (fun k => F k i) r) (stop : Ev (fun k => F k (n : Int)) r) : Ev (fun k => F k 0) r :=
  Ev.upto1 (fun k (_ : Unit) i => F k i) n hn (fun _ _ => True) r (fun i _ h0 h1 _ => .inl ⟨(), trivial, step i h0 h1⟩) (fun _ _ => stop) 0 () (by omega) (by omega) trivial
end
theorem rd_get (l : List Int) (i : Int) (h0 : 0 ≤ i) (h1 : i < (l.length : Int)) : rd l i = l[i.toNat]'(by omega) := by
  unfold rd
  rw [List.getD_eq_getElem?_getD, List.getElem?_eq_getElem (by omega)]
  rfl
theorem rd_of {l : List Int} {i : Int} {v : Int} (h : l[i.toNat]? = some v) : rd l i = v := by
  unfold rd
  rw [List.getD_eq_getElem?_getD, h]
  rfl
theorem drop_cons_at {α : Type} (l : List α) (i : Nat) (h : i < l.length) : l.drop i = l[i] :: l.drop (i + 1) := List.drop_eq_getElem_cons h
/-- What is left of a bound behind a list, or less than nothing. -/
def szRest (n : Nat) (left : Int) : Int := if left - n < 0 then -1 else left - n
theorem szRest_ok {n : Nat} {left : Int} (h0 : left ≤ 1048576) (h1 : ¬ szRest n left < 0) : (n : Int) ≤ left ∧ szRest n left = left - n := by
  unfold szRest at *
  by_cases h : left - n < 0
  · rw [if_pos h] at h1; omega
  · rw [if_neg h]; exact ⟨by omega, rfl⟩

theorem szLegS_eq (l : List S119) (hl : l.length ≤ maxLen) (left : Int) (h0 : 0 ≤ left) (h1 : left ≤ 1048576) : laws_szLegS.f l left = some (szRest l.length left) := by
  unfold maxLen at hl
  unfold laws_szLegS.f szRest
  rw [w64 (by omega) (by omega)]
  split <;> rfl
theorem szContract_eq (id : Int) (l : List S119) (hl : l.length ≤ maxLen) (left : Int) (h0 : 0 ≤ left) (h1 : left ≤ 1048576) : laws_szContract.f id l left = some (szRest l.length left) := by
  unfold laws_szContract.f
  rw [szLegS_eq l hl left h0 h1]
  simp only [Option.bind_some]
  split
  · next h => unfold szRest at *; split at h <;> simp_all <;> omega
  · rfl

theorem rdLeg {l : List S89} {i : Int} {v : S89} (h : l[i.toNat]? = some v) : rd_T89 l i = v := by
  unfold rd_T89
  rw [List.getD_eq_getElem?_getD, h]
  rfl
theorem rdLegL {l : List S119} {i : Int} {v : S119} (h : l[i.toNat]? = some v) : rd_T119 l i = v := by
  unfold rd_T119
  rw [List.getD_eq_getElem?_getD, h]
  rfl
theorem rdLeg_at (l : List S89) (i : Int) (h0 : 0 ≤ i) (h1 : i < (l.length : Int)) : rd_T89 l i = l[i.toNat]'(by omega) := rdLeg (List.getElem?_eq_getElem (by omega))

/-- What the law's mirror of a Leg stands for. -/
def legOf (x : S119) : S89 := ⟨x.f0, x.f1, x.f2, x.f3⟩
theorem toLegS_ev (l : List S119) (hl : l.length ≤ 1048576) : Ev (fun k => laws_toLegS.f k l) (l.map legOf) := by
  unfold laws_toLegS.f
  refine Ev.pos (by omega) (Ev.pos (by omega) ?_)
  refine Ev.fill (fun k s i => laws_toLegS.l0 k l s i) (l.map legOf) (by simp; omega)
    (fun i s v h0 h1 hs hv h => ?_)
    (fun s hs => Ev.step (fun k => laws_toLegS.l0.eq_2 ..) (Ev.neg (by simp) (Ev.now _))) _ (by simp)
  rw [List.length_map] at h1 hs
  rw [List.getElem?_map] at hv
  obtain ⟨w, hw, rfl⟩ := Option.map_eq_some_iff.1 hv
  refine Ev.step (fun k => laws_toLegS.l0.eq_2 ..) (Ev.pos h1 (Ev.pos h0 ?_))
  rw [rdLegL hw]
  exact Ev.let (Ev.pos (by omega) h)

theorem toContract_ev (id : Int) (l : List S119) (hl : l.length ≤ 1048576) : Ev (fun k => laws_toContract.f k id l) (id, l.map legOf) := by
  unfold laws_toContract.f
  exact Ev.bind (toLegS_ev l hl) (Ev.now _)

theorem eqLeg_rfl (a0 : Int) (a1 : Int) (a2 : Int) (a3 : Int) : laws_eqLeg.f a0 a1 a2 a3 a0 a1 a2 a3 = some true := by
  unfold laws_eqLeg.f
  simp
theorem eqLegS_ev (l : List S89) (hl : (l.length : Int) ≤ 9223372036854775807) : Ev (fun k => laws_eqLegS.f k l l) true := by
  unfold laws_eqLegS.f
  refine Ev.pos rfl ?_
  refine Ev.each (F := fun k i => laws_eqLegS.l0 k l l i) l.length hl (fun i h0 h1 h => Ev.step (fun k => laws_eqLegS.l0.eq_2 ..) (Ev.pos h1 (Ev.pos h0 (Ev.pos h1 ?_)))) (Ev.step (fun k => laws_eqLegS.l0.eq_2 ..) (Ev.neg (by omega) (Ev.now _)))
  simp only [eqLeg_rfl]
  exact Ev.let (Ev.pos rfl h)

theorem eqContract_ev (id : Int) (l : List S89) (hl : (l.length : Int) ≤ 9223372036854775807) : Ev (fun k => laws_eqContract.f k id l id l) true := by
  unfold laws_eqContract.f
  exact Ev.pos rfl (Ev.bind (eqLegS_ev l hl) (Ev.pos rfl (Ev.now _)))

/-- What LegFault tells of a leg. -/
def legFault (s a t m : Int) : Int := if 0 ≤ s ∧ s ≤ 2 ∧ 0 ≤ a ∧ a ≤ 5 ∧ 0 ≤ t ∧ t ≤ 2 ∧ -1000000000000 ≤ m ∧ m ≤ 1000000000000 then (if m = 0 then 1 else 0) else 3
theorem spec_LegFault_ev (s a t m : Int) : Ev (fun k => spec_LegFault.f k s a t m) (legFault s a t m) := by
  refine ⟨1, fun k hk => ?_⟩
  obtain ⟨k, rfl⟩ : ∃ j, k = j + 1 := ⟨k - 1, by omega⟩
  unfold spec_LegFault.f spec_l1In.f legFault
  by_cases h1 : 0 ≤ s <;> by_cases h2 : s ≤ 2 <;> by_cases h3 : 0 ≤ a <;> by_cases h4 : a ≤ 5 <;> by_cases h5 : 0 ≤ t <;> by_cases h6 : t ≤ 2 <;> by_cases h7 : -1000000000000 ≤ m <;> by_cases h8 : m ≤ 1000000000000 <;> by_cases h9 : m = 0 <;> simp [h1, h2, h3, h4, h5, h6, h7, h8, h9, spec_LegFault.j0]
theorem impl_LegFault_ev (s a t m : Int) : Ev (fun k => impl_LegFault.f k s a t m) (legFault s a t m) := by
  refine ⟨1, fun k hk => ?_⟩
  obtain ⟨k, rfl⟩ : ∃ j, k = j + 1 := ⟨k - 1, by omega⟩
  unfold impl_LegFault.f impl_isShard.f impl_isPlace.f impl_isAsset.f impl_within.f legFault
  by_cases h1 : 0 ≤ s <;> by_cases h2 : s ≤ 2 <;> by_cases h3 : 0 ≤ a <;> by_cases h4 : a ≤ 5 <;> by_cases h5 : 0 ≤ t <;> by_cases h6 : t ≤ 2 <;> by_cases h7 : -1000000000000 ≤ m <;> by_cases h8 : m ≤ 1000000000000 <;> by_cases h9 : m = 0 <;> simp [h1, h2, h3, h4, h5, h6, h7, h8, h9, impl_LegFault.j0]

theorem within_eq (x a b : Int) : impl_within.f x a b = some (decide (a ≤ x ∧ x ≤ b)) := by
  unfold impl_within.f
  by_cases h1 : a ≤ x <;> simp [h1]

theorem l1In_eq (x a b : Int) : spec_l1In.f x a b = some (decide (a ≤ x ∧ x ≤ b)) := by
  unfold spec_l1In.f
  by_cases h1 : a ≤ x <;> simp [h1]

theorem containsLeg_ev [FN_slices_IndexFunc_impl_Leg] (q : S89 → Bool) (hq : ∀ x : S89, FN_slices_IndexFunc_impl_Leg.f x.f0 x.f1 x.f2 x.f3 = some (q x)) (l : List S89) (hl : l.length ≤ 1000000) : Ev (fun k => slices_ContainsFunc_impl_Leg.f k l) (l.any q) := by
  unfold slices_ContainsFunc_impl_Leg.f slices_IndexFunc_impl_Leg.f
  obtain ⟨r, hr, he⟩ := Ev.upto (fun k (_ : Unit) i => slices_IndexFunc_impl_Leg.l0 k l (l.length : Int) i) l.length (by omega) (fun i _ => (l.drop i.toNat).any q = l.any q) (fun r => r ≥ 0 ↔ l.any q = true)
    (fun i _ h0 h1 hp => by
      have hr := rdLeg_at l i h0 h1
      rw [drop_cons_at l i.toNat (by omega), List.any_cons] at hp
      generalize l[i.toNat]'(by omega) = x at hr hp
      by_cases hx : q x = true
      · rw [hx, Bool.true_or] at hp
        refine .inr ⟨i, ⟨fun _ => hp.symm, fun _ => h0⟩, Ev.step (fun k => slices_IndexFunc_impl_Leg.l0.eq_2 ..) (Ev.pos h1 (Ev.pos h0 (Ev.pos h1 ?_)))⟩
        rw [hr]
        exact Ev.bind (Ev.is (hq x)) (Ev.pos hx (Ev.now _))
      · have hf : q x = false := by simpa using hx
        rw [hf, Bool.false_or] at hp
        refine .inl ⟨(), by rw [show (i + 1).toNat = i.toNat + 1 by omega]; exact hp, fun r h => Ev.step (fun k => slices_IndexFunc_impl_Leg.l0.eq_2 ..) (Ev.pos h1 (Ev.pos h0 (Ev.pos h1 ?_)))⟩
        rw [hr]
        exact Ev.bind (Ev.is (hq x)) (Ev.neg hx h))
    (fun _ hp => ⟨-1, by rw [← hp, List.drop_eq_nil_of_le (by omega)]; simp, Ev.step (fun k => slices_IndexFunc_impl_Leg.l0.eq_2 ..) (Ev.neg (by omega) (Ev.now _))⟩)
    0 () (by omega) (by omega) rfl
  refine Ev.bind he (Ev.eq (Ev.now _) ?_)
  rw [Bool.eq_iff_iff, decide_eq_true_iff]
  exact hr
/-- Are two legs of one place? -/
def sameP (x w : S89) : Bool := (x.f0 == w.f0 && x.f1 == w.f1) && x.f2 == w.f2
theorem samePlace_eq (x w : S89) : (impl_samePlace.f x.f0 x.f1 x.f2 x.f3 w.f0 w.f1 w.f2 w.f3 == some true) = sameP x w := by
  unfold impl_samePlace.f sameP
  by_cases h0 : x.f0 = w.f0 <;> by_cases h1 : x.f1 = w.f1 <;> by_cases h2 : x.f2 = w.f2 <;> simp [h0, h1, h2]
def placeIn (l : List S89) (i : Int) (w : S89) : Bool := (l.take i.toNat).any fun x => sameP x w
def finCode (l : List S89) : Int := if ∀ g ∈ l, sumA g.f2 l = 0 then 0 else 1
theorem fin_eq (l : List S89) : impl_ContractFault.fin l = some (finCode l) := by
  unfold impl_ContractFault.fin finCode
  split <;> rfl
/-- What ContractFault tells of the last d legs. -/
def contractFrom (l : List S89) : Nat → Int
  | 0 => finCode l
  | d + 1 => (fun i : Int => (fun x : S89 => if legFault x.f0 x.f1 x.f2 x.f3 = 0 then (if placeIn l i x = true then 7 else contractFrom l d) else legFault x.f0 x.f1 x.f2 x.f3) (rd_T89 l i)) ((l.length : Int) - (d + 1))
def contractFault (id : Int) (l : List S89) : Int := if 1 ≤ id ∧ id ≤ 1000000000 then (if 2 ≤ (l.length : Int) ∧ (l.length : Int) ≤ 8 then contractFrom l l.length else 2) else 3
theorem impl_isId_eq (id : Int) : impl_isId.f id = some (decide (1 ≤ id ∧ id ≤ 1000000000)) := by
  unfold impl_isId.f
  rw [within_eq]
  rfl
theorem impl_ContractFault_ev (id : Int) (l : List S89) : Ev (fun k => impl_ContractFault.f k id l) (contractFault id l) := by
  unfold impl_ContractFault.f impl_size_impl_Leg.f contractFault
  refine Ev.bind (Ev.is (impl_isId_eq id)) ?_
  by_cases hid : 1 ≤ id ∧ id ≤ 1000000000
  · rw [if_pos hid]
    refine Ev.pos (decide_eq_true hid) (Ev.let (Ev.bind (Ev.is (within_eq _ _ _)) ?_))
    by_cases hl : 2 ≤ (l.length : Int) ∧ (l.length : Int) ≤ 8
    · rw [if_pos hl]
      refine Ev.pos (decide_eq_true hl) ?_
      have go : ∀ d : Nat, d ≤ l.length → Ev (fun k => impl_ContractFault.l0 k l (l.length : Int) ((l.length : Int) - d) id l) (contractFrom l d) := by
        intro d
        induction d with
        | zero => intro _; exact Ev.step (fun k => impl_ContractFault.l0.eq_2 ..) (Ev.neg (by omega) (Ev.is (fin_eq l)))
        | succ d ih =>
          intro hd
          have h := ih (by omega)
          refine Ev.step (fun k => impl_ContractFault.l0.eq_2 ..) (Ev.pos (by omega) (Ev.pos (by omega) (Ev.pos (by omega) (Ev.bind (impl_LegFault_ev ..) ?_))))
          rw [w64 (x := (l.length : Int) - ((d + 1 : Nat) : Int) + 1) (by omega) (by omega), show (l.length : Int) - ((d + 1 : Nat) : Int) + 1 = (l.length : Int) - d by omega]
          rw [show ((d + 1 : Nat) : Int) = (d : Int) + 1 by omega]
          unfold contractFrom
          refine Ev.cond (fun _ => Ev.pos (by omega) (Ev.bind ?_ (Ev.cond (fun _ => Ev.now _) (fun _ => h)))) (fun _ => Ev.now _)
          unfold CL_77.f
          exact @containsLeg_ev (CL_77.p _ _ _ _) (fun x => sameP x (rd_T89 l ((l.length : Int) - ((d : Int) + 1)))) (fun x => congrArg some (samePlace_eq x _)) _ (by rw [List.length_take]; omega)
      have := go l.length (by omega)
      rw [show (l.length : Int) - (l.length : Nat) = 0 by omega] at this
      exact this
    · rw [if_neg hl]
      exact Ev.neg (fun h => hl (of_decide_eq_true h)) (Ev.now _)
  · rw [if_neg hid]
    exact Ev.neg (fun h => hid (of_decide_eq_true h)) (Ev.now _)
theorem legFault_asset {s a t m : Int} (h : legFault s a t m = 0) : 0 ≤ t ∧ t ≤ 2 := by
  unfold legFault at h
  split at h
  · next hh => exact ⟨hh.2.2.2.2.1, hh.2.2.2.2.2.1⟩
  · omega
/-- The reference's sums. -/
structure SumsAre (x3 : List Int) (l : List S89) (i : Int) : Prop where
  three : x3.length = 3
  is : ∀ a : Int, 0 ≤ a → a ≤ 2 → rd x3 a = sumA a (l.take i.toNat)
  low : ∀ g ∈ l.take i.toNat, 0 ≤ g.f2 ∧ g.f2 ≤ 2
theorem rd_set (l : List Int) (a b v : Int) (ha : 0 ≤ a) (hb : 0 ≤ b) (hl : b < (l.length : Int)) : rd (l.set b.toNat v) a = if a = b then v else rd l a := by
  unfold rd
  rw [List.getD_eq_getElem?_getD, List.getD_eq_getElem?_getD, List.getElem?_set]
  by_cases h : a = b
  · subst h
    rw [if_pos rfl, if_pos rfl, if_pos (by omega)]
    rfl
  · rw [if_neg h, if_neg (by omega)]
theorem take_succ_at (l : List S89) (i : Int) (h0 : 0 ≤ i) (h1 : i < (l.length : Int)) : l.take (i + 1).toNat = l.take i.toNat ++ [rd_T89 l i] := by
  rw [show (i + 1).toNat = i.toNat + 1 by omega, List.take_add_one, List.getElem?_eq_getElem (show i.toNat < l.length by omega), rdLeg_at l i h0 h1]
  rfl
theorem sums_end (x3 : List Int) (l : List S89) (h : SumsAre x3 l (l.length : Int)) : Ev (fun k => spec_ContractFault.l2 k x3 0) (finCode l) := by
  have hall : l.take ((l.length : Int)).toNat = l := List.take_of_length_le (by omega)
  have his := h.is
  have hlow := h.low
  have h3 := h.three
  rw [hall] at his hlow
  refine Ev.upto1 (fun k (_ : Unit) i => spec_ContractFault.l2 k x3 i) 3 (by omega) (fun i _ => ∀ a : Int, 0 ≤ a → a < i → sumA a l = 0) (finCode l) (fun i _ h0 h1 hp => ?_) (fun _ hp => ?_) 0 () (by omega) (by omega) (fun a h0 h1 => by omega)
  · have hi := his i h0 (by omega)
    by_cases hz : rd x3 i = 0
    · refine .inl ⟨(), fun a a0 a1 => ?_, fun hh => Ev.step (fun k => spec_ContractFault.l2.eq_2 ..) (Ev.pos (by omega) (Ev.pos h0 (Ev.pos hz hh)))⟩
      by_cases ha : a = i
      · rw [ha, ← hi, hz]
      · exact hp a a0 (by omega)
    · have hf : finCode l = 1 := if_neg (fun hh => by
        obtain ⟨g, hg, hgi⟩ := sumA_mem (a := i) (l := l) (by rw [← hi]; exact hz)
        apply hz
        rw [hi, ← hgi]
        exact hh g hg)
      rw [hf]
      exact .inr (Ev.step (fun k => spec_ContractFault.l2.eq_2 ..) (Ev.pos (by omega) (Ev.pos h0 (Ev.neg hz (Ev.now _)))))
  · have hf : finCode l = 0 := by
      unfold finCode
      exact if_pos (fun (g : S89) hg => hp g.f2 (hlow g hg).1 (by have := (hlow g hg).2; omega))
    rw [hf]
    exact Ev.step (fun k => spec_ContractFault.l2.eq_2 ..) (Ev.neg (by omega) (Ev.now _))
theorem spec_legs_ev (id : Int) (l : List S89) (hl : (l.length : Int) ≤ 8) : ∀ d : Nat, d ≤ l.length → ∀ x3, SumsAre x3 l ((l.length : Int) - d) → Ev (fun k => spec_ContractFault.l0 k x3 ((l.length : Int) - d) id l) (contractFrom l d) := by
  intro d
  induction d with
  | zero =>
    intro _ x3 hs
    refine Ev.step (fun k => spec_ContractFault.l0.eq_2 ..) (Ev.neg (by omega) ?_)
    rw [show (l.length : Int) - ((0 : Nat) : Int) = (l.length : Int) by omega] at hs
    exact sums_end x3 l hs
  | succ d ih =>
    intro hd x3 hs
    refine Ev.step (fun k => spec_ContractFault.l0.eq_2 ..) (Ev.pos (by omega) (Ev.pos (by omega) (Ev.bind (spec_LegFault_ev ..) ?_)))
    rw [show ((d + 1 : Nat) : Int) = (d : Int) + 1 by omega] at hs ⊢
    unfold contractFrom
    refine Ev.cond (fun hz => ?_) (fun _ => Ev.now _)
    have hlow := legFault_asset hz
    clear hz
    have hi : (l.length : Int) - ((d : Int) + 1) + 1 = (l.length : Int) - d := by omega
    have h0 : 0 ≤ (l.length : Int) - ((d : Int) + 1) := by omega
    have h1 : (l.length : Int) - ((d : Int) + 1) < (l.length : Int) := by omega
    generalize (l.length : Int) - ((d : Int) + 1) = i at hi h0 h1 hs hlow ⊢
    have hst := sumA_take
    have htk := take_succ_at l i h0 h1
    have hsum : ∀ a, sumA a (l.take (i + 1).toNat) = if a = (rd_T89 l i).f2 then wrap64 (sumA a (l.take i.toNat) + (rd_T89 l i).f3) else sumA a (l.take i.toNat) := fun a => sumA_take a l i h0 h1
    generalize rd_T89 l i = w at hlow htk hsum ⊢
    have hlen : (l.take i.toNat).length = i.toNat := by rw [List.length_take]; omega
    refine Ev.upto1 (fun k (_ : Unit) j => spec_ContractFault.l1 k x3 i j id l w.f0 w.f1 w.f2 w.f3) i (by omega) (fun j _ => ((l.take i.toNat).drop j.toNat).any (fun x => sameP x w) = placeIn l i w) (if placeIn l i w = true then 7 else contractFrom l d)
      (fun j _ j0 j1 hp => ?_) (fun _ hp => ?_) 0 () (by omega) (by omega) (by simp [placeIn])
    · have hr := rdLeg_at l j j0 (by omega)
      have e : (l.take i.toNat)[j.toNat]'(by omega) = l[j.toNat]'(by omega) := by simp
      rw [drop_cons_at (l.take i.toNat) j.toNat (by omega), List.any_cons, e] at hp
      generalize l[j.toNat]'(by omega) = x at hr hp
      by_cases hx : sameP x w = true
      · have hk : placeIn l i w = true := by rw [← hp, hx]; rfl
        rw [hk, if_pos rfl]
        unfold sameP at hx
        rw [Bool.and_eq_true, Bool.and_eq_true, beq_iff_eq, beq_iff_eq, beq_iff_eq] at hx
        refine .inr (Ev.step (fun k => spec_ContractFault.l1.eq_2 ..) (Ev.pos j1 (Ev.pos j0 (Ev.pos (by omega) ?_))))
        rw [hr]
        exact Ev.pos hx.1.1 (Ev.pos hx.1.2 (Ev.pos hx.2 (Ev.now _)))
      · have hb : sameP x w = false := by simpa using hx
        rw [hb, Bool.false_or] at hp
        refine .inl ⟨(), by rw [show (j + 1).toNat = j.toNat + 1 by omega]; exact hp, fun hh => Ev.step (fun k => spec_ContractFault.l1.eq_2 ..) (Ev.pos j1 (Ev.pos j0 (Ev.pos (by omega) ?_)))⟩
        rw [hr]
        refine Ev.ite (fun e0 => Ev.ite (fun e1 => Ev.neg (fun e2 => hx ?_) hh) (fun _ => hh)) (fun _ => hh)
        unfold sameP
        simp [e0, e1, e2]
    · rw [List.drop_eq_nil_of_le (by omega)] at hp
      have hk : placeIn l i w = false := by rw [← hp]; rfl
      rw [hk, if_neg (by simp)]
      have h3 := hs.three
      refine Ev.step (fun k => spec_ContractFault.l1.eq_2 ..) (Ev.neg (by omega) (Ev.pos hlow.1 (Ev.pos (by omega) ?_)))
      rw [w64 (x := i + 1) (by omega) (by omega), hi]
      refine ih (by omega) _ ⟨by rw [List.length_set]; exact h3, fun a a0 a1 => ?_, ?_⟩
      · rw [rd_set x3 a w.f2 _ a0 hlow.1 (by omega), ← hi, hsum a, hs.is w.f2 hlow.1 hlow.2]
        by_cases ha : a = w.f2
        · rw [if_pos ha, if_pos ha, ha]
        · rw [if_neg ha, if_neg ha, hs.is a a0 a1]
      · rw [← hi, htk]
        intro g hg
        rcases List.mem_append.mp hg with hg | hg
        · exact hs.low g hg
        · rw [List.mem_singleton.mp hg]
          exact hlow
theorem spec_l1Id_eq (id : Int) : spec_l1Id.f id = some (decide (1 ≤ id ∧ id ≤ 1000000000)) := by
  unfold spec_l1Id.f
  rw [l1In_eq]
  rfl
theorem spec_ContractFault_ev (id : Int) (l : List S89) : Ev (fun k => spec_ContractFault.f k id l) (contractFault id l) := by
  unfold spec_ContractFault.f contractFault
  refine Ev.bind (Ev.is (spec_l1Id_eq id)) ?_
  by_cases hid : 1 ≤ id ∧ id ≤ 1000000000
  · rw [if_pos hid]
    refine Ev.pos (decide_eq_true hid) ?_
    by_cases hl : 2 ≤ (l.length : Int) ∧ (l.length : Int) ≤ 8
    · rw [if_pos hl]
      refine Ev.neg (by omega) (Ev.step (fun k => spec_ContractFault.j0.eq_2 ..) (Ev.neg (by simp only [decide_eq_true_eq]; omega) (Ev.pos (by omega) ?_)))
      have := spec_legs_ev id l hl.2 l.length (by omega) (List.replicate 3 0) ⟨rfl, fun a a0 a1 => by
        have : a = 0 ∨ a = 1 ∨ a = 2 := by omega
        rw [show (l.length : Int) - (l.length : Nat) = 0 by omega]
        rcases this with rfl | rfl | rfl <;> rfl, fun g hg => by
        rw [show (l.length : Int) - (l.length : Nat) = 0 by omega] at hg
        exact absurd hg (by simp)⟩
      rw [show (l.length : Int) - (l.length : Nat) = 0 by omega] at this
      exact this
    · rw [if_neg hl]
      by_cases h1 : (l.length : Int) < 2
      · exact Ev.pos h1 (Ev.step (fun k => spec_ContractFault.j0.eq_2 ..) (Ev.pos rfl (Ev.now _)))
      · exact Ev.neg h1 (Ev.step (fun k => spec_ContractFault.j0.eq_2 ..) (Ev.pos (by simp only [decide_eq_true_eq]; omega) (Ev.now _)))
  · rw [if_neg hid]
    exact Ev.neg (fun h => hid (of_decide_eq_true h)) (Ev.now _)

/-- Does a row hold a number? -/
def Has (l : List Int) (v : Int) : Prop := ∃ p : Int, 0 ≤ p ∧ p < (l.length : Int) ∧ rd l p = v
theorem has_mem (l : List Int) (v : Int) : Has l v ↔ v ∈ l := by
  constructor
  · rintro ⟨p, h0, h1, rfl⟩
    rw [rd_get l p h0 h1]
    exact List.getElem_mem _
  · intro h
    obtain ⟨i, hi, rfl⟩ := List.getElem_of_mem h
    exact ⟨(i : Int), by omega, by omega, by rw [rd_get l (i : Int) (by omega) (by omega)]; rfl⟩
/-- The first n are rising. -/
def Rises (l : List Int) (n : Int) : Prop := ∀ p q : Int, 0 ≤ p → p < q → q < n → rd l p ≤ rd l q
/-- All but the one at j are rising, up to i; what is behind j is not below it. -/
structure Sinks (l : List Int) (i j : Int) : Prop where
  rest : ∀ p q : Int, 0 ≤ p → p < q → q ≤ i → p ≠ j → q ≠ j → rd l p ≤ rd l q
  up : ∀ q : Int, j < q → q ≤ i → rd l j ≤ rd l q
theorem rd_two (l : List Int) (a j u v : Int) (ha : 0 ≤ a) (hj : 0 < j) (hl : j < (l.length : Int)) : rd ((l.set j.toNat u).set (j - 1).toNat v) a = if a = j - 1 then v else if a = j then u else rd l a := by
  rw [rd_set _ a (j - 1) v ha (by omega) (by rw [List.length_set]; omega), rd_set l a j u ha (by omega) hl]
theorem sort_down_ev (s : List Int) (hs : s.length ≤ 8) (i : Int) (hi0 : 0 ≤ i) (hi : i < (s.length : Int)) (R : List Int → Prop)
    (next : ∀ x : List Int, x.length = s.length → (∀ v, Has x v ↔ Has s v) → Rises x (i + 1) → ∃ t, R t ∧ Ev (fun k => slices_insertionSortOrdered_int64.l0 k x 0 (s.length : Int) (i + 1)) t) :
    ∀ (d : Nat) (x : List Int), (d : Int) ≤ i → x.length = s.length → (∀ v, Has x v ↔ Has s v) → Sinks x i d → ∃ t, R t ∧ Ev (fun k => slices_insertionSortOrdered_int64.l1 k x 0 (s.length : Int) i (d : Int)) t := by
  intro d
  induction d with
  | zero =>
    intro x _ hl hv hk
    obtain ⟨t, ht, he⟩ := next x hl hv (fun p q p0 pq q1 => by
      by_cases hp : p = 0
      · rw [hp]
        exact hk.up q (by show (0 : Int) < q; omega) (by omega)
      · exact hk.rest p q p0 pq (by omega) (by show p ≠ (0 : Int); omega) (by show q ≠ (0 : Int); omega))
    refine ⟨t, ht, Ev.step (fun k => slices_insertionSortOrdered_int64.l1.eq_2 ..) (Ev.neg (by omega) ?_)⟩
    rw [w64 (x := i + 1) (by omega) (by omega)]
    exact he
  | succ d ih =>
    intro x hd hl hv hk
    obtain ⟨j, hj⟩ : ∃ j : Int, ((d + 1 : Nat) : Int) = j := ⟨_, rfl⟩
    rw [hj] at hd hk ⊢
    have hdj : ((d : Nat) : Int) = j - 1 := by omega
    have w1 : wrap64 (j - 1) = j - 1 := w64 (by omega) (by omega)
    by_cases hlt : rd x j < rd x (j - 1)
    · obtain ⟨x', hx'⟩ : ∃ x' : List Int, x' = (x.set j.toNat (rd x (j - 1))).set (j - 1).toNat (rd x j) := ⟨_, rfl⟩
      have hr : ∀ a : Int, 0 ≤ a → rd x' a = if a = j - 1 then rd x j else if a = j then rd x (j - 1) else rd x a := fun a ha => by rw [hx']; exact rd_two x a j _ _ ha (by omega) (by omega)
      have hl' : x'.length = s.length := by rw [hx', List.length_set, List.length_set, hl]
      have hrj : rd x' j = rd x (j - 1) := by rw [hr j (by omega), if_neg (by omega), if_pos rfl]
      have hrj1 : rd x' (j - 1) = rd x j := by rw [hr (j - 1) (by omega), if_pos rfl]
      have hro : ∀ a : Int, 0 ≤ a → a ≠ j → a ≠ j - 1 → rd x' a = rd x a := fun a ha h1 h2 => by rw [hr a ha, if_neg h2, if_neg h1]
      have hv' : ∀ v, Has x' v ↔ Has s v := fun v => by
        rw [← hv v]
        constructor
        · rintro ⟨p, p0, p1, rfl⟩
          by_cases h1 : p = j
          · exact ⟨j - 1, by omega, by omega, by rw [h1, hrj]⟩
          · by_cases h2 : p = j - 1
            · exact ⟨j, by omega, by omega, by rw [h2, hrj1]⟩
            · exact ⟨p, p0, by omega, (hro p p0 h1 h2).symm⟩
        · rintro ⟨p, p0, p1, rfl⟩
          by_cases h1 : p = j
          · exact ⟨j - 1, by omega, by omega, by rw [h1, hrj1]⟩
          · by_cases h2 : p = j - 1
            · exact ⟨j, by omega, by omega, by rw [h2, hrj]⟩
            · exact ⟨p, p0, by omega, hro p p0 h1 h2⟩
      have hk' : Sinks x' i (d : Int) := by
        rw [hdj]
        refine ⟨fun p q p0 pq q1 hp hq => ?_, fun q hq q1 => ?_⟩
        · by_cases h1 : q = j
          · rw [h1, hrj, hro p p0 (by omega) hp]
            exact hk.rest p (j - 1) p0 (by omega) (by omega) (by omega) (by omega)
          · by_cases h2 : p = j
            · rw [h2, hrj, hro q (by omega) h1 hq]
              exact hk.rest (j - 1) q (by omega) (by omega) q1 (by omega) h1
            · rw [hro p p0 h2 hp, hro q (by omega) h1 hq]
              exact hk.rest p q p0 pq q1 h2 h1
        · rw [hrj1]
          by_cases h1 : q = j
          · rw [h1, hrj]
            omega
          · rw [hro q (by omega) h1 (by omega)]
            exact hk.up q (by omega) q1
      obtain ⟨t, ht, he⟩ := ih x' (by omega) hl' hv' hk'
      refine ⟨t, ht, Ev.step (fun k => slices_insertionSortOrdered_int64.l1.eq_2 ..) (Ev.pos (by omega) (Ev.pos (by omega) (Ev.pos (by omega) ?_)))⟩
      rw [w1, ← hx', ← hdj]
      exact Ev.pos (by omega) (Ev.pos (by omega) (Ev.bind (a := true) (Ev.is (by unfold cmp_Less_int64.f cmp_isNaN_int64.f; rw [hdj]; simp [hlt])) (Ev.pos rfl he)))
    · obtain ⟨t, ht, he⟩ := next x hl hv (fun p q p0 pq q1 => by
        by_cases h1 : p = j
        · rw [h1]
          exact hk.up q (by omega) (by omega)
        · by_cases h2 : q = j
          · rw [h2]
            by_cases h3 : p = j - 1
            · rw [h3]
              omega
            · have := hk.rest p (j - 1) p0 (by omega) (by omega) h1 (by omega)
              omega
          · exact hk.rest p q p0 pq (by omega) h1 h2)
      refine ⟨t, ht, Ev.step (fun k => slices_insertionSortOrdered_int64.l1.eq_2 ..) (Ev.pos (by omega) (Ev.pos (by omega) (Ev.pos (by omega) ?_)))⟩
      rw [w1, w64 (x := i + 1) (by omega) (by omega)]
      exact Ev.pos (by omega) (Ev.pos (by omega) (Ev.bind (a := false) (Ev.is (by unfold cmp_Less_int64.f cmp_isNaN_int64.f; simp [hlt])) (Ev.neg (by simp) he)))
theorem sort_ev (s : List Int) (hs : s.length ≤ 8) : ∃ t : List Int, (t.length = s.length ∧ (∀ v, Has t v ↔ Has s v) ∧ Rises t (s.length : Int)) ∧ Ev (fun k => slices_Sort_int64.f k s) t := by
  have go : ∀ (d : Nat) (x : List Int) (i : Int), i = (s.length : Int) - d → 1 ≤ i → x.length = s.length → (∀ v, Has x v ↔ Has s v) → Rises x i → ∃ t : List Int, (t.length = s.length ∧ (∀ v, Has t v ↔ Has s v) ∧ Rises t (s.length : Int)) ∧ Ev (fun k => slices_insertionSortOrdered_int64.l0 k x 0 (s.length : Int) i) t := by
    intro d
    induction d with
    | zero =>
      intro x i hi _ hl hv hk
      have hi : i = (s.length : Int) := by omega
      subst hi
      exact ⟨x, ⟨hl, hv, hk⟩, Ev.step (fun k => slices_insertionSortOrdered_int64.l0.eq_2 ..) (Ev.neg (by omega) (Ev.now _))⟩
    | succ d ih =>
      intro x i hi h1 hl hv hk
      obtain ⟨t, ht, he⟩ := sort_down_ev s hs i (by omega) (by omega) (fun t => t.length = s.length ∧ (∀ v, Has t v ↔ Has s v) ∧ Rises t (s.length : Int)) (fun y hyl hyv hyk => ih y (i + 1) (by omega) (by omega) hyl hyv hyk) i.toNat x (by omega) hl hv
        ⟨fun p q p0 pq q1 hp hq => hk p q p0 pq (by omega), fun q hq q1 => by omega⟩
      rw [show ((i.toNat : Nat) : Int) = i by omega] at he
      exact ⟨t, ht, Ev.step (fun k => slices_insertionSortOrdered_int64.l0.eq_2 ..) (Ev.pos (by omega) he)⟩
  have hu : IntKind.u64.wrap ((s.length : Int)) = (s.length : Int) := by
    show (s.length : Int) % 18446744073709551616 = _
    omega
  have hlen : ∃ n, bits_Len.f (s.length : Int) = some n := by
    unfold bits_Len.f bits_Len64.f
    rw [if_pos (by omega)]
    exact ⟨_, rfl⟩
  obtain ⟨n, hn⟩ := hlen
  by_cases h0 : s.length = 0
  · refine ⟨s, ⟨rfl, fun _ => Iff.rfl, fun p q p0 pq q1 => by omega⟩, ?_⟩
    unfold slices_Sort_int64.f slices_pdqsortOrdered_int64.f
    rw [hu]
    refine Ev.bind (Ev.is hn) (Ev.bind (a := s) (Ev.step (fun k => slices_pdqsortOrdered_int64.l0.eq_2 ..) ?_) (Ev.now _))
    rw [w64 (x := (s.length : Int) - 0) (by omega) (by omega)]
    refine Ev.pos (by omega) (Ev.bind (a := s) ?_ (Ev.now _))
    unfold slices_insertionSortOrdered_int64.f
    rw [w64 (x := 0 + 1) (by decide) (by decide)]
    exact Ev.step (fun k => slices_insertionSortOrdered_int64.l0.eq_2 ..) (Ev.neg (by omega) (Ev.now _))
  · obtain ⟨t, ht, he⟩ := go (s.length - 1) s 1 (by omega) (by omega) rfl (fun _ => Iff.rfl) (fun p q p0 pq q1 => by omega)
    refine ⟨t, ht, ?_⟩
    unfold slices_Sort_int64.f slices_pdqsortOrdered_int64.f
    rw [hu]
    refine Ev.bind (Ev.is hn) (Ev.bind (a := t) (Ev.step (fun k => slices_pdqsortOrdered_int64.l0.eq_2 ..) ?_) (Ev.now _))
    rw [w64 (x := (s.length : Int) - 0) (by omega) (by omega)]
    refine Ev.pos (by omega) (Ev.bind (a := t) ?_ (Ev.now _))
    unfold slices_insertionSortOrdered_int64.f
    rw [w64 (x := 0 + 1) (by decide) (by decide)]
    exact he
/-- Of the first i numbers those that differ from the one ahead of them. -/
def uniqI (s : List Int) : Nat → List Int
  | 0 => []
  | i + 1 => if i ≠ 0 ∧ rd s i = rd s ((i : Int) - 1) then uniqI s i else uniqI s i ++ [rd s i]
theorem uniqI_dup {s : List Int} {i : Nat} (h0 : i ≠ 0) (h : rd s i = rd s ((i : Int) - 1)) : uniqI s (i + 1) = uniqI s i := by
  conv => lhs; unfold uniqI
  rw [if_pos ⟨h0, h⟩]
theorem uniqI_new {s : List Int} {i : Nat} (h : ¬ (i ≠ 0 ∧ rd s i = rd s ((i : Int) - 1))) : uniqI s (i + 1) = uniqI s i ++ [rd s i] := by
  conv => lhs; unfold uniqI
  rw [if_neg h]
theorem takeI_succ (s : List Int) (i : Nat) (h : i < s.length) : s.take (i + 1) = s.take i ++ [rd s i] := by
  rw [List.take_add_one, List.getElem?_eq_getElem h, rd_get s i (by omega) (by omega)]
  rfl
theorem rdI_of {s t : List Int} {i : Int} (h : s[i.toNat]? = t[i.toNat]?) : rd s i = rd t i := by
  unfold rd
  rw [List.getD_eq_getElem?_getD, List.getD_eq_getElem?_getD, h]
theorem compactI_rest_ev (s : List Int) (hs : s.length ≤ 1000000000) (y : List Int) (b : Nat) (hb : (b : Int) = (s.length : Int) - (y.length : Int)) (h1 : 1 ≤ b) (hlt : b < s.length) (hu : uniqI s (b + 1) = s.take b) : Ev (fun k => slices_Compact_int64.l1 k s (b : Int) y 1) (uniqI s s.length) := by
  refine Ev.upto1 (fun k (x : List Int × Int) i => slices_Compact_int64.l1 k x.1 x.2 y i) y.length (by omega) (fun i x => 1 ≤ i ∧ x.1.length = s.length ∧ 0 ≤ x.2 ∧ x.2 < (b : Int) + i ∧ x.1.take x.2.toNat = uniqI s ((b : Int) + i).toNat ∧ ∀ j : Nat, x.2 ≤ (j : Int) → x.1[j]? = s[j]?) (uniqI s s.length)
    (fun i x h0 hi ⟨i1, hl, p0, p1, pt, pj⟩ => ?_) (fun x ⟨_, hl, p0, p1, pt, pj⟩ => ?_) 1 (s, (b : Int)) (by omega) (by omega) ⟨Int.le_refl _, rfl, by omega, by show (b : Int) < (b : Int) + 1; omega, by show s.take ((b : Int)).toNat = _; rw [show ((b : Int)).toNat = b by omega, show ((b : Int) + 1).toNat = b + 1 by omega]; exact hu.symm, fun _ _ => rfl⟩
  · obtain ⟨x0, x3⟩ := x
    simp only at hl p0 p1 pt pj
    obtain ⟨m, hm⟩ : ∃ m : Nat, (m : Int) = (b : Int) + i := ⟨b + i.toNat, by omega⟩
    have hw : wrap64 (i - 1) = i - 1 := w64 (by omega) (by omega)
    have e1 : (x0.length : Int) - (y.length : Int) + i = (m : Int) := by omega
    have e2 : (x0.length : Int) - (y.length : Int) + (i - 1) = (m : Int) - 1 := by omega
    have r1 : rd x0 (m : Int) = rd s (m : Int) := rdI_of (pj _ (by omega))
    have r2 : rd x0 ((m : Int) - 1) = rd s ((m : Int) - 1) := rdI_of (pj _ (by omega))
    rw [← hm, show ((m : Int)).toNat = m by omega] at pt
    by_cases hd : rd s (m : Int) = rd s ((m : Int) - 1)
    · refine .inl ⟨(x0, x3), ⟨by omega, hl, p0, by show x3 < (b : Int) + (i + 1); omega, ?_, pj⟩, fun h => Ev.step (fun k => slices_Compact_int64.l1.eq_2 ..) (Ev.pos hi (Ev.pos (by omega) ?_))⟩
      · show x0.take x3.toNat = _
        rw [show ((b : Int) + (i + 1)).toNat = m + 1 by omega, uniqI_dup (by omega) hd]
        exact pt
      · rw [hw, e1, e2, r1, r2]
        exact Ev.pos (by omega) (Ev.pos (by omega) (Ev.pos hd h))
    · refine .inl ⟨(x0.set x3.toNat (rd s (m : Int)), x3 + 1), ⟨by omega, by simp [hl], by show 0 ≤ x3 + 1; omega, by show x3 + 1 < (b : Int) + (i + 1); omega, ?_, ?_⟩, fun h => Ev.step (fun k => slices_Compact_int64.l1.eq_2 ..) (Ev.pos hi (Ev.pos (by omega) ?_))⟩
      · show (x0.set x3.toNat _).take (x3 + 1).toNat = _
        rw [show ((b : Int) + (i + 1)).toNat = m + 1 by omega, uniqI_new (fun hh => hd hh.2), show (x3 + 1).toNat = x3.toNat + 1 by omega, List.take_add_one, List.getElem?_set_self (by omega), List.take_set_of_le (Nat.le_refl _), pt]
        rfl
      · intro j hj
        show (x0.set x3.toNat _)[j]? = _
        have hj : x3 + 1 ≤ (j : Int) := hj
        rw [List.getElem?_set_ne (by omega)]
        exact pj j (by omega)
      · rw [hw, e1, e2, r1, r2]
        have hx3 : x3 < (x0.length : Int) := by omega
        refine Ev.pos (by omega) (Ev.pos (by omega) (Ev.neg hd (Ev.pos p0 (Ev.pos hx3 ?_))))
        rw [w64 (x := x3 + 1) (by omega) (by omega)]
        exact h
  · obtain ⟨x0, x3⟩ := x
    simp only at hl p0 p1 pt pj
    rw [show ((b : Int) + (y.length : Int)).toNat = s.length by omega] at pt
    rw [← pt]
    have hx3 : x3 < (x0.length : Int) := by omega
    exact Ev.step (fun k => slices_Compact_int64.l1.eq_2 ..) (Ev.neg (by omega) (Ev.pos hx3 (Ev.pos p0 (Ev.pos (Int.le_of_lt hx3) (Ev.now _)))))
theorem compactI_ev (s : List Int) (hs : s.length ≤ 1000000000) : Ev (fun k => slices_Compact_int64.f k s) (uniqI s s.length) := by
  unfold slices_Compact_int64.f
  by_cases h2 : (s.length : Int) < 2
  · refine Ev.pos h2 (Ev.eq (Ev.now _) ?_)
    rcases s with _ | ⟨a, _ | ⟨b, r⟩⟩
    · rfl
    · rfl
    · simp at h2
      omega
  · refine Ev.neg h2 ?_
    refine Ev.upto1 (fun k (_ : Unit) i => slices_Compact_int64.l0 k s i) s.length (by omega) (fun i _ => 1 ≤ i ∧ uniqI s i.toNat = s.take i.toNat) (uniqI s s.length) (fun i _ h0 h1 ⟨p1, pu⟩ => ?_) (fun _ ⟨p1, pu⟩ => ?_) 1 () (by omega) (by omega) ⟨by omega, ?_⟩
    · obtain ⟨m, rfl⟩ : ∃ m : Nat, i = m := ⟨i.toNat, by omega⟩
      rw [show ((m : Int)).toNat = m by omega] at pu
      have hw : wrap64 ((m : Int) - 1) = (m : Int) - 1 := w64 (by omega) (by omega)
      by_cases hd : rd s (m : Int) = rd s ((m : Int) - 1)
      · refine .inr (Ev.step (fun k => slices_Compact_int64.l0.eq_2 ..) (Ev.pos h1 (Ev.pos h0 ?_)))
        rw [hw]
        refine Ev.pos (by omega) (Ev.pos (by omega) (Ev.pos hd (Ev.pos (by omega) ?_)))
        exact compactI_rest_ev s hs (s.drop ((m : Int)).toNat) m (by rw [List.length_drop]; omega) (by omega) (by omega) (by rw [uniqI_dup (by omega) hd]; exact pu)
      · refine .inl ⟨(), ⟨by omega, ?_⟩, fun h => Ev.step (fun k => slices_Compact_int64.l0.eq_2 ..) (Ev.pos h1 (Ev.pos h0 ?_))⟩
        · rw [show ((m : Int) + 1).toNat = m + 1 by omega, uniqI_new (fun hh => hd hh.2), takeI_succ s m (by omega), pu]
        · rw [hw]
          exact Ev.pos (by omega) (Ev.pos (by omega) (Ev.neg hd h))
    · rw [show ((s.length : Int)).toNat = s.length by omega, List.take_of_length_le (Nat.le_refl _)] at pu
      rw [pu]
      exact Ev.step (fun k => slices_Compact_int64.l0.eq_2 ..) (Ev.neg (by omega) (Ev.now _))
    · show uniqI s 1 = s.take 1
      rw [uniqI_new (fun hh => hh.1 rfl), takeI_succ s 0 (by omega)]
      rfl
/-- Strictly rising. -/
def Strict (l : List Int) : Prop := l.Pairwise (· < ·)
theorem uniqI_is (s : List Int) (hr : Rises s (s.length : Int)) : ∀ i : Nat, i ≤ s.length → Strict (uniqI s i) ∧ (∀ w ∈ uniqI s i, w ≤ rd s ((i : Int) - 1)) ∧ (∀ w, w ∈ uniqI s i ↔ ∃ p : Int, 0 ≤ p ∧ p < (i : Int) ∧ rd s p = w)
  | 0, _ => ⟨List.Pairwise.nil, (by intro w hw; cases hw), fun w => ⟨fun h => (by cases h), fun ⟨p, p0, p1, _⟩ => (by omega)⟩⟩
  | i + 1, hi => by
    obtain ⟨h1, h2, h3⟩ := uniqI_is s hr i (by omega)
    rw [show ((i + 1 : Nat) : Int) - 1 = (i : Int) by omega]
    by_cases hd : i ≠ 0 ∧ rd s (i : Int) = rd s ((i : Int) - 1)
    · rw [uniqI_dup hd.1 hd.2]
      refine ⟨h1, fun w hw => by rw [hd.2]; exact h2 w hw, fun w => ?_⟩
      rw [h3 w]
      constructor
      · rintro ⟨p, p0, p1, e⟩
        exact ⟨p, p0, by omega, e⟩
      · rintro ⟨p, p0, p1, e⟩
        by_cases hp : p = (i : Int)
        · exact ⟨(i : Int) - 1, by omega, by omega, by rw [← hd.2, ← hp]; exact e⟩
        · exact ⟨p, p0, by omega, e⟩
    · rw [uniqI_new hd]
      have hlast : ∀ w ∈ uniqI s i, w < rd s (i : Int) := fun w hw => by
        by_cases h0 : i = 0
        · subst h0
          cases hw
        · have a := h2 w hw
          have b := hr ((i : Int) - 1) (i : Int) (by omega) (by omega) (by omega)
          have c : rd s (i : Int) ≠ rd s ((i : Int) - 1) := fun e => hd ⟨h0, e⟩
          omega
      refine ⟨List.pairwise_append.2 ⟨h1, List.pairwise_singleton _ _, fun a ha b hb => by rw [List.mem_singleton.1 hb]; exact hlast a ha⟩, fun w hw => ?_, fun w => ?_⟩
      · rcases List.mem_append.1 hw with hw | hw
        · exact Int.le_of_lt (hlast w hw)
        · rw [List.mem_singleton.1 hw]
          exact Int.le_refl _
      · rw [List.mem_append, h3 w, List.mem_singleton]
        constructor
        · rintro (⟨p, p0, p1, e⟩ | e)
          · exact ⟨p, p0, by omega, e⟩
          · exact ⟨(i : Int), by omega, by omega, e.symm⟩
        · rintro ⟨p, p0, p1, e⟩
          by_cases hp : p = (i : Int)
          · exact .inr (by rw [← e, hp])
          · exact .inl ⟨p, p0, by omega, e⟩
theorem strict_eq : ∀ (a b : List Int), Strict a → Strict b → (∀ v, v ∈ a ↔ v ∈ b) → a = b
  | [], [], _, _, _ => rfl
  | [], y :: b, _, _, h => absurd ((h y).2 List.mem_cons_self) (by simp)
  | x :: a, [], _, _, h => absurd ((h x).1 List.mem_cons_self) (by simp)
  | x :: a, y :: b, ha, hb, h => by
    obtain ⟨ha1, ha2⟩ := List.pairwise_cons.1 ha
    obtain ⟨hb1, hb2⟩ := List.pairwise_cons.1 hb
    have hxy : x = y := by
      rcases List.mem_cons.1 ((h x).1 List.mem_cons_self) with e | e
      · exact e
      · rcases List.mem_cons.1 ((h y).2 List.mem_cons_self) with e2 | e2
        · exact e2.symm
        · have := hb1 x e
          have := ha1 y e2
          omega
    subst hxy
    rw [strict_eq a b ha2 hb2 (fun v => ?_)]
    constructor
    · intro hv
      rcases List.mem_cons.1 ((h v).1 (List.mem_cons_of_mem _ hv)) with e | e
      · have := ha1 v hv
        omega
      · exact e
    · intro hv
      rcases List.mem_cons.1 ((h v).2 (List.mem_cons_of_mem _ hv)) with e | e
      · have := hb1 v hv
        omega
      · exact e
theorem take_rdI (d : List Int) (x : Int) (h0 : 0 ≤ x) (h1 : x < (d.length : Int)) : d.take (x + 1).toNat = d.take x.toNat ++ [rd d x] := by
  rw [show (x + 1).toNat = x.toNat + 1 by omega, List.take_add_one, List.getElem?_eq_getElem (show x.toNat < d.length by omega), rd_get d x h0 h1]
  rfl
theorem put_ev (x : List Int) (v : Int) (hx : Strict x) (hl : x.length ≤ 1000) : ∃ t : List Int, (Strict t ∧ (∀ w, w ∈ t ↔ w ∈ x ∨ w = v) ∧ t.length ≤ x.length + 1) ∧ Ev (fun k => spec_l1Put.f k x v) t := by
  unfold spec_l1Put.f
  have ins : ∀ i : Int, 0 ≤ i → i ≤ (x.length : Int) → (∀ w ∈ x.take i.toNat, w < v) → (∀ w ∈ x.drop i.toNat, v < w) → Strict (([] ++ x.take i.toNat) ++ [v] ++ x.drop i.toNat) ∧ (∀ w, w ∈ ([] ++ x.take i.toNat) ++ [v] ++ x.drop i.toNat ↔ w ∈ x ∨ w = v) ∧ (([] ++ x.take i.toNat) ++ [v] ++ x.drop i.toNat).length ≤ x.length + 1 := by
    intro i h0 h1 ht hd
    have hx2 := hx
    unfold Strict at hx2
    rw [← List.take_append_drop i.toNat x] at hx2
    obtain ⟨q1, q2, q3⟩ := List.pairwise_append.1 hx2
    refine ⟨?_, fun w => ?_, ?_⟩
    · unfold Strict
      rw [List.nil_append]
      refine List.pairwise_append.2 ⟨List.pairwise_append.2 ⟨q1, List.pairwise_singleton _ _, fun a ha b hb => by rw [List.mem_singleton.1 hb]; exact ht a ha⟩, q2, fun a ha b hb => ?_⟩
      rcases List.mem_append.1 ha with ha | ha
      · exact q3 a ha b hb
      · rw [List.mem_singleton.1 ha]
        exact hd b hb
    · rw [List.nil_append, List.mem_append, List.mem_append, List.mem_singleton]
      have : w ∈ x ↔ w ∈ x.take i.toNat ∨ w ∈ x.drop i.toNat := by
        conv => lhs; rw [← List.take_append_drop i.toNat x]
        exact List.mem_append
      rw [this]
      constructor
      · rintro ((h | h) | h)
        · exact .inl (.inl h)
        · exact .inr h
        · exact .inl (.inr h)
      · rintro ((h | h) | h)
        · exact .inl (.inl h)
        · exact .inr h
        · exact .inl (.inr h)
    · simp only [List.length_append, List.length_nil, List.length_take, List.length_drop, List.length_singleton]
      omega
  have step : ∀ i : Int, 0 ≤ i → i < (x.length : Int) → ∀ w ∈ x.drop (i + 1).toNat, rd x i < w := by
    intro i h0 h1 w hw
    have hx2 := hx
    unfold Strict at hx2
    rw [← List.take_append_drop (i + 1).toNat x, take_rdI x i h0 h1] at hx2
    exact (List.pairwise_append.1 hx2).2.2 _ (by simp) w hw
  refine Ev.upto (fun k (_ : Unit) i => spec_l1Put.l0 k x v i) x.length (by omega) (fun i _ => ∀ w ∈ x.take i.toNat, w < v) (fun t => Strict t ∧ (∀ w, w ∈ t ↔ w ∈ x ∨ w = v) ∧ t.length ≤ x.length + 1) (fun i _ h0 h1 hp => ?_) (fun _ hp => ?_) 0 () (by omega) (by omega) (by intro w hw; simp at hw)
  · by_cases c1 : rd x i < v
    · refine .inl ⟨(), ?_, fun r h => Ev.step (fun k => spec_l1Put.l0.eq_2 ..) (Ev.pos h1 (Ev.pos h0 (Ev.pos c1 h)))⟩
      rw [take_rdI x i h0 h1]
      intro w hw
      rcases List.mem_append.1 hw with hw | hw
      · exact hp w hw
      · rw [List.mem_singleton.1 hw]
        exact c1
    · by_cases c2 : rd x i = v
      · refine .inr ⟨x, ⟨hx, fun w => ⟨fun h => .inl h, fun h => h.elim id (fun e => ?_)⟩, by omega⟩, Ev.step (fun k => spec_l1Put.l0.eq_2 ..) (Ev.pos h1 (Ev.pos h0 (Ev.neg c1 (Ev.pos c2 (Ev.now _)))))⟩
        rw [e, ← c2]
        exact (has_mem x _).1 ⟨i, h0, h1, rfl⟩
      · have hd : ∀ w ∈ x.drop i.toNat, v < w := by
          intro w hw
          rw [drop_cons_at x i.toNat (by omega), ← rd_get x i h0 h1, show i.toNat + 1 = (i + 1).toNat by omega] at hw
          rcases List.mem_cons.1 hw with hw | hw
          · rw [hw]
            omega
          · have := step i h0 h1 w hw
            omega
        have hlt : (x.take i.toNat).length ≤ 1000 := by rw [List.length_take]; omega
        have hld : (x.drop i.toNat).length ≤ 1000 := by rw [List.length_drop]; omega
        refine .inr ⟨_, ins i h0 (by omega) hp hd, Ev.step (fun k => spec_l1Put.l0.eq_2 ..) (Ev.pos h1 (Ev.pos h0 (Ev.neg c1 (Ev.neg c2 (Ev.let (Ev.pos (by omega) (Ev.let (Ev.pos ?_ (Ev.let (Ev.let (Ev.pos ?_ (Ev.let (Ev.let (Ev.pos ?_ (Ev.now _)))))))))))))))⟩
        all_goals (simp only [List.length_append, List.length_nil, List.length_cons]; omega)
  · have hd : ∀ w ∈ x.drop ((x.length : Int)).toNat, v < w := by
      intro w hw
      rw [List.drop_eq_nil_of_le (by omega)] at hw
      cases hw
    have hlt : (x.take ((x.length : Int)).toNat).length ≤ 1000 := by rw [List.length_take]; omega
    have hld : (x.drop ((x.length : Int)).toNat).length ≤ 1000 := by rw [List.length_drop]; omega
    refine ⟨_, ins (x.length : Int) (by omega) (by omega) hp hd, Ev.step (fun k => spec_l1Put.l0.eq_2 ..) (Ev.neg (by omega) (Ev.let (Ev.pos (by omega) (Ev.pos (by omega) (Ev.let (Ev.pos ?_ (Ev.let (Ev.let (Ev.pos ?_ (Ev.let (Ev.let (Ev.pos ?_ (Ev.now _)))))))))))))⟩
    all_goals (simp only [List.length_append, List.length_nil, List.length_cons]; omega)
/-- The legs' shards. -/
def shardL (l : List S89) : List Int := l.map fun g => g.f0
theorem shards_spec_ev (id : Int) (l : List S89) (hl : (l.length : Int) ≤ 8) : ∃ t : List Int, (Strict t ∧ (∀ w, w ∈ t ↔ w ∈ shardL l) ∧ t.length ≤ 8) ∧ Ev (fun k => spec_l1Shards.f k id l) t := by
  unfold spec_l1Shards.f
  obtain ⟨t, ⟨h1, h2, h3⟩, he⟩ := Ev.upto (fun k (x : List Int) i => spec_l1Shards.l0 k x i id l) l.length (by omega) (fun i x => Strict x ∧ (∀ w, w ∈ x ↔ w ∈ shardL (l.take i.toNat)) ∧ (x.length : Int) ≤ i) (fun t => Strict t ∧ (∀ w, w ∈ t ↔ w ∈ shardL l) ∧ (t.length : Int) ≤ (l.length : Int))
    (fun i x h0 h1 ⟨p1, p2, p3⟩ => by
      obtain ⟨t, ⟨q1, q2, q3⟩, he⟩ := put_ev x (rd_T89 l i).f0 p1 (by omega)
      refine .inl ⟨t, ⟨q1, fun w => ?_, by omega⟩, fun r h => Ev.step (fun k => spec_l1Shards.l0.eq_2 ..) (Ev.pos h1 (Ev.pos h0 (Ev.bind he h)))⟩
      rw [q2 w, p2 w, take_succ_at l i h0 h1]
      unfold shardL
      rw [List.map_append, List.mem_append]
      simp)
    (fun x ⟨p1, p2, p3⟩ => ⟨x, ⟨p1, by rw [List.take_of_length_le (by omega)] at p2; exact p2, p3⟩, Ev.step (fun k => spec_l1Shards.l0.eq_2 ..) (Ev.neg (by omega) (Ev.now _))⟩)
    0 [] (by omega) (by omega) ⟨List.Pairwise.nil, fun w => by simp [shardL], by simp⟩
  exact ⟨t, ⟨h1, h2, by omega⟩, he⟩
theorem shards_impl_ev (id : Int) (l : List S89) (hl : (l.length : Int) ≤ 8) (t : List Int) (h1 : Strict t) (h2 : ∀ w, w ∈ t ↔ w ∈ shardL l) : Ev (fun k => impl_shardsOf.f k id l) t := by
  have hsl : (shardL l).length = l.length := by simp [shardL]
  obtain ⟨u, ⟨u1, u2, u3⟩, hs⟩ := sort_ev (shardL l) (by omega)
  have hc := compactI_ev u (by omega)
  rw [← u1] at u3
  obtain ⟨c1, _, c3⟩ := uniqI_is u u3 u.length (Nat.le_refl _)
  have hu : uniqI u u.length = t := strict_eq _ _ c1 h1 (fun v => by
    rw [h2 v, c3 v, ← has_mem]
    exact u2 v)
  rw [hu] at hc
  unfold impl_shardsOf.f
  refine Ev.upto1 (fun k (x : List Int) i => impl_shardsOf.l0 k x l (l.length : Int) i) l.length (by omega) (fun i x => x = shardL (l.take i.toNat)) t (fun i x p0 p1 hx => .inl ?_) (fun x hx => ?_) 0 [] (by omega) (by omega) rfl
  · have hn : x.length ≤ l.length := by rw [hx]; simp only [shardL, List.length_map, List.length_take]; omega
    refine ⟨x ++ [(rd_T89 l i).f0], by rw [take_succ_at l i p0 p1, hx]; simp [shardL], fun h => Ev.step (fun k => impl_shardsOf.l0.eq_2 ..) (Ev.pos p1 (Ev.pos p0 (Ev.pos p1 (Ev.pos (by omega) h))))⟩
  · rw [List.take_of_length_le (by omega)] at hx
    subst hx
    exact Ev.step (fun k => impl_shardsOf.l0.eq_2 ..) (Ev.neg (by omega) (Ev.bind hs (Ev.bind hc (Ev.now _))))
theorem contractFault_fewS {id : Int} {l : List S89} (h : contractFault id l = 0) : 2 ≤ (l.length : Int) ∧ (l.length : Int) ≤ 8 := by
  unfold contractFault at h
  split at h
  · split at h
    · next h2 => exact h2
    · omega
  · omega
theorem shardsOf_ev (id : Int) (l : List S89) : ∃ R : Int × List Int, R.2.length ≤ 8 ∧ Ev (fun k => spec_ShardsOf.f k id l) R ∧ Ev (fun k => impl_ShardsOf.f k id l) R := by
  unfold spec_ShardsOf.f impl_ShardsOf.f
  by_cases h : contractFault id l = 0
  · obtain ⟨t, ⟨h1, h2, h3⟩, he⟩ := shards_spec_ev id l (contractFault_fewS h).2
    exact ⟨(0, t), h3, Ev.bind (spec_ContractFault_ev id l) (Ev.pos h (Ev.bind he (Ev.now _))), Ev.bind (impl_ContractFault_ev id l) (Ev.pos h (Ev.bind (shards_impl_ev id l (contractFault_fewS h).2 t h1 h2) (Ev.now _)))⟩
  · exact ⟨(contractFault id l, []), by simp, Ev.bind (spec_ContractFault_ev id l) (Ev.neg h (Ev.now _)), Ev.bind (impl_ContractFault_ev id l) (Ev.neg h (Ev.now _))⟩

/-- Numbers marked one behind the other from k on. -/
def markI (n : Nat) (k : Int) : List Int := (List.range n).map fun (i : Nat) => k + i
theorem markI_len (n : Nat) (k : Int) : (markI n k).length = n := by simp [markI]
theorem markI_get (n : Nat) (k : Int) (i : Nat) (h : i < n) : (markI n k)[i]? = some (k + i) := by simp [markI, h]
theorem eqIntsResult_ev (c : Int) (l : List Int) (h : l.length ≤ 1000) : Ev (fun k => laws_eqIntsResult.f k c l c l) true := by
  unfold laws_eqIntsResult.f laws_eqInt64S.f
  refine Ev.pos rfl (Ev.bind (a := true) (Ev.pos rfl ?_) (Ev.pos rfl (Ev.now _)))
  exact Ev.each (F := fun k i => laws_eqInt64S.l0 k l l i) l.length (by omega) (fun i h0 h1 h => Ev.step (fun k => laws_eqInt64S.l0.eq_2 ..) (Ev.pos h1 (Ev.pos h0 (Ev.pos h1 (Ev.pos rfl h))))) (Ev.step (fun k => laws_eqInt64S.l0.eq_2 ..) (Ev.neg (by omega) (Ev.now _)))
theorem markIntsResult_ev (c : Int) (l : List Int) (h : l.length ≤ 1000) : Ev (fun k => laws_markIntsResult.f k c l 1) (1 + (l.length : Int), markI l.length 1) := by
  unfold laws_markIntsResult.f laws_markInt64S.f
  refine Ev.bind (a := (1 + (l.length : Int), markI l.length 1)) ?_ (Ev.now _)
  refine Ev.upto1 (fun k (s : List Int × Int) i => laws_markInt64S.l0 k s.1 s.2 i) l.length (by omega) (fun i s => s.1.length = l.length ∧ s.2 = 1 + i ∧ s.1.take i.toNat = (markI l.length 1).take i.toNat) (1 + (l.length : Int), markI l.length 1)
    (fun i s p0 p1 ⟨hl, hs, ht⟩ => .inl ⟨(s.1.set i.toNat s.2, s.2 + 1), ⟨by simp [hl], by show s.2 + 1 = 1 + (i + 1); omega, ?_⟩, fun h => Ev.step (fun k => laws_markInt64S.l0.eq_2 ..) (Ev.pos (by omega) (Ev.pos p0 ?_))⟩)
    (fun s ⟨hl, hs, ht⟩ => Ev.step (fun k => laws_markInt64S.l0.eq_2 ..) (Ev.neg (by omega) (Ev.eq (Ev.now _) ?_)))
    0 (l, 1) (by omega) (by omega) ⟨rfl, by simp, by simp⟩
  · show (s.1.set i.toNat s.2).take (i + 1).toNat = _
    rw [show (i + 1).toNat = i.toNat + 1 by omega]
    refine take_set_succ _ _ _ _ (by omega) ht ?_
    rw [markI_get _ _ _ (by omega), hs, show ((i.toNat : Nat) : Int) = i by omega]
  · rw [w64 (x := s.2 + 1) (by omega) (by omega)]
    exact h
  · rw [List.take_of_length_le (by omega), List.take_of_length_le (by simp [markI_len])] at ht
    rw [ht, hs]
theorem heldIntsResult_ev (c : Int) (n : Nat) (h : n ≤ 1000) : Ev (fun k => laws_heldIntsResult.f k c (markI n 1) 1) (1 + (n : Int)) := by
  unfold laws_heldIntsResult.f laws_heldInt64S.f
  refine Ev.bind (a := 1 + (n : Int)) ?_ (Ev.neg (by omega) (Ev.now _))
  refine Ev.upto1 (fun k (s : Int) i => laws_heldInt64S.l0 k (markI n 1) s i) n (by omega) (fun i s => s = 1 + i) (1 + (n : Int))
    (fun i s p0 p1 hs => .inl ⟨s + 1, by omega, fun h => Ev.step (fun k => laws_heldInt64S.l0.eq_2 ..) (Ev.pos (by rw [markI_len]; exact p1) (Ev.pos p0 (Ev.pos ?_ (by rw [w64 (x := s + 1) (by omega) (by omega)]; exact h))))⟩)
    (fun s hs => Ev.step (fun k => laws_heldInt64S.l0.eq_2 ..) (Ev.neg (by rw [markI_len]; omega) (Ev.eq (Ev.now _) hs)))
    0 1 (by omega) (by omega) (by simp)
  rw [rd_of (markI_get n 1 i.toNat (by omega)), hs, show ((i.toNat : Nat) : Int) = i by omega]

theorem rdLeg_set (l : List S89) (i : Int) (v : S89) (h : i.toNat < l.length) : rd_T89 (l.set i.toNat v) i = v := rdLeg (List.getElem?_set_self h)
/-- A Leg marked from k on. -/
def mkLeg (k : Int) : S89 := ⟨k, k + 1, k + 2, k + 3⟩
def mkLegL (n : Nat) (k : Int) : List S89 := (List.range n).map fun (i : Nat) => mkLeg (k + 4 * i)
theorem mkLegL_len (n : Nat) (k : Int) : (mkLegL n k).length = n := by simp [mkLegL]
theorem mkLegL_get (n : Nat) (k : Int) (i : Nat) (h : i < n) : (mkLegL n k)[i]? = some (mkLeg (k + 4 * i)) := by simp [mkLegL, h]
theorem markLegS_ev (l : List S89) (m : Int) (h0 : 0 ≤ m) (h1 : m + 4 * l.length ≤ 9000000000000000000) : Ev (fun k => laws_markLegS.f k l m) (m + 4 * l.length, mkLegL l.length m) := by
  unfold laws_markLegS.f
  refine Ev.upto1 (fun k (s : List S89 × Int) i => laws_markLegS.l0 k s.1 s.2 i) l.length (by omega) (fun i s => s.1.length = l.length ∧ s.2 = m + 4 * i ∧ s.1.take i.toNat = (mkLegL l.length m).take i.toNat) (m + 4 * l.length, mkLegL l.length m)
    (fun i s p0 p1 ⟨hl, hs, ht⟩ => .inl ⟨(s.1.set i.toNat (mkLeg s.2), s.2 + 4), ⟨by simp [hl], by simp [hs]; omega, ?_⟩, fun h => Ev.step (fun k => laws_markLegS.l0.eq_2 ..) (Ev.pos (by omega) ?_)⟩)
    (fun s ⟨hl, hs, ht⟩ => Ev.step (fun k => laws_markLegS.l0.eq_2 ..) (Ev.neg (by omega) (Ev.eq (Ev.now _) ?_)))
    0 (l, m) (by omega) (by omega) ⟨rfl, by simp, by simp⟩
  · show (s.1.set i.toNat (mkLeg s.2)).take (i + 1).toNat = _
    rw [show (i + 1).toNat = i.toNat + 1 by omega]
    refine take_set_succ _ _ _ _ (by omega) ht ?_
    rw [mkLegL_get _ _ _ (by omega), hs]
    congr 2
    omega
  · have b0 : 0 ≤ s.2 := by omega
    have b1 : s.2 + 4 ≤ 9000000000000000000 := by omega
    have w1 : wrap64 (s.2 + 1) = s.2 + 1 := by rw [w64 (by omega) (by omega)]
    have w2 : wrap64 (s.2 + 1 + 1) = s.2 + 2 := by rw [w64 (by omega) (by omega)]; omega
    have w3 : wrap64 (s.2 + 2 + 1) = s.2 + 3 := by rw [w64 (by omega) (by omega)]; omega
    have w4 : wrap64 (s.2 + 3 + 1) = s.2 + 4 := by rw [w64 (by omega) (by omega)]; omega
    refine Ev.pos p0 ?_
    simp only [w1, w2, w3, w4, Option.bind_some]
    simp only [rdLeg_set _ _ _ (show i.toNat < s.1.length by omega), List.set_set]
    exact h
  · rw [List.take_of_length_le (by omega), List.take_of_length_le (by simp [mkLegL_len])] at ht
    rw [ht, hs]
theorem markContract_ev (id : Int) (l : List S89) (hl : l.length ≤ 1048576) : Ev (fun k => laws_markContract.f k id l 1) (1 + 4 * (l.length : Int), mkLegL l.length 1) := by
  unfold laws_markContract.f
  exact Ev.bind (markLegS_ev l 1 (by omega) (by omega)) (Ev.now _)
theorem FnExactShardsOf : ∀ (a0_0 : Int) (l0_1 : List (S119)), (Lit.int .i64 a0_0).wf = true → okL ok119 l0_1 → ∃ k, laws_FnExactShardsOf.f k a0_0 l0_1 = some true := by
  intro i l _ hl
  refine Ev.rounds (r := true) ?_
  unfold laws_FnExactShardsOf.f
  rw [szContract_eq i l hl.1 _ (by decide) (by decide)]
  refine Ev.let (Ev.ite (fun _ => Ev.now _) (fun h => ?_))
  obtain ⟨b1, e1⟩ := szRest_ok (by decide) h
  have t1 := toContract_ev i l (by omega)
  have hlm : (l.map legOf).length ≤ 1048576 := by simp; omega
  generalize l.map legOf = m at t1 hlm
  obtain ⟨R, hn, hs, hi⟩ := shardsOf_ev i m
  have he := eqIntsResult_ev R.1 R.2 (by omega)
  have hh := heldIntsResult_ev R.1 R.2.length (by omega)
  refine Ev.step (fun k => laws_FnExactShardsOf.j0.eq_2 ..) (Ev.bind t1 (Ev.bind hs (Ev.bind t1 (Ev.bind hi (Ev.bind he (Ev.pos rfl ?_))))))
  refine Ev.step (fun k => laws_FnExactShardsOf.j1.eq_2 ..) (Ev.bind t1 (Ev.bind (eqContract_ev i m (by omega)) (Ev.pos rfl ?_)))
  refine Ev.step (fun k => laws_FnExactShardsOf.j2.eq_2 ..) (Ev.bind (markContract_ev i m hlm) (Ev.neg (by simp; omega) (Ev.bind he ?_)))
  refine Ev.step (fun k => laws_FnExactShardsOf.j3.eq_2 ..) (Ev.neg (by simp) ?_)
  refine Ev.step (fun k => laws_FnExactShardsOf.j4.eq_2 ..) (Ev.bind (markIntsResult_ev _ _ (by omega)) (Ev.bind hh (Ev.neg (by omega) ?_)))
  refine Ev.step (fun k => laws_FnExactShardsOf.j5.eq_2 ..) (Ev.pos rfl ?_)
  refine Ev.step (fun k => laws_FnExactShardsOf.j6.eq_2 ..) (Ev.bind t1 (Ev.bind hi (Ev.bind he (Ev.pos rfl ?_))))
  exact Ev.step (fun k => laws_FnExactShardsOf.j7.eq_2 ..) (Ev.bind hh (Ev.neg (by omega) (Ev.pos rfl (Ev.now _))))

end Go.Proofs.Ytooiamkaipdmpaa.Pure
