/- FnExactReverseOf, the pure statement: the program's ReverseOf and the reference's tell the same of any contract and number; the argument is as it was, and the answer is new memory. No conditions. -/
import Derived.Test.YtooiamkaipdmpaaPFnExactReverseOfx7
import Derived.Test.YtooiamkaipdmpaaOFnExactReverseOf
namespace Go.Proofs.Ytooiamkaipdmpaa.Pure
open Go.RowKit Go.Proofs.Ytooiamkaipdmpaa.PFnExactReverseOf Go.Proofs.YtooiamkaipdmpaaW.PrintWords Go.Proofs.YtooiamkaipdmpaaW.PrintLast Go.Proofs.YtooiamkaipdmpaaW.PrintMore Go.Proofs.Ytooiamkaipdmpaa.Opens
set_option linter.unusedVariables false
set_option linter.unusedSimpArgs false
/-! ### words of this text's own -/
theorem w64 {x : Int} (h0 : -9223372036854775808 ≤ x) (h1 : x ≤ 9223372036854775807) : wrap64 x = x := by
  unfold wrap64
  omega
theorem wfU8 {x : Int} (h : (Lit.int .u8 x).wf = true) : 0 ≤ x ∧ x < 256 := by
  simp [Lit.wf, IntKind.min, IntKind.max, IntKind.signed, IntKind.bits] at h
  omega
theorem wfI64 {x : Int} (h : (Lit.int .i64 x).wf = true) : -9223372036854775808 ≤ x ∧ x ≤ 9223372036854775807 := by
  simp [Lit.wf, IntKind.min, IntKind.max, IntKind.signed, IntKind.bits] at h
  omega
section
variable {α β σ : Type}
theorem Ev.ite {g f : Nat → Option α} {c : Prop} [Decidable c] {r : α} (ht : c → Ev g r) (hf : ¬ c → Ev f r) : Ev (fun k => if c then g k else f k) r := by
  by_cases h : c
  · simp only [if_pos h]; exact ht h
  · simp only [if_neg h]; exact hf h
theorem Ev.pos {g f : Nat → Option α} {c : Prop} [Decidable c] {r : α} (h : c) (ht : Ev g r) : Ev (fun k => if c then g k else f k) r := Ev.ite (fun _ => ht) (fun n => absurd h n)
theorem Ev.neg {g f : Nat → Option α} {c : Prop} [Decidable c] {r : α} (h : ¬ c) (hf : Ev f r) : Ev (fun k => if c then g k else f k) r := Ev.ite (fun y => absurd y h) (fun _ => hf)
theorem Ev.cond {g f : Nat → Option α} {c : Prop} [Decidable c] {r s : α} (ht : c → Ev g r) (hf : ¬ c → Ev f s) : Ev (fun k => if c then g k else f k) (if c then r else s) := by
  by_cases h : c
  · simp only [if_pos h]; exact ht h
  · simp only [if_neg h]; exact hf h
theorem Ev.let {f : Nat → α → Option β} {a : α} {r : β} (k : Ev (fun n => f n a) r) : Ev (fun n => (some a).bind (f n)) r := Ev.bind (Ev.now a) k
theorem Ev.is {a : Option α} {r : α} (h : a = some r) : Ev (fun _ => a) r := ⟨0, fun _ _ => h⟩
theorem Ev.eq {g : Nat → Option α} {a b : α} (h : Ev g a) (e : a = b) : Ev g b := e ▸ h
/-- A loop that counts i up to n, with a state s: what it comes to, if 'P i s' leads from round to round. -/
theorem Ev.upto (F : Nat → σ → Int → Option α) (n : Int) (hn : n ≤ 9223372036854775807) (P : Int → σ → Prop) (R : α → Prop)
    (step : ∀ i s, 0 ≤ i → i < n → P i s → (∃ s', P (i + 1) s' ∧ ∀ r, Ev (fun k => F k s' (wrap64 (i + 1))) r → Ev (fun k => F k s i) r) ∨ (∃ r, R r ∧ Ev (fun k => F k s i) r))
    (stop : ∀ s, P n s → ∃ r, R r ∧ Ev (fun k => F k s n) r) (i : Int) (s : σ) (h0 : 0 ≤ i) (h1 : i ≤ n) (hP : P i s) : ∃ r, R r ∧ Ev (fun k => F k s i) r := by
  obtain ⟨d, hd⟩ : ∃ d : Nat, n - i = d := ⟨(n - i).toNat, by omega⟩
  induction d generalizing i s with
  | zero =>
    obtain rfl : i = n := by omega
    exact stop s hP
  | succ d ih =>
    rcases step i s h0 (by omega) hP with ⟨s', hP', h⟩ | h
    · obtain ⟨r, hr, he⟩ := ih (i + 1) s' (by omega) (by omega) hP' (by omega)
      exact ⟨r, hr, h r (by rw [w64 (by omega) (by omega)]; exact he)⟩
    · exact h
/-- The same, where what it comes to is one value. -/
theorem Ev.upto1 (F : Nat → σ → Int → Option α) (n : Int) (hn : n ≤ 9223372036854775807) (P : Int → σ → Prop) (r : α)
    (step : ∀ i s, 0 ≤ i → i < n → P i s → (∃ s', P (i + 1) s' ∧ (Ev (fun k => F k s' (wrap64 (i + 1))) r → Ev (fun k => F k s i) r)) ∨ Ev (fun k => F k s i) r)
    (stop : ∀ s, P n s → Ev (fun k => F k s n) r) (i : Int) (s : σ) (h0 : 0 ≤ i) (h1 : i ≤ n) (hP : P i s) : Ev (fun k => F k s i) r := by
  obtain ⟨d, hd⟩ : ∃ d : Nat, n - i = d := ⟨(n - i).toNat, by omega⟩
  induction d generalizing i s with
  | zero =>
    obtain rfl : i = n := by omega
    exact stop s hP
  | succ d ih =>
    rcases step i s h0 (by omega) hP with ⟨s', hP', h⟩ | h
    · exact h (by rw [w64 (by omega) (by omega)]; exact ih (i + 1) s' (by omega) (by omega) hP' (by omega))
    · exact h
theorem take_set_succ (l acc : List α) (i : Nat) (v : α) (h : i < acc.length) (ht : acc.take i = l.take i) (hv : l[i]? = some v) : (acc.set i v).take (i + 1) = l.take (i + 1) := by
  rw [List.take_add_one, List.take_add_one, hv, List.getElem?_set_self h, List.take_set_of_le (Nat.le_refl _), ht]
/-- A row filled cell by cell. -/
theorem Ev.fill (F : Nat → List α → Int → Option (List α)) (l : List α) (hl : l.length ≤ 9223372036854775807)
    (step : ∀ (i : Int) s (v : α), 0 ≤ i → i < (l.length : Int) → s.length = l.length → l[i.toNat]? = some v → Ev (fun k => F k (s.set i.toNat v) (wrap64 (i + 1))) l → Ev (fun k => F k s i) l)
    (stop : ∀ s, s.length = l.length → Ev (fun k => F k s (l.length : Int)) s) (s : List α) (hs : s.length = l.length) : Ev (fun k => F k s 0) l :=
  Ev.upto1 F l.length (by omega) (fun i s => s.length = l.length ∧ s.take i.toNat = l.take i.toNat) l
    (fun i s h0 h1 ⟨hs, ht⟩ => .inl ⟨s.set i.toNat (l[i.toNat]'(by omega)), ⟨by simp [hs], by
      rw [show (i + 1).toNat = i.toNat + 1 by omega]
      exact take_set_succ l s _ _ (by omega) ht (List.getElem?_eq_getElem (by omega))⟩, step i s _ h0 h1 hs (List.getElem?_eq_getElem (by omega))⟩)
    (fun s ⟨hs, ht⟩ => by
      rw [List.take_of_length_le (by omega), List.take_of_length_le (by omega)] at ht
      have := stop s hs
      subst ht
      exact this) 0 s (by omega) (by omega) ⟨hs, by simp⟩
/-- A loop that asks of each place, and comes to the end. -/
theorem Ev.each {F : Nat → Int → Option β} {r : β} (n : Nat) (hn : (n : Int) ≤ 9223372036854775807) (step : ∀ i : Int, 0 ≤ i → i < n → Ev (fun k => F k (wrap64 (i + 1))) r → Ev (fun k => F k i) r) (stop : Ev (fun k => F k (n : Int)) r) : Ev (fun k => F k 0) r :=
  Ev.upto1 (fun k (_ : Unit) i => F k i) n hn (fun _ _ => True) r (fun i _ h0 h1 _ => .inl ⟨(), trivial, step i h0 h1⟩) (fun _ _ => stop) 0 () (by omega) (by omega) trivial
end
theorem rd_get (l : List Int) (i : Int) (h0 : 0 ≤ i) (h1 : i < (l.length : Int)) : rd l i = l[i.toNat]'(by omega) := by
  unfold rd
  rw [List.getD_eq_getElem?_getD, List.getElem?_eq_getElem (by omega)]
  rfl
theorem rd_of {l : List Int} {i : Int} {v : Int} (h : l[i.toNat]? = some v) : rd l i = v := by
  unfold rd
  rw [List.getD_eq_getElem?_getD, h]
  rfl
theorem drop_cons_at {α : Type} (l : List α) (i : Nat) (h : i < l.length) : l.drop i = l[i] :: l.drop (i + 1) := List.drop_eq_getElem_cons h
/-- What is left of a bound behind a list, or less than nothing. -/
def szRest (n : Nat) (left : Int) : Int := if left - n < 0 then -1 else left - n
theorem szRest_ok {n : Nat} {left : Int} (h0 : left ≤ 1048576) (h1 : ¬ szRest n left < 0) : (n : Int) ≤ left ∧ szRest n left = left - n := by
  unfold szRest at *
  by_cases h : left - n < 0
  · rw [if_pos h] at h1; omega
  · rw [if_neg h]; exact ⟨by omega, rfl⟩

theorem szLegS_eq (l : List S119) (hl : l.length ≤ maxLen) (left : Int) (h0 : 0 ≤ left) (h1 : left ≤ 1048576) : laws_szLegS.f l left = some (szRest l.length left) := by
  unfold maxLen at hl
  unfold laws_szLegS.f szRest
  rw [w64 (by omega) (by omega)]
  split <;> rfl
theorem szContract_eq (id : Int) (l : List S119) (hl : l.length ≤ maxLen) (left : Int) (h0 : 0 ≤ left) (h1 : left ≤ 1048576) : laws_szContract.f id l left = some (szRest l.length left) := by
  unfold laws_szContract.f
  rw [szLegS_eq l hl left h0 h1]
  simp only [Option.bind_some]
  split
  · next h => unfold szRest at *; split at h <;> simp_all <;> omega
  · rfl

theorem rdLeg {l : List S89} {i : Int} {v : S89} (h : l[i.toNat]? = some v) : rd_T89 l i = v := by
  unfold rd_T89
  rw [List.getD_eq_getElem?_getD, h]
  rfl
theorem rdLegL {l : List S119} {i : Int} {v : S119} (h : l[i.toNat]? = some v) : rd_T119 l i = v := by
  unfold rd_T119
  rw [List.getD_eq_getElem?_getD, h]
  rfl
theorem rdLeg_at (l : List S89) (i : Int) (h0 : 0 ≤ i) (h1 : i < (l.length : Int)) : rd_T89 l i = l[i.toNat]'(by omega) := rdLeg (List.getElem?_eq_getElem (by omega))

/-- What the law's mirror of a Leg stands for. -/
def legOf (x : S119) : S89 := ⟨x.f0, x.f1, x.f2, x.f3⟩
theorem toLegS_ev (l : List S119) (hl : l.length ≤ 1048576) : Ev (fun k => laws_toLegS.f k l) (l.map legOf) := by
  unfold laws_toLegS.f
  refine Ev.pos (by omega) (Ev.pos (by omega) ?_)
  refine Ev.fill (fun k s i => laws_toLegS.l0 k l s i) (l.map legOf) (by simp; omega)
    (fun i s v h0 h1 hs hv h => ?_)
    (fun s hs => Ev.step (fun k => laws_toLegS.l0.eq_2 ..) (Ev.neg (by simp) (Ev.now _))) _ (by simp)
  rw [List.length_map] at h1 hs
  rw [List.getElem?_map] at hv
  obtain ⟨w, hw, rfl⟩ := Option.map_eq_some_iff.1 hv
  refine Ev.step (fun k => laws_toLegS.l0.eq_2 ..) (Ev.pos h1 (Ev.pos h0 ?_))
  rw [rdLegL hw]
  exact Ev.let (Ev.pos (by omega) h)

theorem toContract_ev (id : Int) (l : List S119) (hl : l.length ≤ 1048576) : Ev (fun k => laws_toContract.f k id l) (id, l.map legOf) := by
  unfold laws_toContract.f
  exact Ev.bind (toLegS_ev l hl) (Ev.now _)

theorem eqLeg_rfl (a0 : Int) (a1 : Int) (a2 : Int) (a3 : Int) : laws_eqLeg.f a0 a1 a2 a3 a0 a1 a2 a3 = some true := by
  unfold laws_eqLeg.f
  simp
theorem eqLegS_ev (l : List S89) (hl : (l.length : Int) ≤ 9223372036854775807) : Ev (fun k => laws_eqLegS.f k l l) true := by
  unfold laws_eqLegS.f
  refine Ev.pos rfl ?_
  refine Ev.each (F := fun k i => laws_eqLegS.l0 k l l i) l.length hl (fun i h0 h1 h => Ev.step (fun k => laws_eqLegS.l0.eq_2 ..) (Ev.pos h1 (Ev.pos h0 (Ev.pos h1 ?_)))) (Ev.step (fun k => laws_eqLegS.l0.eq_2 ..) (Ev.neg (by omega) (Ev.now _)))
  simp only [eqLeg_rfl]
  exact Ev.let (Ev.pos rfl h)

theorem eqContract_ev (id : Int) (l : List S89) (hl : (l.length : Int) ≤ 9223372036854775807) : Ev (fun k => laws_eqContract.f k id l id l) true := by
  unfold laws_eqContract.f
  exact Ev.pos rfl (Ev.bind (eqLegS_ev l hl) (Ev.pos rfl (Ev.now _)))

/-- What LegFault tells of a leg. -/
def legFault (s a t m : Int) : Int := if 0 ≤ s ∧ s ≤ 2 ∧ 0 ≤ a ∧ a ≤ 5 ∧ 0 ≤ t ∧ t ≤ 2 ∧ -1000000000000 ≤ m ∧ m ≤ 1000000000000 then (if m = 0 then 1 else 0) else 3
theorem spec_LegFault_ev (s a t m : Int) : Ev (fun k => spec_LegFault.f k s a t m) (legFault s a t m) := by
  refine ⟨1, fun k hk => ?_⟩
  obtain ⟨k, rfl⟩ : ∃ j, k = j + 1 := ⟨k - 1, by omega⟩
  unfold spec_LegFault.f spec_l1In.f legFault
  by_cases h1 : 0 ≤ s <;> by_cases h2 : s ≤ 2 <;> by_cases h3 : 0 ≤ a <;> by_cases h4 : a ≤ 5 <;> by_cases h5 : 0 ≤ t <;> by_cases h6 : t ≤ 2 <;> by_cases h7 : -1000000000000 ≤ m <;> by_cases h8 : m ≤ 1000000000000 <;> by_cases h9 : m = 0 <;> simp [h1, h2, h3, h4, h5, h6, h7, h8, h9, spec_LegFault.j0]
theorem impl_LegFault_ev (s a t m : Int) : Ev (fun k => impl_LegFault.f k s a t m) (legFault s a t m) := by
  refine ⟨1, fun k hk => ?_⟩
  obtain ⟨k, rfl⟩ : ∃ j, k = j + 1 := ⟨k - 1, by omega⟩
  unfold impl_LegFault.f impl_isShard.f impl_isPlace.f impl_isAsset.f impl_within.f legFault
  by_cases h1 : 0 ≤ s <;> by_cases h2 : s ≤ 2 <;> by_cases h3 : 0 ≤ a <;> by_cases h4 : a ≤ 5 <;> by_cases h5 : 0 ≤ t <;> by_cases h6 : t ≤ 2 <;> by_cases h7 : -1000000000000 ≤ m <;> by_cases h8 : m ≤ 1000000000000 <;> by_cases h9 : m = 0 <;> simp [h1, h2, h3, h4, h5, h6, h7, h8, h9, impl_LegFault.j0]

theorem within_eq (x a b : Int) : impl_within.f x a b = some (decide (a ≤ x ∧ x ≤ b)) := by
  unfold impl_within.f
  by_cases h1 : a ≤ x <;> simp [h1]

theorem l1In_eq (x a b : Int) : spec_l1In.f x a b = some (decide (a ≤ x ∧ x ≤ b)) := by
  unfold spec_l1In.f
  by_cases h1 : a ≤ x <;> simp [h1]

theorem containsLeg_ev [FN_slices_IndexFunc_impl_Leg] (q : S89 → Bool) (hq : ∀ x : S89, FN_slices_IndexFunc_impl_Leg.f x.f0 x.f1 x.f2 x.f3 = some (q x)) (l : List S89) (hl : l.length ≤ 1000000) : Ev (fun k => slices_ContainsFunc_impl_Leg.f k l) (l.any q) := by
  unfold slices_ContainsFunc_impl_Leg.f slices_IndexFunc_impl_Leg.f
  obtain ⟨r, hr, he⟩ := Ev.upto (fun k (_ : Unit) i => slices_IndexFunc_impl_Leg.l0 k l (l.length : Int) i) l.length (by omega) (fun i _ => (l.drop i.toNat).any q = l.any q) (fun r => r ≥ 0 ↔ l.any q = true)
    (fun i _ h0 h1 hp => by
      have hr := rdLeg_at l i h0 h1
      rw [drop_cons_at l i.toNat (by omega), List.any_cons] at hp
      generalize l[i.toNat]'(by omega) = x at hr hp
      by_cases hx : q x = true
      · rw [hx, Bool.true_or] at hp
        refine .inr ⟨i, ⟨fun _ => hp.symm, fun _ => h0⟩, Ev.step (fun k => slices_IndexFunc_impl_Leg.l0.eq_2 ..) (Ev.pos h1 (Ev.pos h0 (Ev.pos h1 ?_)))⟩
        rw [hr]
        exact Ev.bind (Ev.is (hq x)) (Ev.pos hx (Ev.now _))
      · have hf : q x = false := by simpa using hx
        rw [hf, Bool.false_or] at hp
        refine .inl ⟨(), by rw [show (i + 1).toNat = i.toNat + 1 by omega]; exact hp, fun r h => Ev.step (fun k => slices_IndexFunc_impl_Leg.l0.eq_2 ..) (Ev.pos h1 (Ev.pos h0 (Ev.pos h1 ?_)))⟩
        rw [hr]
        exact Ev.bind (Ev.is (hq x)) (Ev.neg hx h))
    (fun _ hp => ⟨-1, by rw [← hp, List.drop_eq_nil_of_le (by omega)]; simp, Ev.step (fun k => slices_IndexFunc_impl_Leg.l0.eq_2 ..) (Ev.neg (by omega) (Ev.now _))⟩)
    0 () (by omega) (by omega) rfl
  refine Ev.bind he (Ev.eq (Ev.now _) ?_)
  rw [Bool.eq_iff_iff, decide_eq_true_iff]
  exact hr
/-- Are two legs of one place? -/
def sameP (x w : S89) : Bool := (x.f0 == w.f0 && x.f1 == w.f1) && x.f2 == w.f2
theorem samePlace_eq (x w : S89) : (impl_samePlace.f x.f0 x.f1 x.f2 x.f3 w.f0 w.f1 w.f2 w.f3 == some true) = sameP x w := by
  unfold impl_samePlace.f sameP
  by_cases h0 : x.f0 = w.f0 <;> by_cases h1 : x.f1 = w.f1 <;> by_cases h2 : x.f2 = w.f2 <;> simp [h0, h1, h2]
def placeIn (l : List S89) (i : Int) (w : S89) : Bool := (l.take i.toNat).any fun x => sameP x w
def finCode (l : List S89) : Int := if ∀ g ∈ l, sumA g.f2 l = 0 then 0 else 1
theorem fin_eq (l : List S89) : impl_ContractFault.fin l = some (finCode l) := by
  unfold impl_ContractFault.fin finCode
  split <;> rfl
/-- What ContractFault tells of the last d legs. -/
def contractFrom (l : List S89) : Nat → Int
  | 0 => finCode l
  | d + 1 => (fun i : Int => (fun x : S89 => if legFault x.f0 x.f1 x.f2 x.f3 = 0 then (if placeIn l i x = true then 7 else contractFrom l d) else legFault x.f0 x.f1 x.f2 x.f3) (rd_T89 l i)) ((l.length : Int) - (d + 1))
def contractFault (id : Int) (l : List S89) : Int := if 1 ≤ id ∧ id ≤ 1000000000 then (if 2 ≤ (l.length : Int) ∧ (l.length : Int) ≤ 8 then contractFrom l l.length else 2) else 3
theorem impl_isId_eq (id : Int) : impl_isId.f id = some (decide (1 ≤ id ∧ id ≤ 1000000000)) := by
  unfold impl_isId.f
  rw [within_eq]
  rfl
theorem impl_ContractFault_ev (id : Int) (l : List S89) : Ev (fun k => impl_ContractFault.f k id l) (contractFault id l) := by
  unfold impl_ContractFault.f impl_size_impl_Leg.f contractFault
  refine Ev.bind (Ev.is (impl_isId_eq id)) ?_
  by_cases hid : 1 ≤ id ∧ id ≤ 1000000000
  · rw [if_pos hid]
    refine Ev.pos (decide_eq_true hid) (Ev.let (Ev.bind (Ev.is (within_eq _ _ _)) ?_))
    by_cases hl : 2 ≤ (l.length : Int) ∧ (l.length : Int) ≤ 8
    · rw [if_pos hl]
      refine Ev.pos (decide_eq_true hl) ?_
      have go : ∀ d : Nat, d ≤ l.length → Ev (fun k => impl_ContractFault.l0 k l (l.length : Int) ((l.length : Int) - d) id l) (contractFrom l d) := by
        intro d
        induction d with
        | zero => intro _; exact Ev.step (fun k => impl_ContractFault.l0.eq_2 ..) (Ev.neg (by omega) (Ev.is (fin_eq l)))
        | succ d ih =>
          intro hd
          have h := ih (by omega)
          refine Ev.step (fun k => impl_ContractFault.l0.eq_2 ..) (Ev.pos (by omega) (Ev.pos (by omega) (Ev.pos (by omega) (Ev.bind (impl_LegFault_ev ..) ?_))))
          rw [w64 (x := (l.length : Int) - ((d + 1 : Nat) : Int) + 1) (by omega) (by omega), show (l.length : Int) - ((d + 1 : Nat) : Int) + 1 = (l.length : Int) - d by omega]
          rw [show ((d + 1 : Nat) : Int) = (d : Int) + 1 by omega]
          unfold contractFrom
          refine Ev.cond (fun _ => Ev.pos (by omega) (Ev.bind ?_ (Ev.cond (fun _ => Ev.now _) (fun _ => h)))) (fun _ => Ev.now _)
          unfold CL_77.f
          exact @containsLeg_ev (CL_77.p _ _ _ _) (fun x => sameP x (rd_T89 l ((l.length : Int) - ((d : Int) + 1)))) (fun x => congrArg some (samePlace_eq x _)) _ (by rw [List.length_take]; omega)
      have := go l.length (by omega)
      rw [show (l.length : Int) - (l.length : Nat) = 0 by omega] at this
      exact this
    · rw [if_neg hl]
      exact Ev.neg (fun h => hl (of_decide_eq_true h)) (Ev.now _)
  · rw [if_neg hid]
    exact Ev.neg (fun h => hid (of_decide_eq_true h)) (Ev.now _)
theorem legFault_asset {s a t m : Int} (h : legFault s a t m = 0) : 0 ≤ t ∧ t ≤ 2 := by
  unfold legFault at h
  split at h
  · next hh => exact ⟨hh.2.2.2.2.1, hh.2.2.2.2.2.1⟩
  · omega
/-- The reference's sums. -/
structure SumsAre (x3 : List Int) (l : List S89) (i : Int) : Prop where
  three : x3.length = 3
  is : ∀ a : Int, 0 ≤ a → a ≤ 2 → rd x3 a = sumA a (l.take i.toNat)
  low : ∀ g ∈ l.take i.toNat, 0 ≤ g.f2 ∧ g.f2 ≤ 2
theorem rd_set (l : List Int) (a b v : Int) (ha : 0 ≤ a) (hb : 0 ≤ b) (hl : b < (l.length : Int)) : rd (l.set b.toNat v) a = if a = b then v else rd l a := by
  unfold rd
  rw [List.getD_eq_getElem?_getD, List.getD_eq_getElem?_getD, List.getElem?_set]
  by_cases h : a = b
  · subst h
    rw [if_pos rfl, if_pos rfl, if_pos (by omega)]
    rfl
  · rw [if_neg h, if_neg (by omega)]
theorem take_succ_at (l : List S89) (i : Int) (h0 : 0 ≤ i) (h1 : i < (l.length : Int)) : l.take (i + 1).toNat = l.take i.toNat ++ [rd_T89 l i] := by
  rw [show (i + 1).toNat = i.toNat + 1 by omega, List.take_add_one, List.getElem?_eq_getElem (show i.toNat < l.length by omega), rdLeg_at l i h0 h1]
  rfl
theorem sums_end (x3 : List Int) (l : List S89) (h : SumsAre x3 l (l.length : Int)) : Ev (fun k => spec_ContractFault.l2 k x3 0) (finCode l) := by
  have hall : l.take ((l.length : Int)).toNat = l := List.take_of_length_le (by omega)
  have his := h.is
  have hlow := h.low
  have h3 := h.three
  rw [hall] at his hlow
  refine Ev.upto1 (fun k (_ : Unit) i => spec_ContractFault.l2 k x3 i) 3 (by omega) (fun i _ => ∀ a : Int, 0 ≤ a → a < i → sumA a l = 0) (finCode l) (fun i _ h0 h1 hp => ?_) (fun _ hp => ?_) 0 () (by omega) (by omega) (fun a h0 h1 => by omega)
  · have hi := his i h0 (by omega)
    by_cases hz : rd x3 i = 0
    · refine .inl ⟨(), fun a a0 a1 => ?_, fun hh => Ev.step (fun k => spec_ContractFault.l2.eq_2 ..) (Ev.pos (by omega) (Ev.pos h0 (Ev.pos hz hh)))⟩
      by_cases ha : a = i
      · rw [ha, ← hi, hz]
      · exact hp a a0 (by omega)
    · have hf : finCode l = 1 := if_neg (fun hh => by
        obtain ⟨g, hg, hgi⟩ := sumA_mem (a := i) (l := l) (by rw [← hi]; exact hz)
        apply hz
        rw [hi, ← hgi]
        exact hh g hg)
      rw [hf]
      exact .inr (Ev.step (fun k => spec_ContractFault.l2.eq_2 ..) (Ev.pos (by omega) (Ev.pos h0 (Ev.neg hz (Ev.now _)))))
  · have hf : finCode l = 0 := by
      unfold finCode
      exact if_pos (fun (g : S89) hg => hp g.f2 (hlow g hg).1 (by have := (hlow g hg).2; omega))
    rw [hf]
    exact Ev.step (fun k => spec_ContractFault.l2.eq_2 ..) (Ev.neg (by omega) (Ev.now _))
theorem spec_legs_ev (id : Int) (l : List S89) (hl : (l.length : Int) ≤ 8) : ∀ d : Nat, d ≤ l.length → ∀ x3, SumsAre x3 l ((l.length : Int) - d) → Ev (fun k => spec_ContractFault.l0 k x3 ((l.length : Int) - d) id l) (contractFrom l d) := by
  intro d
  induction d with
  | zero =>
    intro _ x3 hs
    refine Ev.step (fun k => spec_ContractFault.l0.eq_2 ..) (Ev.neg (by omega) ?_)
    rw [show (l.length : Int) - ((0 : Nat) : Int) = (l.length : Int) by omega] at hs
    exact sums_end x3 l hs
  | succ d ih =>
    intro hd x3 hs
    refine Ev.step (fun k => spec_ContractFault.l0.eq_2 ..) (Ev.pos (by omega) (Ev.pos (by omega) (Ev.bind (spec_LegFault_ev ..) ?_)))
    rw [show ((d + 1 : Nat) : Int) = (d : Int) + 1 by omega] at hs ⊢
    unfold contractFrom
    refine Ev.cond (fun hz => ?_) (fun _ => Ev.now _)
    have hlow := legFault_asset hz
    clear hz
    have hi : (l.length : Int) - ((d : Int) + 1) + 1 = (l.length : Int) - d := by omega
    have h0 : 0 ≤ (l.length : Int) - ((d : Int) + 1) := by omega
    have h1 : (l.length : Int) - ((d : Int) + 1) < (l.length : Int) := by omega
    generalize (l.length : Int) - ((d : Int) + 1) = i at hi h0 h1 hs hlow ⊢
    have hst := sumA_take
    have htk := take_succ_at l i h0 h1
    have hsum : ∀ a, sumA a (l.take (i + 1).toNat) = if a = (rd_T89 l i).f2 then wrap64 (sumA a (l.take i.toNat) + (rd_T89 l i).f3) else sumA a (l.take i.toNat) := fun a => sumA_take a l i h0 h1
    generalize rd_T89 l i = w at hlow htk hsum ⊢
    have hlen : (l.take i.toNat).length = i.toNat := by rw [List.length_take]; omega
    refine Ev.upto1 (fun k (_ : Unit) j => spec_ContractFault.l1 k x3 i j id l w.f0 w.f1 w.f2 w.f3) i (by omega) (fun j _ => ((l.take i.toNat).drop j.toNat).any (fun x => sameP x w) = placeIn l i w) (if placeIn l i w = true then 7 else contractFrom l d)
      (fun j _ j0 j1 hp => ?_) (fun _ hp => ?_) 0 () (by omega) (by omega) (by simp [placeIn])
    · have hr := rdLeg_at l j j0 (by omega)
      have e : (l.take i.toNat)[j.toNat]'(by omega) = l[j.toNat]'(by omega) := by simp
      rw [drop_cons_at (l.take i.toNat) j.toNat (by omega), List.any_cons, e] at hp
      generalize l[j.toNat]'(by omega) = x at hr hp
      by_cases hx : sameP x w = true
      · have hk : placeIn l i w = true := by rw [← hp, hx]; rfl
        rw [hk, if_pos rfl]
        unfold sameP at hx
        rw [Bool.and_eq_true, Bool.and_eq_true, beq_iff_eq, beq_iff_eq, beq_iff_eq] at hx
        refine .inr (Ev.step (fun k => spec_ContractFault.l1.eq_2 ..) (Ev.pos j1 (Ev.pos j0 (Ev.pos (by omega) ?_))))
        rw [hr]
        exact Ev.pos hx.1.1 (Ev.pos hx.1.2 (Ev.pos hx.2 (Ev.now _)))
      · have hb : sameP x w = false := by simpa using hx
        rw [hb, Bool.false_or] at hp
        refine .inl ⟨(), by rw [show (j + 1).toNat = j.toNat + 1 by omega]; exact hp, fun hh => Ev.step (fun k => spec_ContractFault.l1.eq_2 ..) (Ev.pos j1 (Ev.pos j0 (Ev.pos (by omega) ?_)))⟩
        rw [hr]
        refine Ev.ite (fun e0 => Ev.ite (fun e1 => Ev.neg (fun e2 => hx ?_) hh) (fun _ => hh)) (fun _ => hh)
        unfold sameP
        simp [e0, e1, e2]
    · rw [List.drop_eq_nil_of_le (by omega)] at hp
      have hk : placeIn l i w = false := by rw [← hp]; rfl
      rw [hk, if_neg (by simp)]
      have h3 := hs.three
      refine Ev.step (fun k => spec_ContractFault.l1.eq_2 ..) (Ev.neg (by omega) (Ev.pos hlow.1 (Ev.pos (by omega) ?_)))
      rw [w64 (x := i + 1) (by omega) (by omega), hi]
      refine ih (by omega) _ ⟨by rw [List.length_set]; exact h3, fun a a0 a1 => ?_, ?_⟩
      · rw [rd_set x3 a w.f2 _ a0 hlow.1 (by omega), ← hi, hsum a, hs.is w.f2 hlow.1 hlow.2]
        by_cases ha : a = w.f2
        · rw [if_pos ha, if_pos ha, ha]
        · rw [if_neg ha, if_neg ha, hs.is a a0 a1]
      · rw [← hi, htk]
        intro g hg
        rcases List.mem_append.mp hg with hg | hg
        · exact hs.low g hg
        · rw [List.mem_singleton.mp hg]
          exact hlow
theorem spec_l1Id_eq (id : Int) : spec_l1Id.f id = some (decide (1 ≤ id ∧ id ≤ 1000000000)) := by
  unfold spec_l1Id.f
  rw [l1In_eq]
  rfl
theorem spec_ContractFault_ev (id : Int) (l : List S89) : Ev (fun k => spec_ContractFault.f k id l) (contractFault id l) := by
  unfold spec_ContractFault.f contractFault
  refine Ev.bind (Ev.is (spec_l1Id_eq id)) ?_
  by_cases hid : 1 ≤ id ∧ id ≤ 1000000000
  · rw [if_pos hid]
    refine Ev.pos (decide_eq_true hid) ?_
    by_cases hl : 2 ≤ (l.length : Int) ∧ (l.length : Int) ≤ 8
    · rw [if_pos hl]
      refine Ev.neg (by omega) (Ev.step (fun k => spec_ContractFault.j0.eq_2 ..) (Ev.neg (by simp only [decide_eq_true_eq]; omega) (Ev.pos (by omega) ?_)))
      have := spec_legs_ev id l hl.2 l.length (by omega) (List.replicate 3 0) ⟨rfl, fun a a0 a1 => by
        have : a = 0 ∨ a = 1 ∨ a = 2 := by omega
        rw [show (l.length : Int) - (l.length : Nat) = 0 by omega]
        rcases this with rfl | rfl | rfl <;> rfl, fun g hg => by
        rw [show (l.length : Int) - (l.length : Nat) = 0 by omega] at hg
        exact absurd hg (by simp)⟩
      rw [show (l.length : Int) - (l.length : Nat) = 0 by omega] at this
      exact this
    · rw [if_neg hl]
      by_cases h1 : (l.length : Int) < 2
      · exact Ev.pos h1 (Ev.step (fun k => spec_ContractFault.j0.eq_2 ..) (Ev.pos rfl (Ev.now _)))
      · exact Ev.neg h1 (Ev.step (fun k => spec_ContractFault.j0.eq_2 ..) (Ev.pos (by simp only [decide_eq_true_eq]; omega) (Ev.now _)))
  · rw [if_neg hid]
    exact Ev.neg (fun h => hid (of_decide_eq_true h)) (Ev.now _)

theorem rdLeg_set (l : List S89) (i : Int) (v : S89) (h : i.toNat < l.length) : rd_T89 (l.set i.toNat v) i = v := rdLeg (List.getElem?_set_self h)
/-- A Leg marked from k on. -/
def mkLeg (k : Int) : S89 := ⟨k, k + 1, k + 2, k + 3⟩
def mkLegL (n : Nat) (k : Int) : List S89 := (List.range n).map fun (i : Nat) => mkLeg (k + 4 * i)
theorem mkLegL_len (n : Nat) (k : Int) : (mkLegL n k).length = n := by simp [mkLegL]
theorem mkLegL_get (n : Nat) (k : Int) (i : Nat) (h : i < n) : (mkLegL n k)[i]? = some (mkLeg (k + 4 * i)) := by simp [mkLegL, h]
theorem markLegS_ev (l : List S89) (m : Int) (h0 : 0 ≤ m) (h1 : m + 4 * l.length ≤ 9000000000000000000) : Ev (fun k => laws_markLegS.f k l m) (m + 4 * l.length, mkLegL l.length m) := by
  unfold laws_markLegS.f
  refine Ev.upto1 (fun k (s : List S89 × Int) i => laws_markLegS.l0 k s.1 s.2 i) l.length (by omega) (fun i s => s.1.length = l.length ∧ s.2 = m + 4 * i ∧ s.1.take i.toNat = (mkLegL l.length m).take i.toNat) (m + 4 * l.length, mkLegL l.length m)
    (fun i s p0 p1 ⟨hl, hs, ht⟩ => .inl ⟨(s.1.set i.toNat (mkLeg s.2), s.2 + 4), ⟨by simp [hl], by simp [hs]; omega, ?_⟩, fun h => Ev.step (fun k => laws_markLegS.l0.eq_2 ..) (Ev.pos (by omega) ?_)⟩)
    (fun s ⟨hl, hs, ht⟩ => Ev.step (fun k => laws_markLegS.l0.eq_2 ..) (Ev.neg (by omega) (Ev.eq (Ev.now _) ?_)))
    0 (l, m) (by omega) (by omega) ⟨rfl, by simp, by simp⟩
  · show (s.1.set i.toNat (mkLeg s.2)).take (i + 1).toNat = _
    rw [show (i + 1).toNat = i.toNat + 1 by omega]
    refine take_set_succ _ _ _ _ (by omega) ht ?_
    rw [mkLegL_get _ _ _ (by omega), hs]
    congr 2
    omega
  · have b0 : 0 ≤ s.2 := by omega
    have b1 : s.2 + 4 ≤ 9000000000000000000 := by omega
    have w1 : wrap64 (s.2 + 1) = s.2 + 1 := by rw [w64 (by omega) (by omega)]
    have w2 : wrap64 (s.2 + 1 + 1) = s.2 + 2 := by rw [w64 (by omega) (by omega)]; omega
    have w3 : wrap64 (s.2 + 2 + 1) = s.2 + 3 := by rw [w64 (by omega) (by omega)]; omega
    have w4 : wrap64 (s.2 + 3 + 1) = s.2 + 4 := by rw [w64 (by omega) (by omega)]; omega
    refine Ev.pos p0 ?_
    simp only [w1, w2, w3, w4, Option.bind_some]
    simp only [rdLeg_set _ _ _ (show i.toNat < s.1.length by omega), List.set_set]
    exact h
  · rw [List.take_of_length_le (by omega), List.take_of_length_le (by simp [mkLegL_len])] at ht
    rw [ht, hs]
theorem heldLegS_ev (n : Nat) (m : Int) (h0 : 0 ≤ m) (h1 : m + 4 * n ≤ 9000000000000000000) : Ev (fun k => laws_heldLegS.f k (mkLegL n m) m) (m + 4 * n) := by
  unfold laws_heldLegS.f
  refine Ev.upto1 (fun k (s : Int) i => laws_heldLegS.l0 k (mkLegL n m) s i) n (by omega) (fun i s => s = m + 4 * i) (m + 4 * n)
    (fun i s p0 p1 hs => .inl ⟨s + 4, by omega, fun h => Ev.step (fun k => laws_heldLegS.l0.eq_2 ..) (Ev.pos (by rw [mkLegL_len]; exact p1) (Ev.pos p0 ?_))⟩)
    (fun s hs => Ev.step (fun k => laws_heldLegS.l0.eq_2 ..) (Ev.neg (by rw [mkLegL_len]; omega) (Ev.eq (Ev.now _) hs)))
    0 m (by omega) (by omega) (by omega)
  rw [rdLeg (mkLegL_get n m i.toNat (by omega)), show m + 4 * ((i.toNat : Nat) : Int) = s by omega]
  have w1 : wrap64 (s + 1) = s + 1 := by rw [w64 (by omega) (by omega)]
  have w2 : wrap64 (s + 1 + 1) = s + 2 := by rw [w64 (by omega) (by omega)]; omega
  have w3 : wrap64 (s + 2 + 1) = s + 3 := by rw [w64 (by omega) (by omega)]; omega
  have w4 : wrap64 (s + 3 + 1) = s + 4 := by rw [w64 (by omega) (by omega)]; omega
  simp only [w1, w2, w3, w4]
  exact Ev.pos rfl (Ev.pos rfl (Ev.pos rfl (Ev.pos rfl (h))))

theorem markContract_ev (id : Int) (l : List S89) (hl : l.length ≤ 1048576) : Ev (fun k => laws_markContract.f k id l 1) (1 + 4 * (l.length : Int), mkLegL l.length 1) := by
  unfold laws_markContract.f
  exact Ev.bind (markLegS_ev l 1 (by omega) (by omega)) (Ev.now _)

theorem contractFault_fewV {id : Int} {l : List S89} (h : contractFault id l = 0) : 2 ≤ (l.length : Int) ∧ (l.length : Int) ≤ 8 := by
  unfold contractFault at h
  split at h
  · split at h
    · next h2 => exact h2
    · omega
  · omega
/-- A leg turned round. -/
def revLeg (g : S89) : S89 := ⟨g.f0, g.f1, g.f2, wrap64 (-g.f3)⟩
theorem rev_succ (l : List S89) (i : Int) (h0 : 0 ≤ i) (h1 : i < (l.length : Int)) : (l.take (i + 1).toNat).map revLeg = (l.take i.toNat).map revLeg ++ [revLeg (rd_T89 l i)] := by
  rw [take_succ_at l i h0 h1, List.map_append]
  rfl
theorem impl_rev_ev (l : List S89) (hl : (l.length : Int) ≤ 8) (n : Int) : Ev (fun k => impl_ReverseOf.l0 k l (l.length : Int) 0 n []) (0, n, l.map revLeg) := by
  refine Ev.upto1 (fun k (x : List S89) i => impl_ReverseOf.l0 k l (l.length : Int) i n x) l.length (by omega) (fun i x => x = (l.take i.toNat).map revLeg) (0, n, l.map revLeg) (fun i x h0 h1 hx => .inl ?_) (fun x hx => ?_) 0 [] (by omega) (by omega) rfl
  · have hs := rev_succ l i h0 h1
    have hn : x.length ≤ l.length := by rw [hx, List.length_map, List.length_take]; omega
    rw [← hx] at hs
    exact ⟨x ++ [revLeg (rd_T89 l i)], hs.symm, fun h => Ev.step (fun k => impl_ReverseOf.l0.eq_2 ..) (Ev.pos h1 (Ev.pos h0 (Ev.pos h1 (Ev.pos (by omega) h))))⟩
  · rw [List.take_of_length_le (by omega)] at hx
    rw [← hx]
    exact Ev.step (fun k => impl_ReverseOf.l0.eq_2 ..) (Ev.neg (by omega) (Ev.now _))
theorem spec_rev_ev (id : Int) (l : List S89) (hl : (l.length : Int) ≤ 8) (n : Int) : Ev (fun k => spec_ReverseOf.l0 k 0 id l n []) (0, n, l.map revLeg) := by
  refine Ev.upto1 (fun k (x : List S89) i => spec_ReverseOf.l0 k i id l n x) l.length (by omega) (fun i x => x = (l.take i.toNat).map revLeg) (0, n, l.map revLeg) (fun i x h0 h1 hx => .inl ?_) (fun x hx => ?_) 0 [] (by omega) (by omega) rfl
  · have hs := rev_succ l i h0 h1
    have hn : x.length ≤ l.length := by rw [hx, List.length_map, List.length_take]; omega
    rw [← hx] at hs
    exact ⟨x ++ [revLeg (rd_T89 l i)], hs.symm, fun h => Ev.step (fun k => spec_ReverseOf.l0.eq_2 ..) (Ev.pos h1 (Ev.pos h0 (Ev.pos (by omega) h)))⟩
  · rw [List.take_of_length_le (by omega)] at hx
    rw [← hx]
    exact Ev.step (fun k => spec_ReverseOf.l0.eq_2 ..) (Ev.neg (by omega) (Ev.now _))
def reverseR (id : Int) (l : List S89) (n : Int) : Int × Int × List S89 := if contractFault id l = 0 then (if 1 ≤ n ∧ n ≤ 1000000000 then (0, n, l.map revLeg) else (3, 0, [])) else (contractFault id l, 0, [])
theorem reverseR_len (id : Int) (l : List S89) (n : Int) : (reverseR id l n).2.2.length ≤ 8 := by
  unfold reverseR
  split
  · next h =>
    have := contractFault_fewV h
    split
    · show (l.map revLeg).length ≤ 8
      rw [List.length_map]
      omega
    · simp
  · simp
theorem impl_ReverseOf_ev (id : Int) (l : List S89) (n : Int) : Ev (fun k => impl_ReverseOf.f k id l n) (reverseR id l n) := by
  unfold impl_ReverseOf.f reverseR
  refine Ev.bind (impl_ContractFault_ev id l) (Ev.cond (fun hc => Ev.bind (Ev.is (impl_isId_eq n)) ?_) (fun _ => Ev.now _))
  by_cases ha : 1 ≤ n ∧ n ≤ 1000000000
  · rw [if_pos ha]
    exact Ev.pos (decide_eq_true ha) (impl_rev_ev l (contractFault_fewV hc).2 n)
  · rw [if_neg ha]
    exact Ev.neg (fun h => ha (of_decide_eq_true h)) (Ev.now _)
theorem spec_ReverseOf_ev (id : Int) (l : List S89) (n : Int) : Ev (fun k => spec_ReverseOf.f k id l n) (reverseR id l n) := by
  unfold spec_ReverseOf.f reverseR
  refine Ev.bind (spec_ContractFault_ev id l) (Ev.cond (fun hc => Ev.bind (Ev.is (spec_l1Id_eq n)) ?_) (fun _ => Ev.now _))
  by_cases ha : 1 ≤ n ∧ n ≤ 1000000000
  · rw [if_pos ha]
    exact Ev.pos (decide_eq_true ha) (spec_rev_ev id l (contractFault_fewV hc).2 n)
  · rw [if_neg ha]
    exact Ev.neg (fun h => ha (of_decide_eq_true h)) (Ev.now _)

theorem eqContractResult_ev (a b : Int) (l : List S89) (hl : l.length ≤ 8) : Ev (fun k => laws_eqContractResult.f k a b l a b l) true := by
  unfold laws_eqContractResult.f
  exact Ev.pos rfl (Ev.bind (eqContract_ev b l (by omega)) (Ev.pos rfl (Ev.now _)))
theorem markContractResult_ev (a b : Int) (l : List S89) (hl : l.length ≤ 8) : Ev (fun k => laws_markContractResult.f k a b l 1) (1 + 4 * (l.length : Int), mkLegL l.length 1) := by
  unfold laws_markContractResult.f
  exact Ev.bind (markContract_ev b l (by omega)) (Ev.now _)
theorem heldContractResult_ev (a b : Int) (n : Nat) (hn : n ≤ 8) : Ev (fun k => laws_heldContractResult.f k a b (mkLegL n 1) 1) (1 + 4 * (n : Int)) := by
  unfold laws_heldContractResult.f laws_heldContract.f
  exact Ev.bind (Ev.bind (heldLegS_ev n 1 (by omega) (by omega)) (Ev.neg (by omega) (Ev.now _))) (Ev.neg (by omega) (Ev.now _))
theorem FnExactReverseOf : ∀ (a0_0 : Int) (l0_1 : List (S119)) (a1 : Int), (Lit.int .i64 a0_0).wf = true → okL ok119 l0_1 → (Lit.int .i64 a1).wf = true → ∃ k, laws_FnExactReverseOf.f k a0_0 l0_1 a1 = some true := by
  intro i l n _ hl _
  refine Ev.rounds (r := true) ?_
  unfold laws_FnExactReverseOf.f
  rw [szContract_eq i l hl.1 _ (by decide) (by decide)]
  refine Ev.let (Ev.ite (fun _ => Ev.now _) (fun h => ?_))
  obtain ⟨b1, e1⟩ := szRest_ok (by decide) h
  have t1 := toContract_ev i l (by omega)
  have hlm : (l.map legOf).length ≤ 1048576 := by simp; omega
  generalize l.map legOf = m at t1 hlm
  have hi := impl_ReverseOf_ev i m n
  have hn := reverseR_len i m n
  have hs := spec_ReverseOf_ev i m n
  generalize reverseR i m n = R at hi hs hn
  have he := eqContractResult_ev R.1 R.2.1 R.2.2 hn
  have hh := heldContractResult_ev R.1 R.2.1 R.2.2.length hn
  refine Ev.step (fun k => laws_FnExactReverseOf.j0.eq_2 ..) (Ev.bind t1 (Ev.bind hs (Ev.bind t1 (Ev.bind hi (Ev.bind he (Ev.pos rfl ?_))))))
  refine Ev.step (fun k => laws_FnExactReverseOf.j1.eq_2 ..) (Ev.bind t1 (Ev.bind (eqContract_ev i m (by omega)) (Ev.pos rfl ?_)))
  refine Ev.step (fun k => laws_FnExactReverseOf.j2.eq_2 ..) (Ev.bind (markContract_ev i m hlm) (Ev.neg (by simp; omega) (Ev.bind he ?_)))
  refine Ev.step (fun k => laws_FnExactReverseOf.j3.eq_2 ..) (Ev.neg (by simp) ?_)
  refine Ev.step (fun k => laws_FnExactReverseOf.j4.eq_2 ..) (Ev.bind (markContractResult_ev _ _ _ hn) (Ev.bind hh (Ev.neg (by omega) ?_)))
  refine Ev.step (fun k => laws_FnExactReverseOf.j5.eq_2 ..) (Ev.pos rfl ?_)
  refine Ev.step (fun k => laws_FnExactReverseOf.j6.eq_2 ..) (Ev.bind t1 (Ev.bind hi (Ev.bind he (Ev.pos rfl ?_))))
  exact Ev.step (fun k => laws_FnExactReverseOf.j7.eq_2 ..) (Ev.bind hh (Ev.neg (by omega) (Ev.pos rfl (Ev.now _))))

end Go.Proofs.Ytooiamkaipdmpaa.Pure
