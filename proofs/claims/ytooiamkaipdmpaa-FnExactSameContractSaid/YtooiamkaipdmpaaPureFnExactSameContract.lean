/- FnExactSameContract, the pure statement: the program's SameContract and the reference's tell the same of any two contracts, and the arguments are as they were. No conditions. -/
import Derived.Test.YtooiamkaipdmpaaPFnExactSameContractx4
import Derived.Test.YtooiamkaipdmpaaOFnExactSameContract
namespace Go.Proofs.Ytooiamkaipdmpaa.Pure
open Go.RowKit Go.Proofs.Ytooiamkaipdmpaa.PFnExactSameContract Go.Proofs.YtooiamkaipdmpaaW.PrintWords Go.Proofs.YtooiamkaipdmpaaW.PrintLast Go.Proofs.YtooiamkaipdmpaaW.PrintMore Go.Proofs.Ytooiamkaipdmpaa.Opens
set_option linter.unusedVariables false
set_option linter.unusedSimpArgs false
/-! ### words of this text's own -/
theorem w64 {x : Int} (h0 : -9223372036854775808 ≤ x) (h1 : x ≤ 9223372036854775807) : wrap64 x = x := by
  unfold wrap64
  omega
theorem wfU8 {x : Int} (h : (Lit.int .u8 x).wf = true) : 0 ≤ x ∧ x < 256 := by
  simp [Lit.wf, IntKind.min, IntKind.max, IntKind.signed, IntKind.bits] at h
  omega
theorem wfI64 {x : Int} (h : (Lit.int .i64 x).wf = true) : -9223372036854775808 ≤ x ∧ x ≤ 9223372036854775807 := by
  simp [Lit.wf, IntKind.min, IntKind.max, IntKind.signed, IntKind.bits] at h
  omega
section
variable {α β σ : Type}
theorem Ev.ite {g f : Nat → Option α} {c : Prop} [Decidable c] {r : α} (ht : c → Ev g r) (hf : ¬ c → Ev f r) : Ev (fun k => if c then g k else f k) r := by
  by_cases h : c
  · simp only [if_pos h]; exact ht h
  · simp only [if_neg h]; exact hf h
theorem Ev.pos {g f : Nat → Option α} {c : Prop} [Decidable c] {r : α} (h : c) (ht : Ev g r) : Ev (fun k => if c then g k else f k) r := Ev.ite (fun _ => ht) (fun n => absurd h n)
theorem Ev.neg {g f : Nat → Option α} {c : Prop} [Decidable c] {r : α} (h : ¬ c) (hf : Ev f r) : Ev (fun k => if c then g k else f k) r := Ev.ite (fun y => absurd y h) (fun _ => hf)
theorem Ev.let {f : Nat → α → Option β} {a : α} {r : β} (k : Ev (fun n => f n a) r) : Ev (fun n => (some a).bind (f n)) r := Ev.bind (Ev.now a) k
theorem Ev.is {a : Option α} {r : α} (h : a = some r) : Ev (fun _ => a) r := ⟨0, fun _ _ => h⟩
theorem Ev.eq {g : Nat → Option α} {a b : α} (h : Ev g a) (e : a = b) : Ev g b := e ▸ h
/-- A loop that counts i up to n, with a state s: what it comes to, if 'P i s' leads from round to round. -/
theorem Ev.upto (F : Nat → σ → Int → Option α) (n : Int) (hn : n ≤ 9223372036854775807) (P : Int → σ → Prop) (R : α → Prop)
    (step : ∀ i s, 0 ≤ i → i < n → P i s → (∃ s', P (i + 1) s' ∧ ∀ r, Ev (fun k => F k s' (wrap64 (i + 1))) r → Ev (fun k => F k s i) r) ∨ (∃ r, R r ∧ Ev (fun k => F k s i) r))
    (stop : ∀ s, P n s → ∃ r, R r ∧ Ev (fun k => F k s n) r) (i : Int) (s : σ) (h0 : 0 ≤ i) (h1 : i ≤ n) (hP : P i s) : ∃ r, R r ∧ Ev (fun k => F k s i) r := by
  obtain ⟨d, hd⟩ : ∃ d : Nat, n - i = d := ⟨(n - i).toNat, by omega⟩
  induction d generalizing i s with
  | zero =>
    obtain rfl : i = n := by omega
    exact stop s hP
  | succ d ih =>
    rcases step i s h0 (by omega) hP with ⟨s', hP', h⟩ | h
    · obtain ⟨r, hr, he⟩ := ih (i + 1) s' (by omega) (by omega) hP' (by omega)
      exact ⟨r, hr, h r (by rw [w64 (by omega) (by omega)]; exact he)⟩
    · exact h
/-- The same, where what it comes to is one value. -/
theorem Ev.upto1 (F : Nat → σ → Int → Option α) (n : Int) (hn : n ≤ 9223372036854775807) (P : Int → σ → Prop) (r : α)
    (step : ∀ i s, 0 ≤ i → i < n → P i s → (∃ s', P (i + 1) s' ∧ (Ev (fun k => F k s' (wrap64 (i + 1))) r → Ev (fun k => F k s i) r)) ∨ Ev (fun k => F k s i) r)
    (stop : ∀ s, P n s → Ev (fun k => F k s n) r) (i : Int) (s : σ) (h0 : 0 ≤ i) (h1 : i ≤ n) (hP : P i s) : Ev (fun k => F k s i) r := by
  obtain ⟨d, hd⟩ : ∃ d : Nat, n - i = d := ⟨(n - i).toNat, by omega⟩
  induction d generalizing i s with
  | zero =>
    obtain rfl : i = n := by omega
    exact stop s hP
  | succ d ih =>
    rcases step i s h0 (by omega) hP with ⟨s', hP', h⟩ | h
    · exact h (by rw [w64 (by omega) (by omega)]; exact ih (i + 1) s' (by omega) (by omega) hP' (by omega))
    · exact h
theorem take_set_succ (l acc : List α) (i : Nat) (v : α) (h : i < acc.length) (ht : acc.take i = l.take i) (hv : l[i]? = some v) : (acc.set i v).take (i + 1) = l.take (i + 1) := by
  rw [List.take_add_one, List.take_add_one, hv, List.getElem?_set_self h, List.take_set_of_le (Nat.le_refl _), ht]
/-- A row filled cell by cell. -/
theorem Ev.fill (F : Nat → List α → Int → Option (List α)) (l : List α) (hl : l.length ≤ 9223372036854775807)
    (step : ∀ (i : Int) s (v : α), 0 ≤ i → i < (l.length : Int) → s.length = l.length → l[i.toNat]? = some v → Ev (fun k => F k (s.set i.toNat v) (wrap64 (i + 1))) l → Ev (fun k => F k s i) l)
    (stop : ∀ s, s.length = l.length → Ev (fun k => F k s (l.length : Int)) s) (s : List α) (hs : s.length = l.length) : Ev (fun k => F k s 0) l :=
  Ev.upto1 F l.length (by omega) (fun i s => s.length = l.length ∧ s.take i.toNat = l.take i.toNat) l
    (fun i s h0 h1 ⟨hs, ht⟩ => .inl ⟨s.set i.toNat (l[i.toNat]'(by omega)), ⟨by simp [hs], by
      rw [show (i + 1).toNat = i.toNat + 1 by omega]
      exact take_set_succ l s _ _ (by omega) ht (List.getElem?_eq_getElem (by omega))⟩, step i s _ h0 h1 hs (List.getElem?_eq_getElem (by omega))⟩)
    (fun s ⟨hs, ht⟩ => by
      rw [List.take_of_length_le (by omega), List.take_of_length_le (by omega)] at ht
      have := stop s hs
      subst ht
      exact this) 0 s (by omega) (by omega) ⟨hs, by simp⟩
/-- A loop that asks of each place, and comes to the end. -/
theorem Ev.each {F : Nat → Int → Option β} {r : β} (n : Nat) (hn : (n : Int) ≤ 9223372036854775807) (step : ∀ i : Int, 0 ≤ i → i < n → Ev (fun k => F k (wrap64 (i + 1))) r → Ev (fun k => F k i) r) (stop : Ev (fun k => F k (n : Int)) r) : Ev (fun k => F k 0) r :=
  Ev.upto1 (fun k (_ : Unit) i => F k i) n hn (fun _ _ => True) r (fun i _ h0 h1 _ => .inl ⟨(), trivial, step i h0 h1⟩) (fun _ _ => stop) 0 () (by omega) (by omega) trivial
end
theorem rd_get (l : List Int) (i : Int) (h0 : 0 ≤ i) (h1 : i < (l.length : Int)) : rd l i = l[i.toNat]'(by omega) := by
  unfold rd
  rw [List.getD_eq_getElem?_getD, List.getElem?_eq_getElem (by omega)]
  rfl
theorem rd_of {l : List Int} {i : Int} {v : Int} (h : l[i.toNat]? = some v) : rd l i = v := by
  unfold rd
  rw [List.getD_eq_getElem?_getD, h]
  rfl
theorem drop_cons_at {α : Type} (l : List α) (i : Nat) (h : i < l.length) : l.drop i = l[i] :: l.drop (i + 1) := List.drop_eq_getElem_cons h
/-- What is left of a bound behind a list, or less than nothing. -/
def szRest (n : Nat) (left : Int) : Int := if left - n < 0 then -1 else left - n
theorem szRest_ok {n : Nat} {left : Int} (h0 : left ≤ 1048576) (h1 : ¬ szRest n left < 0) : (n : Int) ≤ left ∧ szRest n left = left - n := by
  unfold szRest at *
  by_cases h : left - n < 0
  · rw [if_pos h] at h1; omega
  · rw [if_neg h]; exact ⟨by omega, rfl⟩

theorem szLegS_eq (l : List S119) (hl : l.length ≤ maxLen) (left : Int) (h0 : 0 ≤ left) (h1 : left ≤ 1048576) : laws_szLegS.f l left = some (szRest l.length left) := by
  unfold maxLen at hl
  unfold laws_szLegS.f szRest
  rw [w64 (by omega) (by omega)]
  split <;> rfl
theorem szContract_eq (id : Int) (l : List S119) (hl : l.length ≤ maxLen) (left : Int) (h0 : 0 ≤ left) (h1 : left ≤ 1048576) : laws_szContract.f id l left = some (szRest l.length left) := by
  unfold laws_szContract.f
  rw [szLegS_eq l hl left h0 h1]
  simp only [Option.bind_some]
  split
  · next h => unfold szRest at *; split at h <;> simp_all <;> omega
  · rfl

theorem rdLeg {l : List S89} {i : Int} {v : S89} (h : l[i.toNat]? = some v) : rd_T89 l i = v := by
  unfold rd_T89
  rw [List.getD_eq_getElem?_getD, h]
  rfl
theorem rdLegL {l : List S119} {i : Int} {v : S119} (h : l[i.toNat]? = some v) : rd_T119 l i = v := by
  unfold rd_T119
  rw [List.getD_eq_getElem?_getD, h]
  rfl
theorem rdLeg_at (l : List S89) (i : Int) (h0 : 0 ≤ i) (h1 : i < (l.length : Int)) : rd_T89 l i = l[i.toNat]'(by omega) := rdLeg (List.getElem?_eq_getElem (by omega))

/-- What the law's mirror of a Leg stands for. -/
def legOf (x : S119) : S89 := ⟨x.f0, x.f1, x.f2, x.f3⟩
theorem toLegS_ev (l : List S119) (hl : l.length ≤ 1048576) : Ev (fun k => laws_toLegS.f k l) (l.map legOf) := by
  unfold laws_toLegS.f
  refine Ev.pos (by omega) (Ev.pos (by omega) ?_)
  refine Ev.fill (fun k s i => laws_toLegS.l0 k l s i) (l.map legOf) (by simp; omega)
    (fun i s v h0 h1 hs hv h => ?_)
    (fun s hs => Ev.step (fun k => laws_toLegS.l0.eq_2 ..) (Ev.neg (by simp) (Ev.now _))) _ (by simp)
  rw [List.length_map] at h1 hs
  rw [List.getElem?_map] at hv
  obtain ⟨w, hw, rfl⟩ := Option.map_eq_some_iff.1 hv
  refine Ev.step (fun k => laws_toLegS.l0.eq_2 ..) (Ev.pos h1 (Ev.pos h0 ?_))
  rw [rdLegL hw]
  exact Ev.let (Ev.pos (by omega) h)

theorem toContract_ev (id : Int) (l : List S119) (hl : l.length ≤ 1048576) : Ev (fun k => laws_toContract.f k id l) (id, l.map legOf) := by
  unfold laws_toContract.f
  exact Ev.bind (toLegS_ev l hl) (Ev.now _)

theorem eqLeg_rfl (a0 : Int) (a1 : Int) (a2 : Int) (a3 : Int) : laws_eqLeg.f a0 a1 a2 a3 a0 a1 a2 a3 = some true := by
  unfold laws_eqLeg.f
  simp
theorem eqLegS_ev (l : List S89) (hl : (l.length : Int) ≤ 9223372036854775807) : Ev (fun k => laws_eqLegS.f k l l) true := by
  unfold laws_eqLegS.f
  refine Ev.pos rfl ?_
  refine Ev.each (F := fun k i => laws_eqLegS.l0 k l l i) l.length hl (fun i h0 h1 h => Ev.step (fun k => laws_eqLegS.l0.eq_2 ..) (Ev.pos h1 (Ev.pos h0 (Ev.pos h1 ?_)))) (Ev.step (fun k => laws_eqLegS.l0.eq_2 ..) (Ev.neg (by omega) (Ev.now _)))
  simp only [eqLeg_rfl]
  exact Ev.let (Ev.pos rfl h)

theorem eqContract_ev (id : Int) (l : List S89) (hl : (l.length : Int) ≤ 9223372036854775807) : Ev (fun k => laws_eqContract.f k id l id l) true := by
  unfold laws_eqContract.f
  exact Ev.pos rfl (Ev.bind (eqLegS_ev l hl) (Ev.pos rfl (Ev.now _)))

theorem leg_ne (a b : S89) : (!(a.f0 == b.f0) || (!(a.f1 == b.f1) || (!(a.f2 == b.f2) || (!(a.f3 == b.f3))))) = true ↔ a ≠ b := by
  cases a; cases b
  simp
  omega
/-- Two lists, place by place. -/
theorem Ev.alike {γ : Type} (F : Nat → Int → Option Bool) (l m : List γ) (hlm : l.length = m.length) (hl : (l.length : Int) ≤ 9223372036854775807)
    (same : ∀ i a r, 0 ≤ i → i < (l.length : Int) → l[i.toNat]? = some a → m[i.toNat]? = some a → Ev (fun k => F k (wrap64 (i + 1))) r → Ev (fun k => F k i) r)
    (other : ∀ i a b, 0 ≤ i → i < (l.length : Int) → l[i.toNat]? = some a → m[i.toNat]? = some b → a ≠ b → Ev (fun k => F k i) false)
    (stop : Ev (fun k => F k (l.length : Int)) true) : ∃ r, (r = true ↔ l = m) ∧ Ev (fun k => F k 0) r := by
  refine Ev.upto (fun k (_ : Unit) i => F k i) l.length hl (fun i _ => l.take i.toNat = m.take i.toNat) (fun r => r = true ↔ l = m) (fun i s h0 h1 ht => ?_) (fun s ht => ?_) 0 () (by omega) (by omega) (by simp)
  · have e1 : l[i.toNat]? = some (l[i.toNat]'(by omega)) := List.getElem?_eq_getElem (by omega)
    have e2 : m[i.toNat]? = some (m[i.toNat]'(by omega)) := List.getElem?_eq_getElem (by omega)
    by_cases e : l[i.toNat]'(by omega) = m[i.toNat]'(by omega)
    · refine .inl ⟨(), ?_, fun r => same i _ r h0 h1 e1 (e ▸ e2)⟩
      rw [show (i + 1).toNat = i.toNat + 1 by omega, List.take_add_one, List.take_add_one, ht, e1, e2, e]
    · refine .inr ⟨false, ⟨fun h => (by cases h), fun h => absurd (by simp only [h]) e⟩, other i _ _ h0 h1 e1 e2 e⟩
  · rw [List.take_of_length_le (by omega), List.take_of_length_le (by omega)] at ht
    exact ⟨true, ⟨fun _ => ht, fun _ => rfl⟩, stop⟩
theorem spec_SameContract_ev (i : Int) (l : List S89) (j : Int) (m : List S89) (hl : (l.length : Int) ≤ 9223372036854775807) : ∃ r, (r = true ↔ i = j ∧ l = m) ∧ Ev (fun k => spec_SameContract.f k i l j m) r := by
  unfold spec_SameContract.f
  by_cases e : i = j
  · by_cases e2 : l.length = m.length
    · obtain ⟨r, hr, h⟩ := Ev.alike (fun k n => spec_SameContract.l0 k n i l j m) l m e2 hl
        (fun n a r h0 h1 ha hb h => Ev.step (fun k => spec_SameContract.l0.eq_2 ..) (Ev.pos h1 (Ev.pos h0 (Ev.pos (by omega) (Ev.neg (by rw [rdLeg ha, rdLeg hb, leg_ne]; exact fun h => h rfl) h)))))
        (fun n a b h0 h1 ha hb hn => Ev.step (fun k => spec_SameContract.l0.eq_2 ..) (Ev.pos h1 (Ev.pos h0 (Ev.pos (by omega) (Ev.pos (by rw [rdLeg ha, rdLeg hb, leg_ne]; exact hn) (Ev.now _))))))
        (Ev.step (fun k => spec_SameContract.l0.eq_2 ..) (Ev.neg (by omega) (Ev.now _)))
      exact ⟨r, by rw [hr]; simp [e], Ev.pos e (Ev.step (fun k => spec_SameContract.j0.eq_2 ..) (Ev.neg (by simp [e2]) h))⟩
    · exact ⟨false, by simp; intro _ h; rw [h] at e2; exact e2 rfl, Ev.pos e (Ev.step (fun k => spec_SameContract.j0.eq_2 ..) (Ev.pos (by simp; omega) (Ev.now _)))⟩
  · exact ⟨false, by simp [e], Ev.neg e (Ev.step (fun k => spec_SameContract.j0.eq_2 ..) (Ev.pos rfl (Ev.now _)))⟩
theorem impl_SameContract_ev (i : Int) (l : List S89) (j : Int) (m : List S89) (hl : (l.length : Int) ≤ 9223372036854775807) : ∃ r, (r = true ↔ i = j ∧ l = m) ∧ Ev (fun k => impl_SameContract.f k i l j m) r := by
  unfold impl_SameContract.f
  by_cases e : i = j
  · by_cases e2 : l.length = m.length
    · obtain ⟨r, hr, h⟩ := Ev.alike (fun k n => slices_Equal_impl_Leg.l0 k l m (l.length : Int) n) l m e2 hl
        (fun n a r h0 h1 ha hb h => Ev.step (fun k => slices_Equal_impl_Leg.l0.eq_2 ..) (Ev.pos h1 (Ev.pos h0 (Ev.pos h1 (Ev.pos (by omega) (Ev.neg (by rw [rdLeg ha, rdLeg hb, leg_ne]; exact fun h => h rfl) h))))))
        (fun n a b h0 h1 ha hb hn => Ev.step (fun k => slices_Equal_impl_Leg.l0.eq_2 ..) (Ev.pos h1 (Ev.pos h0 (Ev.pos h1 (Ev.pos (by omega) (Ev.pos (by rw [rdLeg ha, rdLeg hb, leg_ne]; exact hn) (Ev.now _)))))))
        (Ev.step (fun k => slices_Equal_impl_Leg.l0.eq_2 ..) (Ev.neg (by omega) (Ev.now _)))
      refine ⟨r, by rw [hr]; simp [e], Ev.pos e (Ev.bind (a := r) ?_ (Ev.now _))⟩
      unfold slices_Equal_impl_Leg.f
      exact Ev.pos (by omega) h
    · refine ⟨false, by simp; intro _ h; rw [h] at e2; exact e2 rfl, Ev.pos e (Ev.bind (a := false) ?_ (Ev.now _))⟩
      unfold slices_Equal_impl_Leg.f
      exact Ev.neg (by omega) (Ev.now _)
  · exact ⟨false, by simp [e], Ev.neg e (Ev.now _)⟩
theorem FnExactSameContract : ∀ (a0_0 : Int) (l0_1 : List (S119)) (a1_0 : Int) (l1_1 : List (S119)), (Lit.int .i64 a0_0).wf = true → okL ok119 l0_1 → (Lit.int .i64 a1_0).wf = true → okL ok119 l1_1 → ∃ k, laws_FnExactSameContract.f k a0_0 l0_1 a1_0 l1_1 = some true := by
  intro i l j m _ hl _ hm
  refine Ev.rounds (r := true) ?_
  unfold laws_FnExactSameContract.f
  rw [szContract_eq i l hl.1 _ (by decide) (by decide)]
  refine Ev.let (Ev.ite (fun _ => Ev.now _) (fun h => ?_))
  obtain ⟨b1, e1⟩ := szRest_ok (by decide) h
  rw [e1, szContract_eq j m hm.1 _ (by omega) (by omega)]
  refine Ev.let (Ev.ite (fun _ => Ev.now _) (fun h => ?_))
  obtain ⟨b2, e2⟩ := szRest_ok (by omega) h
  have t1 := toContract_ev i l (by omega)
  have t2 := toContract_ev j m (by omega)
  obtain ⟨r, hr, hs⟩ := spec_SameContract_ev i (l.map legOf) j (m.map legOf) (by simp; omega)
  obtain ⟨r', hr', hi⟩ := impl_SameContract_ev i (l.map legOf) j (m.map legOf) (by simp; omega)
  obtain rfl : r' = r := by cases r <;> cases r' <;> simp_all
  refine Ev.bind t1 (Ev.bind t2 (Ev.bind hs (Ev.bind t1 (Ev.bind t2 (Ev.bind hi (Ev.neg (by simp) ?_))))))
  exact Ev.bind t1 (Ev.bind (eqContract_ev _ _ (by simp; omega)) (Ev.pos rfl (Ev.bind t2 (Ev.bind (eqContract_ev _ _ (by simp; omega)) (Ev.pos rfl (Ev.now _))))))

end Go.Proofs.Ytooiamkaipdmpaa.Pure
